import PyProof.Rows.All
import Wide.All
import OpenK.AllK
import Wide.FinOn
import HandS.ForMost
import HandS.ForExc
import HandS.Wide
import HandS.IsInst
import HandS.ExcIs
import HandS.Style
import HandS.Flow
import HandS.Zip
import HandS.SortInts
import HandS.SortRule
import HandS.SetFor
import HandS.Strs
import HandS.More
import HandS.Dict
import HandS.Exc
import HandS.ExcValue
import HandS.Conv
import HandS.WordsDict
import PySem.Challenge.RW_surebest_k50_whole_given
set_option Elab.async false
set_option linter.all false
set_option maxRecDepth 100000
set_option maxHeartbeats 4000000
/-! plain words -/
namespace SB
/-- the item at a place -/
def nth {α : Type} [Inhabited α] (xs : List α) (i : Int) : α := xs.getD i.toNat default
theorem nth_eq {α : Type} [Inhabited α] {xs : List α} {i : Int} {x : α} (h : xs[i.toNat]? = some x) : nth xs i = x := by
  unfold nth
  rw [List.getD_eq_getElem?_getD, h]
  rfl
theorem nth_get {α : Type} [Inhabited α] {xs : List α} {i : Int} (h0 : 0 ≤ i) (h : i < xs.length) : xs[i.toNat]? = some (nth xs i) := by
  have hl : i.toNat < xs.length := by omega
  unfold nth
  rw [List.getD_eq_getElem?_getD, List.getElem?_eq_getElem hl]
  rfl
theorem nth_nat {α : Type} [Inhabited α] {xs : List α} {i : Nat} {x : α} (h : xs[i]? = some x) : nth xs (i : Int) = x := nth_eq (by simpa using h)
theorem nth_mem {α : Type} [Inhabited α] {xs : List α} {i : Int} (h0 : 0 ≤ i) (h : i < xs.length) : nth xs i ∈ xs := List.mem_of_getElem? (nth_get h0 h)
theorem drop_at {α : Type} {xs : List α} {i : Nat} {x : α} (h : xs[i]? = some x) : xs.drop i = x :: xs.drop (i + 1) := by
  obtain ⟨h1, h2⟩ := List.getElem?_eq_some_iff.mp h
  rw [List.drop_eq_getElem_cons h1, h2]
end SB
/-! The layer of these proofs: a stable heap S, owned objects O, data Dp over S; one step lemma a reading. -/
namespace SB
open PySem PySem.Spec PyProof.Rows L2

/-! ### the stable heap and the owned objects -/
structure Wd (K : PySem.W.Frag) (S H : Hp) (O : List (Addr × HO)) : Prop where
  sub : Same S H
  own : ∀ p ∈ O, H p.1 = some p.2 ∧ S p.1 = none
  nd : (O.map (·.1)).Nodup
section
variable {K : PySem.W.Frag} {S S' H : Hp} {O : List (Addr × HO)} {p q : Addr} {o u : HO} {n : Nat}
theorem Wd.all (H : Hp) : Wd K H H [] := ⟨Same.refl H, fun _ h => absurd h (by simp), List.nodup_nil⟩
theorem Wd.frS (W : Wd K S H O) (h : H q = none) : S q = none := W.sub.free h
theorem Wd.frO (W : Wd K S H O) (h : H q = none) : q ∉ O.map (·.1) := fun hm => by
  obtain ⟨r, hr, e⟩ := List.mem_map.mp hm
  have := (W.own r hr).1
  rw [e, h] at this
  cases this
theorem Wd.at (W : Wd K S H O) (n : Nat) (h : O[n]? = some (p, o)) : H p = some o := (W.own _ (List.mem_of_getElem? h)).1
theorem Wd.atS (W : Wd K S H O) (n : Nat) (h : O[n]? = some (p, o)) : S p = none := (W.own _ (List.mem_of_getElem? h)).2
theorem same_new (h : S q = none) : Same S (upd S q o) := fun b u e => by rw [upd_ne (ne_of_none e h)]; exact e
/-- a new object that is ours to change -/
theorem Wd.alloc (W : Wd K S H O) (h : H q = none) : Wd K S (upd H q o) ((q, o) :: O) := by
  refine ⟨fun b u e => ?_, fun r hr => ?_, ?_⟩
  · rw [upd_ne (ne_of_none (W.sub b u e) h)]
    exact W.sub b u e
  · rcases List.mem_cons.mp hr with rfl | hr
    · exact ⟨upd_same, W.frS h⟩
    · exact ⟨by rw [upd_ne (ne_of_none (W.own r hr).1 h)]; exact (W.own r hr).1, (W.own r hr).2⟩
  · rw [List.map_cons]
    exact List.nodup_cons.mpr ⟨W.frO h, W.nd⟩
/-- a new object that stays -/
theorem Wd.new (W : Wd K S H O) (h : H q = none) : Wd K (upd S q o) (upd H q o) O := by
  refine ⟨fun b u e => ?_, fun r hr => ?_, W.nd⟩
  · by_cases hb : b = q
    · subst hb; rw [upd_same] at e ⊢; exact e
    · rw [upd_ne hb] at e ⊢
      exact W.sub b u e
  · have hne : r.1 ≠ q := ne_of_none (W.own r hr).1 h
    exact ⟨by rw [upd_ne hne]; exact (W.own r hr).1, by rw [upd_ne hne]; exact (W.own r hr).2⟩
theorem nodup_at : ∀ {O : List (Addr × HO)} {n m : Nat} {a b : Addr × HO}, (O.map (·.1)).Nodup → O[n]? = some a → O[m]? = some b → a.1 = b.1 → n = m := fun {O n m a b} nd h1 h2 e => by
  have g1 : (O.map (·.1))[n]? = some a.1 := by rw [List.getElem?_map, h1]; rfl
  have g2 : (O.map (·.1))[m]? = some a.1 := by rw [List.getElem?_map, h2, e]; rfl
  exact nd_ix nd g1 g2
/-- one of ours is written -/
theorem Wd.put (W : Wd K S H O) (n : Nat) (h : O[n]? = some (p, o)) : Wd K S (upd H p u) (O.set n (p, u)) := by
  have hn : n < O.length := (List.getElem?_eq_some_iff.mp h).1
  have hS := W.atS n h
  refine ⟨fun b x e => ?_, fun r hr => ?_, ?_⟩
  · rw [upd_ne (ne_of_none e hS)]
    exact W.sub b x e
  · obtain ⟨m, hm⟩ := List.getElem?_of_mem hr
    by_cases hmn : m = n
    · subst hmn
      rw [List.getElem?_set_self hn] at hm
      cases hm
      exact ⟨upd_same, hS⟩
    · rw [List.getElem?_set_ne (Ne.symm hmn)] at hm
      have hne : r.1 ≠ p := fun e => hmn (nodup_at W.nd hm h e)
      have := W.own r (List.mem_of_getElem? hm)
      exact ⟨by rw [upd_ne hne]; exact this.1, this.2⟩
  · have e : (O.set n (p, u)).map (·.1) = O.map (·.1) := by
      have g : (O.map (·.1))[n]? = some p := by rw [List.getElem?_map, h]; rfl
      apply List.ext_getElem?
      intro i
      rw [List.getElem?_map, List.getElem?_map, List.getElem?_set]
      by_cases hi : n = i
      · subst hi
        rw [if_pos rfl, if_pos hn, h]
        rfl
      · rw [if_neg hi]
    rw [e]
    exact W.nd
/-- one of ours is ours no longer: it stays as it is -/
theorem Wd.give (W : Wd K S H O) (n : Nat) (h : O[n]? = some (p, o)) : Wd K (upd S p o) H (O.eraseIdx n) := by
  have hnd : ((O.eraseIdx n).map (·.1)).Nodup := W.nd.sublist ((List.eraseIdx_sublist O n).map _)
  refine ⟨fun b x e => ?_, fun r hr => ?_, hnd⟩
  · by_cases hb : b = p
    · subst hb; rw [upd_same] at e; cases e; exact W.at n h
    · rw [upd_ne hb] at e
      exact W.sub b x e
  · have hr' : r ∈ O := (List.eraseIdx_sublist O n).subset hr
    have hne : r.1 ≠ p := by
      intro e
      obtain ⟨i, hi⟩ := List.getElem?_of_mem hr
      rw [List.getElem?_eraseIdx] at hi
      split at hi
      · have := nodup_at W.nd hi h e
        omega
      · have := nodup_at W.nd hi h e
        omega
    exact ⟨by have := (W.own r hr').1; exact this, by rw [upd_ne hne]; exact (W.own r hr').2⟩
/-- a stable heap that grew -/
theorem Wd.lst (W : Wd K S H O) {xs : List V} (h : SqL K S p xs) : SqL K H p xs := W.sub.seq h
theorem same_rd {H H' : Hp} {a : Addr} {u : HO} (e : Same H H') (h : Rd H a u) : Rd H' a u := by
  rcases h with h | ⟨o, h⟩
  · exact .inl (e _ _ h)
  · exact .inr ⟨o, e _ _ h⟩
theorem same_t {K : PySem.W.Frag} {H H' : Hp} {a : Addr} {xs : List V} (e : Same H H') (h : SqT K H a xs) : SqT K H' a xs := by
  rcases h with h | h
  · exact .inl (same_rd e h)
  · exact .inr h
theorem Wd.tup (W : Wd K S H O) {xs : List V} (h : SqT K S p xs) : SqT K H p xs := same_t W.sub h
end

/-! ### data -/
section
variable {K : PySem.W.Frag} {S S' H : Hp} {O : List (Addr × HO)}
mutual
theorem dp_mono (hs : Same S S') : ∀ {v : V} {d : PyData}, Dp K S v d → Dp K S' v d
  | _, _, .non => .non
  | _, _, .bl b => .bl b
  | _, _, .int i => .int i
  | _, _, .str x => .str x
  | _, _, .lst h a => .lst (hs.seq h) (dpAll_mono hs a)
  | _, _, .tup h a => .tup (same_t hs h) (dpAll_mono hs a)
theorem dpAll_mono (hs : Same S S') : ∀ {vs : List V} {ds : List PyData}, DpAll K S vs ds → DpAll K S' vs ds
  | _, _, .nil => .nil
  | _, _, .cons h a => .cons (dp_mono hs h) (dpAll_mono hs a)
end
theorem dpAll_len : ∀ {vs : List V} {ds : List PyData}, DpAll K S vs ds → vs.length = ds.length
  | _, _, .nil => rfl
  | _, _, .cons _ a => by rw [List.length_cons, List.length_cons, dpAll_len a]
theorem dpAll_get : ∀ {vs : List V} {ds : List PyData} {i : Nat} {d : PyData}, DpAll K S vs ds → ds[i]? = some d → ∃ v, vs[i]? = some v ∧ Dp K S v d
  | _, _, _, _, .nil, h => by simp at h
  | _, _, 0, _, .cons h a, e => by
    rw [List.getElem?_cons_zero] at e
    cases e
    exact ⟨_, rfl, h⟩
  | _, _, i + 1, _, .cons h a, e => by
    rw [List.getElem?_cons_succ] at e
    obtain ⟨v, h1, h2⟩ := dpAll_get a e
    exact ⟨v, by rw [List.getElem?_cons_succ]; exact h1, h2⟩
theorem dpAll_get' : ∀ {vs : List V} {ds : List PyData} {i : Nat} {v : V}, DpAll K S vs ds → vs[i]? = some v → ∃ d, ds[i]? = some d ∧ Dp K S v d
  | _, _, _, _, .nil, h => by simp at h
  | _, _, 0, _, .cons h a, e => by
    rw [List.getElem?_cons_zero] at e
    cases e
    exact ⟨_, rfl, h⟩
  | _, _, i + 1, _, .cons h a, e => by
    rw [List.getElem?_cons_succ] at e
    obtain ⟨d, h1, h2⟩ := dpAll_get' a e
    exact ⟨d, by rw [List.getElem?_cons_succ]; exact h1, h2⟩
theorem dpAll_app : ∀ {vs : List V} {ds : List PyData} {v : V} {d : PyData}, DpAll K S vs ds → Dp K S v d → DpAll K S (vs ++ [v]) (ds ++ [d])
  | _, _, _, _, .nil, h => .cons h .nil
  | _, _, _, _, .cons h a, h' => .cons h (dpAll_app a h')
theorem dpAll_cat : ∀ {vs ws : List V} {ds es : List PyData}, DpAll K S vs ds → DpAll K S ws es → DpAll K S (vs ++ ws) (ds ++ es)
  | _, _, _, _, .nil, h => h
  | _, _, _, _, .cons h a, h' => .cons h (dpAll_cat a h')
theorem dpAll_set : ∀ {vs : List V} {ds : List PyData} {v : V} {d : PyData} (i : Nat), DpAll K S vs ds → Dp K S v d → DpAll K S (vs.set i v) (ds.set i d)
  | _, _, _, _, _, .nil, h => .nil
  | _, _, _, _, 0, .cons h a, h' => .cons h' a
  | _, _, _, _, i + 1, .cons h a, h' => .cons h (dpAll_set i a h')
theorem dpAll_take : ∀ {vs : List V} {ds : List PyData} (n : Nat), DpAll K S vs ds → DpAll K S (vs.take n) (ds.take n)
  | _, _, 0, _ => .nil
  | _, _, _ + 1, .nil => .nil
  | _, _, n + 1, .cons h a => .cons h (dpAll_take n a)
theorem dpAll_drop : ∀ {vs : List V} {ds : List PyData} (n : Nat), DpAll K S vs ds → DpAll K S (vs.drop n) (ds.drop n)
  | _, _, 0, h => h
  | _, _, _ + 1, .nil => .nil
  | _, _, n + 1, .cons h a => dpAll_drop n a
theorem dpAll_ints : ∀ ns : List Int, DpAll K S (ns.map V.int) (ns.map PyData.int)
  | [] => .nil
  | n :: ns => .cons (.int n) (dpAll_ints ns)
theorem dpAll_bools : ∀ bs : List Bool, DpAll K S (bs.map V.bl) (bs.map PyData.bool)
  | [] => .nil
  | n :: ns => .cons (.bl n) (dpAll_bools ns)
theorem ints_of : ∀ {vs : List V} {ns : List Int}, DpAll K S vs (ns.map PyData.int) → vs = ns.map V.int
  | _, [], .nil => rfl
  | _, n :: ns, .cons (.int _) a => by rw [ints_of a]; rfl
theorem bools_of : ∀ {vs : List V} {ns : List Bool}, DpAll K S vs (ns.map PyData.bool) → vs = ns.map V.bl
  | _, [], .nil => rfl
  | _, n :: ns, .cons (.bl _) a => by rw [bools_of a]; rfl
theorem dp_int_eq {v : V} {i : Int} : Dp K S v (.int i) → v = .int i
  | .int _ => rfl
theorem dp_bl_eq {v : V} {i : Bool} : Dp K S v (.bool i) → v = .bl i
  | .bl _ => rfl
theorem dp_non_eq {v : V} : Dp K S v .none → v = .non
  | .non => rfl
theorem dp_str_eq {v : V} {i : Str} : Dp K S v (.str i) → v = .str i
  | .str _ => rfl
theorem dp_lst_ex {v : V} {ds : List PyData} : Dp K S v (.list ds) → ∃ a vs, v = .ref a ∧ SqL K S a vs ∧ DpAll K S vs ds
  | .lst h a => ⟨_, _, rfl, h, a⟩
theorem dp_tup_ex {v : V} {ds : List PyData} : Dp K S v (.tuple ds) → ∃ a vs, v = .ref a ∧ SqT K S a vs ∧ DpAll K S vs ds
  | .tup h a => ⟨_, _, rfl, h, a⟩
/-- a list that is given away -/
theorem dp_give {p : Addr} {vs : List V} {ds : List PyData} (h : S p = none) (a : DpAll K S vs ds) : Dp K (upd S p (.lst vs)) (.ref p) (.list ds) :=
  .lst (.inl (.inl upd_same)) (dpAll_mono (same_new h) a)
/-- what comes, by its datum: a flat value is written out -/
def Kn (K : PySem.W.Frag) (S : Hp) (d : PyData) (P : V → Prop) : Prop :=
  match d with
  | .none => P .non
  | .bool b => P (.bl b)
  | .int i => P (.int i)
  | .str x => P (.str x)
  | d => ∀ u, Dp K S u d → P u
theorem Kn.of {d : PyData} {P : V → Prop} (h : Kn K S d P) : ∀ u, Dp K S u d → P u := fun u hu => by
  cases hu with
  | non => exact h
  | bl b => exact h
  | int i => exact h
  | str x => exact h
  | lst h1 h2 => exact h _ (.lst h1 h2)
  | tup h1 h2 => exact h _ (.tup h1 h2)
theorem kn_int {i : Int} {P : V → Prop} (h : P (.int i)) : Kn K S (.int i) P := h
theorem kn_bl {i : Bool} {P : V → Prop} (h : P (.bl i)) : Kn K S (.bool i) P := h
theorem kn_str {i : Str} {P : V → Prop} (h : P (.str i)) : Kn K S (.str i) P := h
theorem kn_non {P : V → Prop} (h : P .non) : Kn K S .none P := h
theorem kn_tup {ds : List PyData} {P : V → Prop} (h : ∀ u, Dp K S u (.tuple ds) → P u) : Kn K S (.tuple ds) P := h
theorem kn_lst {ds : List PyData} {P : V → Prop} (h : ∀ u, Dp K S u (.list ds) → P u) : Kn K S (.list ds) P := h
theorem kn_any {d : PyData} {P : V → Prop} (h : ∀ u, Dp K S u d → P u) : Kn K S d P := by
  cases d with
  | none => exact h _ .non
  | bool b => exact h _ (.bl b)
  | int i => exact h _ (.int i)
  | str x => exact h _ (.str x)
  | list ds => exact h
  | tuple ds => exact h
  | dict _ => exact h
end
end SB
/-! Step lemmas: a reading's head, what it asks. -/
namespace SB
open PySem PySem.Spec PyProof.Rows L2
/-! ### readings by names (a name keeps what follows in one piece) -/
def NewT (Q : VK) (xs : List V) (H : Hp) : Prop := xs.length ≤ sizeLine ∧ ∀ p, H p = none → Q (.ref p) (upd H p (.tup xs))
def NewL (Q : VK) (xs : List V) (H : Hp) : Prop := xs.length ≤ sizeLine ∧ ∀ p, H p = none → Q (.ref p) (upd H p (.lst xs))
def rLen (K : PySem.W.Frag) : List V → Hp → VK → Prop := fun xs H Q => ∃ p ys, xs = [.ref p] ∧ (SqL K H p ys ∨ SqT K H p ys) ∧ Q (.int (ys.length : Int)) H
def rAbs : List V → Hp → VK → Prop := fun xs H Q => ∃ i, xs = [.int i] ∧ Q (.int (if i < 0 then -i else i)) H
def rMx2 : List V → Hp → VK → Prop := fun xs H Q => ∃ i j, xs = [.int i, .int j] ∧ Q (.int (if j > i then j else i)) H
def rInt1 : List V → Hp → VK → Prop := fun xs H Q => (∃ i, xs = [.int i] ∧ Q (.int i) H) ∨ ∃ k, xs = [.bl k] ∧ Q (.int (if k then 1 else 0)) H
def rLst (K : PySem.W.Frag) : List V → Hp → VK → Prop := fun xs H Q => ∃ p ys, xs = [.ref p] ∧ (SqL K H p ys ∨ SqT K H p ys) ∧ ∀ l, H l = none → Q (.ref l) (upd H l (.lst ys))
def rNon : R2 := fun x y H Q => y = .non ∧ Q (.bl (decide (x = .non))) H
def rNotNon : R2 := fun x y H Q => y = .non ∧ Q (.bl (!decide (x = .non))) H
section
variable {X : Cx}
theorem cl_len : CallR X (.builtin "len") (rLen X.K) := call_len_seq
theorem cl_abs : CallR X (.builtin "abs") rAbs := call_abs
theorem cl_max2 (hc : X.calm = true) : CallR X (.builtin "max") rMx2 := call_max2 hc
theorem cl_int1 : CallR X (.type "int") rInt1 := call_int1
theorem cl_list : CallR X (.type "list") (rLst X.K) := call_list_of
theorem ol_isN : OpR X (compareOp .Is) rNon := op_isN
theorem ol_notN : OpR X (compareOp .IsNot) rNotNon := op_notN
end
/-- a list's method -/
def BmR (K : PySem.W.Frag) (T : String) (P : V → Hp → Prop) (x : V) (H : Hp) : Prop := tyV K T x H ∧ P x H
/-- truth -/
def TruQ (K : PySem.W.Frag) (Q : Bool → Hp → Prop) (x : V) (H : Hp) : Prop := ∃ k, TruV K x H k ∧ Q k H
def tTr (K : PySem.W.Frag) (ta : TE) : TT := fun σ H Q => ta σ H fun x H' => TruQ K Q x H'
theorem pl_truth {X : Cx} {a : Expr} {ta : TE} (ha : PE X a ta) (he : ∀ whole, isTrue a X.env whole = (do let v ← whole; standAt a.pos; holding [v] (truthy v))) : PT X a (tTr X.K ta) := pt_truth ha he
/-- a field read, stored; a method found -/
def FldR (K : PySem.W.Frag) (f : Str) (Q : VK) (x : V) (H : Hp) : Prop := ∃ a C dx fs v, x = .ref a ∧ H a = some (.ins C dx fs) ∧ Cls K C ∧ NoAttr K C f ∧ fs.lookup f = some v ∧ Q v H
def FldS (K : PySem.W.Frag) (f : Str) (y : V) (N : Hp → Prop) (x : V) (H : Hp) : Prop := ∃ a C dx fs, x = .ref a ∧ H a = some (.ins C dx fs) ∧ Cls K C ∧ NoAttr K C f ∧ fs.length < 1000 ∧ N (upd H a (.ins C dx (putF f y fs)))
def MthR (C : Addr) (m : Str) (P : V → Hp → Prop) (x : V) (H : Hp) : Prop := ∃ a dx fs, x = .ref a ∧ H a = some (.ins C dx fs) ∧ fs.lookup m = none ∧ P x H
section
variable {K : PySem.W.Frag} {S H : Hp} {O : List (Addr × HO)} {σ : L2.St} {Q : VK} {ta tb tc te : TE} {t u : TS} {x y v : V}
  {nx bk ct : L2.St → Hp → Prop} {rt : VK} {D : Ends} {i : Nat} {QA : List V → Hp → Prop} {QT : Bool → Hp → Prop} {a b : Int} {r r' : R2} {tt tu : TT}

/-! ### statements -/
theorem x_seq (h : t ⟨u ⟨nx, rt, bk, ct⟩, rt, bk, ct⟩ σ H) : tSeq t u ⟨nx, rt, bk, ct⟩ σ H := h
theorem x_next (h : nx σ H) : tNext ⟨nx, rt, bk, ct⟩ σ H := h
theorem x_brk (h : bk σ H) : tBreak ⟨nx, rt, bk, ct⟩ σ H := h
theorem x_asg {g : TG} (h : te σ H fun x H1 => g x σ H1 nx) : tAsg te g ⟨nx, rt, bk, ct⟩ σ H := h
theorem x_gname {Q : L2.St → Hp → Prop} (h : Q (σ.set i (some v)) H) : gName i v σ H Q := h
theorem x_gsub {to ti : TE} {t : TSet} {Q : L2.St → Hp → Prop} (h : to σ H fun o H1 => ti σ H1 fun i H2 => t o i v H2 fun H3 => Q σ H3) : gSub to ti t v σ H Q := h
theorem x_drop (h : te σ H fun _ H1 => nx σ H1) : tDrop te ⟨nx, rt, bk, ct⟩ σ H := h
theorem x_ret (h : te σ H rt) : tRet te ⟨nx, rt, bk, ct⟩ σ H := h
theorem x_retN (h : rt .non H) : tRetN ⟨nx, rt, bk, ct⟩ σ H := h
theorem x_if (h : tt σ H fun b H1 => if b = true then t D σ H1 else u D σ H1) : tIfS tt t u D σ H := h
theorem x_fld {f : Str} (h : te σ H fun y H1 => ta σ H1 fun x H2 => FldS K f y (nx σ) x H2) : sFld K ta te f ⟨nx, rt, bk, ct⟩ σ H := h
theorem x_fldr {f : Str} (h : ta σ H fun x H1 => FldR K f Q x H1) : tFld K ta f σ H Q := h
theorem x_gtup {n : Nat} {gs : TGs} {Q : L2.St → Hp → Prop} (h : ∃ a xs, v = .ref a ∧ SqT K H a xs ∧ xs.length = n ∧ gs xs σ H Q) : gTup K n gs v σ H Q := h
theorem x_gcons {g : TG} {gs : TGs} {vs : List V} {Q : L2.St → Hp → Prop} (h : g v σ H fun σ' H' => gs vs σ' H' Q) : gCons g gs (v :: vs) σ H Q := ⟨v, vs, rfl, h⟩
theorem x_gnil {Q : L2.St → Hp → Prop} (h : Q σ H) : gNil [] σ H Q := ⟨rfl, h⟩

/-! ### branches -/
theorem x_iteT {A B : Prop} (h : A) : if true = true then A else B := by rw [if_pos rfl]; exact h
theorem x_iteF {A B : Prop} (h : B) : if false = true then A else B := by rw [if_neg Bool.false_ne_true]; exact h
theorem x_ite {c : Bool} {A B : Prop} (h1 : c = true → A) (h2 : c = false → B) : if c = true then A else B := by
  cases c
  · rw [if_neg Bool.false_ne_true]; exact h2 rfl
  · rw [if_pos rfl]; exact h1 rfl
theorem x_iteD {p : Prop} [Decidable p] {A B : Prop} (h1 : p → A) (h2 : ¬ p → B) : if decide p = true then A else B :=
  x_ite (fun h => h1 (of_decide_eq_true h)) (fun h => h2 (of_decide_eq_false h))
theorem x_iteN {c : Bool} {A B : Prop} (h1 : c = false → A) (h2 : c = true → B) : if (!c) = true then A else B := by
  cases c
  · exact x_iteT (h1 rfl)
  · exact x_iteF (h2 rfl)
theorem x_iteND {p : Prop} [Decidable p] {A B : Prop} (h1 : ¬ p → A) (h2 : p → B) : if (!decide p) = true then A else B :=
  x_iteN (fun h => h1 (of_decide_eq_false h)) (fun h => h2 (of_decide_eq_true h))
theorem x_no {c : Bool} {A B : Prop} (e : c = false) (h : B) : if c = true then A else B := by rw [e]; exact x_iteF h
theorem x_sure {c : Bool} {A B : Prop} (e : c = true) (h : A) : if c = true then A else B := by rw [e]; exact x_iteT h
theorem x_nT {A B : Prop} (h : B) : if (!true) = true then A else B := x_no rfl h
theorem x_nF {A B : Prop} (h : A) : if (!false) = true then A else B := x_sure rfl h
theorem x_iteTo {c d : Bool} {A B : Prop} (e : c = d) (h : if d = true then A else B) : if c = true then A else B := e ▸ h

/-! ### values -/
theorem x_var (h : σ[i]? = some (some v)) (q : Q v H) : tVar i σ H Q := ⟨v, h, q⟩
theorem x_c (q : Q v H) : tC v σ H Q := q
theorem x_op (h : ta σ H fun x H1 => tb σ H1 fun y H2 => r x y H2 Q) : tOp r ta tb σ H Q := h
theorem x_un {r : V → Hp → VK → Prop} (h : ta σ H fun x H1 => r x H1 Q) : tUn r ta σ H Q := h
theorem x_I0 {g : Int → Int → V} (q : Q (g a b) H) : rI0 g (.int a) (.int b) H Q := ⟨a, b, rfl, rfl, q⟩
theorem x_I {C : Int → Int → Prop} {g : Int → Int → V} (hc : C a b) (q : Q (g a b) H) : rI C g (.int a) (.int b) H Q := ⟨a, b, rfl, rfl, hc, q⟩
theorem x_U {g : Int → V} (q : Q (g a) H) : rU g (.int a) H Q := ⟨a, rfl, q⟩
theorem x_test (h : te σ H fun x H' => ∃ k, x = .bl k ∧ QT k H') : tTest te σ H QT := h
theorem x_tB (h : te σ H fun x H' => ∃ k, x = .bl k ∧ QT k H') : tB te σ H QT := h
theorem x_k {c : Bool} (h : QT c H) : ∃ k, V.bl c = .bl k ∧ QT k H := ⟨c, rfl, h⟩
theorem x_kx {c : Bool} {P : Bool → Prop} (h : P c) : ∃ k, V.bl c = .bl k ∧ P k := ⟨c, rfl, h⟩
theorem x_chain (h : ta σ H fun x H1 => tb σ H1 fun y H2 => r x y H2 fun z H3 => ∃ k, z = .bl k ∧ (if k = true then tc σ H3 fun w' H4 => r' y w' H4 Q else Q (.bl false) H3)) : tChain r r' ta tb tc σ H Q := h
theorem x_and (h : tt σ H fun c H1 => if c = true then tu σ H1 QT else QT false H1) : tAnd tt tu σ H QT := h
theorem x_or (h : tt σ H fun c H1 => if c = true then QT true H1 else tu σ H1 QT) : tOr tt tu σ H QT := h
theorem x_not (h : tt σ H fun c H1 => QT (!c) H1) : tNot tt σ H QT := h
theorem x_andV (h : ta σ H fun x H1 => ∃ c, x = .bl c ∧ if c = true then tb σ H1 Q else Q (.bl false) H1) : tAndV ta tb σ H Q := h
theorem x_orV (h : ta σ H fun x H1 => ∃ c, x = .bl c ∧ if c = true then Q (.bl true) H1 else tb σ H1 Q) : tOrV ta tb σ H Q := h
theorem x_notV (h : ta σ H fun x H1 => ∃ c, x = .bl c ∧ Q (.bl (!c)) H1) : tNotV ta σ H Q := h
theorem x_ifE (h : tt σ H fun c H1 => if c = true then ta σ H1 Q else tb σ H1 Q) : tIf tt ta tb σ H Q := h
theorem x_isN (q : Q (.bl (decide (x = .non))) H) : rNon x .non H Q := ⟨rfl, q⟩
theorem x_notN (q : Q (.bl (!decide (x = .non))) H) : rNotNon x .non H Q := ⟨rfl, q⟩
theorem x_eqI (q : Q (.bl (decide (a = b))) H) : rEq (.int a) (.int b) H Q := ⟨rfl, by rw [dec_int, Bool.beq_eq_decide_eq]; exact q⟩
theorem x_neI (q : Q (.bl (!decide (a = b))) H) : rNe (.int a) (.int b) H Q := ⟨rfl, by rw [dec_int, Bool.beq_eq_decide_eq]; exact q⟩
theorem x_eqB {a b : Bool} (q : Q (.bl (decide (a = b))) H) : rEq (.bl a) (.bl b) H Q := ⟨rfl, by rw [dec_bl, Bool.beq_eq_decide_eq]; exact q⟩
theorem x_neB {a b : Bool} (q : Q (.bl (!decide (a = b))) H) : rNe (.bl a) (.bl b) H Q := ⟨rfl, by rw [dec_bl, Bool.beq_eq_decide_eq]; exact q⟩
theorem x_eqV {c : Bool} (h : scal x y = true) (e : decide (x = y) = c) (q : Q (.bl c) H) : rEq x y H Q := ⟨h, by rw [e]; exact q⟩
theorem x_neV {c : Bool} (h : scal x y = true) (e : decide (x = y) = c) (q : Q (.bl (!c)) H) : rNe x y H Q := ⟨h, by rw [e]; exact q⟩

/-! ### calls -/
theorem x_nil (q : QA [] H) : tNil σ H QA := q
theorem x_cons {tr : TA} (h : te σ H fun x H1 => tr σ H1 fun xs H2 => QA (x :: xs) H2) : tCons te tr σ H QA := h
theorem x_call {sp : Sp} {dvs : List V} {E : XK} {t : TA} (h : t σ H fun vs H1 => sp (vs ++ dvs) H1 Q E) : tCall sp dvs E t σ H Q := h
theorem x_call0 {sp : Sp} {E : XK} {t : TA} (h : t σ H fun vs H1 => sp vs H1 Q E) : tCall sp [] E t σ H Q := by
  have e : (fun (vs : List V) (H1 : Hp) => sp (vs ++ []) H1 Q E) = fun vs H1 => sp vs H1 Q E := by funext vs H1; rw [List.append_nil]
  show t σ H fun vs H1 => sp (vs ++ []) H1 Q E
  rw [e]
  exact h
theorem x_callS {sp : Sp} {E : L2.St → XK} {t : TA} (h : t σ H fun vs H1 => sp vs H1 Q (E σ)) : tCallS sp E t σ H Q := h
theorem x_cb {r : List V → Hp → VK → Prop} {t : TA} (h : t σ H fun vs H1 => r vs H1 Q) : tCB r t σ H Q := h
theorem x_ttup {t : TA} (h : t σ H fun xs H1 => NewT Q xs H1) : tTup t σ H Q := h
theorem x_tlst {t : TA} (h : t σ H fun xs H1 => NewL Q xs H1) : tLst t σ H Q := h
theorem x_meth {C : Addr} {m : Str} {sp : Sp} {E : XK} {t : TA} (h : ta σ H fun x H1 => MthR C m (fun x H2 => t σ H2 fun vs H3 => sp (x :: vs) H3 Q E) x H1) : tMeth C m sp [] E ta t σ H Q := by
  have e : (fun (x : V) (H1 : Hp) => MthR C m (fun x H2 => t σ H2 fun vs H3 => sp (x :: vs) H3 Q E) x H1) = fun x H1 => ∃ a dx fs, x = .ref a ∧ H1 a = some (.ins C dx fs) ∧ fs.lookup m = none ∧ t σ H1 fun vs H2 => sp (x :: (vs ++ [])) H2 Q E := by
    funext x H1
    unfold MthR
    simp only [List.append_nil]
  show ta σ H _
  rw [← e]
  exact h

/-! ### new tuples and lists -/
theorem sz {n : Nat} (h : n ≤ 1000000) : n ≤ sizeLine := Nat.le_trans h (by decide)
theorem szl {n : Nat} (h : n ≤ 1000000) : n < sizeLine := Nat.lt_of_le_of_lt h (by decide)
/-- a new tuple that stays -/
theorem x_tup {vs : List V} {ds : List PyData} (W : Wd K S H O) (hd : DpAll K S vs ds) (hl : vs.length ≤ 1000000) (k : ∀ S' H' v, Wd K S' H' O → Same S S' → Dp K S' v (.tuple ds) → Q v H') : NewT Q vs H :=
  ⟨sz hl, fun p hp => k _ _ _ (W.new hp) (same_new (W.frS hp)) (.tup (.inl (.inl upd_same)) (dpAll_mono (same_new (W.frS hp)) hd))⟩
theorem x_tup' {vs : List V} {ds : List PyData} (W : Wd K S H O) (hd : DpAll K S vs ds) (k : ∀ S' H' v, Wd K S' H' O → Same S S' → Dp K S' v (.tuple ds) → Q v H') :
    ∀ p, H p = none → Q (.ref p) (upd H p (.tup vs)) :=
  fun p hp => k _ _ _ (W.new hp) (same_new (W.frS hp)) (.tup (.inl (.inl upd_same)) (dpAll_mono (same_new (W.frS hp)) hd))
/-- a new list that stays -/
theorem x_lst {vs : List V} {ds : List PyData} (W : Wd K S H O) (hd : DpAll K S vs ds) (hl : vs.length ≤ 1000000) (k : ∀ S' H' v, Wd K S' H' O → Same S S' → Dp K S' v (.list ds) → Q v H') : NewL Q vs H :=
  ⟨sz hl, fun p hp => k _ _ _ (W.new hp) (same_new (W.frS hp)) (.lst (.inl (.inl upd_same)) (dpAll_mono (same_new (W.frS hp)) hd))⟩
theorem x_lst' {vs : List V} {ds : List PyData} (W : Wd K S H O) (hd : DpAll K S vs ds) (k : ∀ S' H' v, Wd K S' H' O → Same S S' → Dp K S' v (.list ds) → Q v H') :
    ∀ p, H p = none → Q (.ref p) (upd H p (.lst vs)) :=
  fun p hp => k _ _ _ (W.new hp) (same_new (W.frS hp)) (.lst (.inl (.inl upd_same)) (dpAll_mono (same_new (W.frS hp)) hd))
/-- a new list that is ours -/
theorem x_own {vs : List V} (W : Wd K S H O) (hl : vs.length ≤ 1000000) (k : ∀ p H', Wd K S H' ((p, .lst vs) :: O) → Q (.ref p) H') : NewL Q vs H := ⟨sz hl, fun p hp => k p _ (W.alloc hp)⟩
theorem x_own' {vs : List V} {o : HO} (W : Wd K S H O) (k : ∀ p H', Wd K S H' ((p, o) :: O) → Q (.ref p) H') :
    ∀ p, H p = none → Q (.ref p) (upd H p o) := fun p hp => k p _ (W.alloc hp)

/-! ### items -/
theorem atI_of {α : Type} {xs : List α} {i : Int} {x : α} (h0 : 0 ≤ i) (h : xs[i.toNat]? = some x) : atI xs i = some x := by
  have e : i = ((i.toNat : Nat) : Int) := by omega
  rw [e]
  exact atI_nat h
theorem atI_map {α β : Type} [Inhabited α] {xs : List α} {f : α → β} {i : Int} (h0 : 0 ≤ i) (h : i < xs.length) : atI (xs.map f) i = some (f (nth xs i)) := by
  refine atI_of h0 ?_
  rw [List.getElem?_map, nth_get h0 h]
  rfl
theorem atI_nth {α : Type} [Inhabited α] {xs : List α} {i : Int} (h0 : 0 ≤ i) (h : i < xs.length) : atI xs i = some (nth xs i) := atI_of h0 (nth_get h0 h)
theorem ixN_of {n : Nat} {i : Int} (h0 : 0 ≤ i) (h : i < n) : ixN n i = some i.toNat := by
  unfold ixN
  rw [if_pos h0, if_pos h]
theorem dp_at {vs : List V} {ds : List PyData} {i : Int} {d : PyData} (h : DpAll K S vs ds) (hi : atI ds i = some d) : ∃ u, atI vs i = some u ∧ Dp K S u d := by
  unfold atI at hi ⊢
  rw [dpAll_len h]
  cases e : ixN ds.length i with
  | none => rw [e] at hi; cases hi
  | some j =>
    rw [e] at hi
    exact dpAll_get h hi
theorem x_ixT {ds : List PyData} {i : Int} {d : PyData} (W : Wd K S H O) (h : Dp K S x (.tuple ds)) (hi : atI ds i = some d) (k : Kn K S d fun u => Q u H) : rIx K x (.int i) H Q := by
  obtain ⟨a, vs, rfl, hq, ha⟩ := dp_tup_ex h
  obtain ⟨u, hu, hd⟩ := dp_at ha hi
  exact .inr (.inl ⟨a, vs, i, u, rfl, rfl, W.tup hq, hu, k.of u hd⟩)
theorem x_ixL {ds : List PyData} {i : Int} {d : PyData} (W : Wd K S H O) (h : Dp K S x (.list ds)) (hi : atI ds i = some d) (k : Kn K S d fun u => Q u H) : rIx K x (.int i) H Q := by
  obtain ⟨a, vs, rfl, hq, ha⟩ := dp_lst_ex h
  obtain ⟨u, hu, hd⟩ := dp_at ha hi
  exact .inl ⟨a, vs, i, u, rfl, rfl, W.lst hq, hu, k.of u hd⟩
/-- of one of ours -/
theorem x_ixO {p : Addr} {vs : List V} {i : Int} {u : V} (n : Nat) (W : Wd K S H O) (h : O[n]? = some (p, .lst vs)) (hi : atI vs i = some u) (k : Q u H) : rIx K (.ref p) (.int i) H Q :=
  .inl ⟨p, vs, i, u, rfl, rfl, .of (W.at n h), hi, k⟩
theorem x_setO {p : Addr} {vs : List V} {i : Int} {j : Nat} {Q : Hp → Prop} (n : Nat) (W : Wd K S H O) (h : O[n]? = some (p, .lst vs)) (hi : ixN vs.length i = some j)
    (k : ∀ H', Wd K S H' (O.set n (p, .lst (vs.set j v))) → Q H') : rSetL (.ref p) (.int i) v H Q :=
  ⟨p, vs, i, j, rfl, rfl, W.at n h, hi, k _ (W.put n h)⟩
theorem tyV_own {p : Addr} {vs : List V} (n : Nat) (W : Wd K S H O) (h : O[n]? = some (p, .lst vs)) : tyV K "list" (.ref p) H := .inl ⟨rfl, vs, .of (W.at n h)⟩
theorem tyV_dp {ds : List PyData} (W : Wd K S H O) (h : Dp K S x (.list ds)) : tyV K "list" x H := by
  obtain ⟨a, vs, rfl, hq, ha⟩ := dp_lst_ex h
  exact .inl ⟨rfl, vs, W.lst hq⟩
theorem x_bm {T : String} {r : V → List V → Hp → VK → Prop} {t : TA} (h : ta σ H fun x H1 => BmR K T (fun x H1 => t σ H1 fun xs H2 => r x xs H2 Q) x H1) : tBM K T r ta t σ H Q := h
theorem x_bm0 {T : String} {r : V → List V → Hp → VK → Prop} (h : ta σ H fun x H1 => BmR K T (fun x H1 => r x [] H1 Q) x H1) : tBM0 K T r ta σ H Q := h
theorem x_bmo {P : V → Hp → Prop} {p : Addr} {vs : List V} (n : Nat) (W : Wd K S H O) (h : O[n]? = some (p, .lst vs)) (k : P (.ref p) H) : BmR K "list" P (.ref p) H := ⟨tyV_own n W h, k⟩
theorem x_bmd {P : V → Hp → Prop} {ds : List PyData} (W : Wd K S H O) (h : Dp K S x (.list ds)) (k : P x H) : BmR K "list" P x H := ⟨tyV_dp W h, k⟩
theorem x_app {p : Addr} {vs : List V} (n : Nat) (W : Wd K S H O) (h : O[n]? = some (p, .lst vs)) (hl : vs.length ≤ 1000000) (k : ∀ H', Wd K S H' (O.set n (p, .lst (vs ++ [v]))) → Q .non H') :
    rAppend (.ref p) [v] H Q := ⟨p, vs, v, rfl, rfl, W.at n h, szl hl, k _ (W.put n h)⟩
theorem x_pop {p : Addr} {vs : List V} (n : Nat) (W : Wd K S H O) (h : O[n]? = some (p, .lst vs)) (hu : vs[vs.length - 1]? = some v) (k : ∀ H', Wd K S H' (O.set n (p, .lst vs.dropLast)) → Q v H') :
    rPop (.ref p) [] H Q := ⟨p, vs, v, rfl, rfl, W.at n h, hu, k _ (W.put n h)⟩

/-! ### built-ins -/
theorem x_len {ds : List PyData} (W : Wd K S H O) (h : Dp K S x (.list ds)) (q : Q (.int ds.length) H) : rLen K [x] H Q := by
  obtain ⟨a, vs, rfl, hq, ha⟩ := dp_lst_ex h
  exact ⟨a, vs, rfl, .inl (W.lst hq), by rw [dpAll_len ha]; exact q⟩
theorem x_lenT {ds : List PyData} (W : Wd K S H O) (h : Dp K S x (.tuple ds)) (q : Q (.int ds.length) H) : rLen K [x] H Q := by
  obtain ⟨a, vs, rfl, hq, ha⟩ := dp_tup_ex h
  exact ⟨a, vs, rfl, .inr (W.tup hq), by rw [dpAll_len ha]; exact q⟩
theorem x_lenO {p : Addr} {vs : List V} (n : Nat) (W : Wd K S H O) (h : O[n]? = some (p, .lst vs)) (q : Q (.int vs.length) H) : rLen K [.ref p] H Q := ⟨p, vs, rfl, .inl (.of (W.at n h)), q⟩
theorem x_sum {ns : List Int} (W : Wd K S H O) (h : Dp K S x (.list (ns.map PyData.int))) (q : Q (.int ns.sum) H) : rSum K [x] H Q := by
  obtain ⟨a, vs, rfl, hq, ha⟩ := dp_lst_ex h
  rw [ints_of ha] at hq
  exact ⟨a, ns, rfl, W.lst hq, q⟩
theorem x_all {bs : List Bool} (W : Wd K S H O) (h : Dp K S x (.list (bs.map PyData.bool))) (q : Q (.bl (bs.all id)) H) : rAll K [x] H Q := by
  obtain ⟨a, vs, rfl, hq, ha⟩ := dp_lst_ex h
  rw [bools_of ha] at hq
  exact ⟨a, bs, rfl, W.lst hq, q⟩
theorem x_any {bs : List Bool} (W : Wd K S H O) (h : Dp K S x (.list (bs.map PyData.bool))) (q : Q (.bl (bs.any id)) H) : rAny K [x] H Q := by
  obtain ⟨a, vs, rfl, hq, ha⟩ := dp_lst_ex h
  rw [bools_of ha] at hq
  exact ⟨a, bs, rfl, W.lst hq, q⟩
theorem x_abs (q : Q (.int (if a < 0 then -a else a)) H) : rAbs [.int a] H Q := ⟨a, rfl, q⟩
theorem x_max2 (q : Q (.int (max a b)) H) : rMx2 [.int a, .int b] H Q := ⟨a, b, rfl, by
  have e : (if b > a then b else a) = max a b := by
    split <;> omega
  rw [e]
  exact q⟩
theorem x_intB {c : Bool} (q : Q (.int (if c then 1 else 0)) H) : rInt1 [.bl c] H Q := .inr ⟨c, rfl, q⟩
/-- list(x) of a list: a new one that stays, or that is ours -/
theorem x_listS {ds : List PyData} (W : Wd K S H O) (h : Dp K S x (.list ds)) (k : ∀ S' H' v, Wd K S' H' O → Same S S' → Dp K S' v (.list ds) → Q v H') : rLst K [x] H Q := by
  obtain ⟨a, vs, rfl, hq, ha⟩ := dp_lst_ex h
  exact ⟨a, vs, rfl, .inl (W.lst hq), x_lst' W ha k⟩
theorem x_listO {ds : List PyData} (W : Wd K S H O) (h : Dp K S x (.list ds)) (k : ∀ p vs H', DpAll K S vs ds → Wd K S H' ((p, .lst vs) :: O) → Q (.ref p) H') : rLst K [x] H Q := by
  obtain ⟨a, vs, rfl, hq, ha⟩ := dp_lst_ex h
  exact ⟨a, vs, rfl, .inl (W.lst hq), fun l hl => k l vs _ ha (W.alloc hl)⟩
theorem x_tr (h : ta σ H fun x H1 => TruQ K QT x H1) : tTr K ta σ H QT := h
theorem x_truB {c : Bool} (q : QT c H) : TruQ K QT (.bl c) H := ⟨_, rfl, q⟩
/-- truth of a list -/
theorem x_truL {ds : List PyData} (W : Wd K S H O) (h : Dp K S x (.list ds)) (q : QT (!ds.isEmpty) H) : TruQ K QT x H := by
  obtain ⟨a, vs, rfl, hq, ha⟩ := dp_lst_ex h
  refine ⟨_, .inl ⟨vs, W.lst hq, rfl⟩, ?_⟩
  have e : vs.isEmpty = ds.isEmpty := by
    have := dpAll_len ha
    cases vs <;> cases ds <;> simp_all
  rw [e]
  exact q
theorem x_truO {p : Addr} {vs : List V} (n : Nat) (W : Wd K S H O) (h : O[n]? = some (p, .lst vs)) (q : QT (!vs.isEmpty) H) : TruQ K QT (.ref p) H :=
  ⟨_, .inl ⟨vs, .of (W.at n h), rfl⟩, q⟩
/-! ### isinstance of data -/
theorem tyx_lst {ds : List PyData} (W : Wd K S H O) (h : Dp K S x (.list ds)) : TyX K H x (.type "list") := by
  obtain ⟨a, vs, rfl, hq, ha⟩ := dp_lst_ex h
  rcases W.lst hq with (e | ⟨o, e⟩) | ⟨o, its, n, e, c, _⟩
  · exact .base (.lst e)
  · exact .base (.frz e)
  · exact .kList e c
theorem tyx_tup {ds : List PyData} (W : Wd K S H O) (h : Dp K S x (.tuple ds)) : TyX K H x (.type "tuple") := by
  obtain ⟨a, vs, rfl, hq, ha⟩ := dp_tup_ex h
  rcases W.tup hq with (e | ⟨o, e⟩) | ⟨o, its, n, e, c, _⟩
  · exact .base (.tup e)
  · exact .fTuple e
  · exact .kTuple e c
theorem x_isi {t : Value} {n : String} {b : Bool} (h : TyX K H x t) (hk : PySem.W.kitOne K t (.type n) = some b) (q : Q (.bl b) H) : rIsi K [x, .ty n] H Q := ⟨x, .ty n, t, .type n, b, rfl, .ty n, h, hk, q⟩
theorem x_isiI {n : String} {b : Bool} (hk : kitB "int" n = some b) (q : Q (.bl b) H) : rIsi K [.int a, .ty n] H Q := x_isi (.base (.int a)) (kit_ty hk) q
theorem x_isiB {n : String} {b c : Bool} (hk : kitB "bool" n = some b) (q : Q (.bl b) H) : rIsi K [.bl c, .ty n] H Q := x_isi (.base (.bl c)) (kit_ty hk) q
theorem x_isiN {n : String} {b : Bool} (hk : kitB "NoneType" n = some b) (q : Q (.bl b) H) : rIsi K [.non, .ty n] H Q := x_isi (.base .non) (kit_ty hk) q
theorem x_isiS {n : String} {b : Bool} {z : Str} (hk : kitB "str" n = some b) (q : Q (.bl b) H) : rIsi K [.str z, .ty n] H Q := x_isi (.base (.str z)) (kit_ty hk) q
theorem x_isiL {n : String} {b : Bool} {ds : List PyData} (W : Wd K S H O) (h : Dp K S x (.list ds)) (hk : kitB "list" n = some b) (q : Q (.bl b) H) : rIsi K [x, .ty n] H Q := x_isi (tyx_lst W h) (kit_ty hk) q
theorem x_isiT {n : String} {b : Bool} {ds : List PyData} (W : Wd K S H O) (h : Dp K S x (.tuple ds)) (hk : kitB "tuple" n = some b) (q : Q (.bl b) H) : rIsi K [x, .ty n] H Q := x_isi (tyx_tup W h) (kit_ty hk) q
end
/-- isinstance of the exception that the suite holds, its class told by the reading -/
def rIsX (K : PySem.W.Frag) (cls : Value) (d : Option Addr) (a : Addr) : List V → Hp → VK → Prop := fun xs H Q => ∃ (D : Addr) (c : V) (cv : Value) (b : Bool),
  cls = .ref D ∧ d = none ∧ ExcC K D ∧ xs = [.ref a, c] ∧ (∀ u, RelV c u → u = cv) ∧ PySem.W.kitOne K (.ref D) cv = some b ∧ Q (.bl b) H
theorem call_isX {X : Cx} {a : Addr} {oe : Obj} {cls : Value} {d : Option Addr} {pn : List (Addr × Obj)} (hz : Zc cls d oe) (hf : ∃ vs, oe.data = .fields vs) : CallR (X.suite a ((a, oe) :: pn)) (.builtin "isinstance") (rIsX X.K cls d a) := by
  intro pins s σ H xs us Q I r h
  obtain ⟨D, c, cv, b, rfl, rfl, C, e1, e2, e3, q⟩ := h
  exact call_isE C hz hf pins s σ H xs us Q I r ⟨c, cv, b, e1, e2, e3, q⟩
end SB
/-! Loops and comprehensions. -/
namespace SB
open PySem PySem.Spec PyProof.Rows L2
section
variable {K : PySem.W.Frag} {S H : Hp} {O : List (Addr × HO)} {σ : L2.St} {Q : VK} {x y v : V} {D : Ends}
  {nx bk ct : L2.St → Hp → Prop} {rt : VK} {tt tc : TT} {tb : TS} {g : TG} {te tl : TE} {ta : TA} {vs : List Nat}

/-! ### while -/
/-- a turn of a while: n is its number -/
def Again (J : Nat → L2.St → Hp → Prop) (n : Nat) (tb : TS) (D : Ends) (σ : L2.St) (H : Hp) : Prop :=
  ∃ N : L2.St → Hp → Prop, (∀ σ' H', N σ' H' → ∃ m', m' < n ∧ J m' σ' H') ∧ tb ⟨N, D.rt, D.nx, N⟩ σ H
theorem x_again {J : Nat → L2.St → Hp → Prop} {n : Nat} (h : tb ⟨fun σ' H' => ∃ m', m' < n ∧ J m' σ' H', rt, nx, fun σ' H' => ∃ m', m' < n ∧ J m' σ' H'⟩ σ H) : Again J n tb ⟨nx, rt, bk, ct⟩ σ H := ⟨_, fun _ _ h => h, h⟩
theorem x_while (J : Nat → L2.St → Hp → Prop) (m : Nat) (h0 : J m σ H) (hs : ∀ n σ' H', J n σ' H' → tc σ' H' fun b H1 => if b = true then Again J n tb ⟨nx, rt, bk, ct⟩ σ' H1 else nx σ' H1) :
    tWhile tc tb ⟨nx, rt, bk, ct⟩ σ H := ⟨J, ⟨m, h0⟩, hs⟩

/-! ### for -/
/-- the loop when its iterable's value has come -/
def ForL (K : PySem.W.Frag) (g : TG) (tb : TS) (D : Ends) (x : V) (σ : L2.St) (H : Hp) : Prop := ∃ a, x = .ref a ∧ (∃ xs, SqL K H a xs) ∧ ∃ W : Nat → Nat → L2.St → Hp → Prop, (∃ m, W 0 m σ H) ∧ ∀ i m σ H, W i m σ H →
  ((Itl K a).stop i H ∧ D.nx σ H) ∨ ((Itl K a).go i H ∧ ∃ N : L2.St → Hp → Prop, (∀ σ' H', N σ' H' → ∃ m', m' < m ∧ W (i + 1) m' σ' H') ∧ ∀ x H', (Itl K a).yld i H x H' → g x σ H' fun σ2 H2 => tb { D with nx := N, ct := N, bk := D.nx } σ2 H2)
theorem x_for (h : tl σ H fun x H1 => ForL K g tb D x σ H1) : tFor (iList K tl) g tb D σ H := h
theorem x_forV {a : Addr} {ys : List V} (J : Nat → L2.St → Hp → Prop) (h0 : J 0 σ H) (hq : ∀ i σ' H', J i σ' H' → SqL K H' a ys)
    (hs : ∀ i y σ' H', ys[i]? = some y → J i σ' H' → g y σ' H' fun σ2 H2 => tb ⟨J (i + 1), rt, nx, J (i + 1)⟩ σ2 H2) (hd : ∀ σ' H', J ys.length σ' H' → nx σ' H') : ForL K g tb ⟨nx, rt, bk, ct⟩ (.ref a) σ H :=
  ⟨a, rfl, ⟨ys, hq 0 σ H h0⟩, for_list (K := K) (a := a) (xs := ys) (D := ⟨nx, rt, bk, ct⟩) J h0 (fun i σ' H' _ h => hq i σ' H' h) hs hd⟩
theorem x_forD {α : Type} {xs : List α} {f : α → PyData} (hv : Dp K S x (.list (xs.map f))) (J : Nat → L2.St → Hp → Prop) (h0 : J 0 σ H) (hq : ∀ i σ' H', J i σ' H' → Same S H')
    (hs : ∀ i z σ' H', xs[i]? = some z → J i σ' H' → Kn K S (f z) fun u => g u σ' H' fun σ2 H2 => tb ⟨J (i + 1), rt, nx, J (i + 1)⟩ σ2 H2) (hd : ∀ σ' H', J xs.length σ' H' → nx σ' H') : ForL K g tb ⟨nx, rt, bk, ct⟩ x σ H := by
  obtain ⟨a, us, rfl, hq', ha⟩ := dp_lst_ex hv
  have hl : us.length = xs.length := by rw [dpAll_len ha, List.length_map]
  refine x_forV (ys := us) J h0 (fun i σ' H' h => (hq i σ' H' h).seq hq') (fun i y σ' H' hy h => ?_) (fun σ' H' h => hd σ' H' (hl ▸ h))
  obtain ⟨dd, hd1, hd2⟩ := dpAll_get' ha hy
  rw [List.getElem?_map] at hd1
  cases e : xs[i]? with
  | none => rw [e] at hd1; cases hd1
  | some z =>
    rw [e] at hd1
    cases hd1
    exact (hs i z σ' H' e h).of y hd2
/-- over range(n) -/
def ForR (g : TG) (tb : TS) (D : Ends) (us : List V) (σ : L2.St) (H : Hp) : Prop := ∃ j : Int, us = [.int j] ∧ -(2 ^ 62) ≤ j ∧ j < 2 ^ 62 ∧ ∃ W : Nat → Nat → L2.St → Hp → Prop, (∃ m, W 0 m σ H) ∧ ∀ i m σ H, W i m σ H →
  ((Itr 0 j.toNat).stop i H ∧ D.nx σ H) ∨ ((Itr 0 j.toNat).go i H ∧ ∃ N : L2.St → Hp → Prop, (∀ σ' H', N σ' H' → ∃ m', m' < m ∧ W (i + 1) m' σ' H') ∧ ∀ x H', (Itr 0 j.toNat).yld i H x H' → g x σ H' fun σ2 H2 => tb { D with nx := N, ct := N, bk := D.nx } σ2 H2)
theorem x_forr (h : ta σ H fun us H1 => ForR g tb D us σ H1) : tFor (iRng1 ta) g tb D σ H := h
theorem x_forN {j : Int} (J : Nat → L2.St → Hp → Prop) (hj : j < 2 ^ 62 ∧ -(2 ^ 62) ≤ j) (h0 : J 0 σ H)
    (hs : ∀ (i : Nat) σ' H', i < j.toNat → J i σ' H' → g (.int (i : Int)) σ' H' fun σ2 H2 => tb ⟨J (i + 1), rt, nx, J (i + 1)⟩ σ2 H2) (hd : ∀ σ' H', J j.toNat σ' H' → nx σ' H') : ForR g tb ⟨nx, rt, bk, ct⟩ [.int j] σ H :=
  ⟨j, rfl, hj.2, hj.1, for_range (lo := 0) (n := j.toNat) (D := ⟨nx, rt, bk, ct⟩) J h0 (fun i σ' H' hi h => by rw [Int.zero_add]; exact hs i σ' H' hi h) hd⟩
/-- over zip(xs, ys) -/
def ForZ (K : PySem.W.Frag) (g : TG) (tb : TS) (D : Ends) (us : List V) (σ : L2.St) (H : Hp) : Prop := ∃ a b xs ys, us = [.ref a, .ref b] ∧ SqL K H a xs ∧ SqL K H b ys ∧ ∃ W : Nat → Nat → L2.St → Hp → Prop, (∃ m, W 0 m σ H) ∧ ∀ i m σ H, W i m σ H →
  ((Itz K a b).stop i H ∧ D.nx σ H) ∨ ((Itz K a b).go i H ∧ ∃ N : L2.St → Hp → Prop, (∀ σ' H', N σ' H' → ∃ m', m' < m ∧ W (i + 1) m' σ' H') ∧ ∀ x H', (Itz K a b).yld i H x H' → g x σ H' fun σ2 H2 => tb { D with nx := N, ct := N, bk := D.nx } σ2 H2)
theorem x_forz (h : ta σ H fun us H1 => ForZ K g tb D us σ H1) : tFor (iZip K ta) g tb D σ H := h
theorem x_forZ {α β : Type} {xs : List α} {ys : List β} {f : α → PyData} {h : β → PyData} {p q : Nat}
    (hx : Dp K S x (.list (xs.map f))) (hy : Dp K S y (.list (ys.map h))) (hl : xs.length = ys.length) (J : Nat → L2.St → Hp → Prop) (h0 : J 0 σ H) (hq : ∀ i σ' H', J i σ' H' → Same S H')
    (hs : ∀ i z w σ' H' T, xs[i]? = some z → ys[i]? = some w → J i σ' H' → H' T = none → Kn K S (f z) fun u => Kn K S (h w) fun v => tb ⟨J (i + 1), rt, nx, J (i + 1)⟩ ((σ'.set p (some u)).set q (some v)) (upd H' T (.tup [u, v])))
    (hd : ∀ σ' H', J xs.length σ' H' → nx σ' H') : ForZ K (gTup K 2 (gCons (gName p) (gCons (gName q) gNil))) tb ⟨nx, rt, bk, ct⟩ [x, y] σ H := by
  obtain ⟨a, us, rfl, hq1, ha⟩ := dp_lst_ex hx
  obtain ⟨b, ws, rfl, hq2, hb⟩ := dp_lst_ex hy
  have l1 : us.length = xs.length := by rw [dpAll_len ha, List.length_map]
  have l2 : ws.length = ys.length := by rw [dpAll_len hb, List.length_map]
  refine ⟨a, b, us, ws, rfl, (hq 0 σ H h0).seq hq1, (hq 0 σ H h0).seq hq2, RZ.for_zipL (K := K) (a := a) (b := b) (xs := us) (ys := ws) (D := ⟨nx, rt, bk, ct⟩) (by omega) J h0 (fun i σ' H' h => ⟨(hq i σ' H' h).seq hq1, (hq i σ' H' h).seq hq2⟩) (fun i u w T σ' H' e1 e2 hJ hT => ?_) (fun σ' H' h => hd σ' H' (l1 ▸ h))⟩
  obtain ⟨d1, g1, r1⟩ := dpAll_get' ha e1
  obtain ⟨d2, g2, r2⟩ := dpAll_get' hb e2
  rw [List.getElem?_map] at g1 g2
  cases c1 : xs[i]? with
  | none => rw [c1] at g1; cases g1
  | some z =>
    cases c2 : ys[i]? with
    | none => rw [c2] at g2; cases g2
    | some z2 =>
      rw [c1] at g1
      rw [c2] at g2
      cases g1
      cases g2
      refine ⟨T, [u, w], rfl, .inl (.inl upd_same), rfl, u, [w], rfl, w, [], rfl, rfl, ?_⟩
      exact ((hs i z z2 σ' H' T c1 c2 hJ hT).of u r1).of w r2
/-- over a tuple -/
def ForT (K : PySem.W.Frag) (g : TG) (tb : TS) (D : Ends) (x : V) (σ : L2.St) (H : Hp) : Prop := ∃ a, x = .ref a ∧ (∃ xs, SqT K H a xs) ∧ ∃ W : Nat → Nat → L2.St → Hp → Prop, (∃ m, W 0 m σ H) ∧ ∀ i m σ H, W i m σ H →
  ((Itt K a).stop i H ∧ D.nx σ H) ∨ ((Itt K a).go i H ∧ ∃ N : L2.St → Hp → Prop, (∀ σ' H', N σ' H' → ∃ m', m' < m ∧ W (i + 1) m' σ' H') ∧ ∀ x H', (Itt K a).yld i H x H' → g x σ H' fun σ2 H2 => tb { D with nx := N, ct := N, bk := D.nx } σ2 H2)
theorem x_fort (h : tl σ H fun x H1 => ForT K g tb D x σ H1) : tFor (iTup K tl) g tb D σ H := h
theorem x_forT {α : Type} {xs : List α} {f : α → PyData} (hv : Dp K S x (.tuple (xs.map f))) (J : Nat → L2.St → Hp → Prop) (h0 : J 0 σ H) (hq : ∀ i σ' H', J i σ' H' → Same S H')
    (hs : ∀ i z σ' H', xs[i]? = some z → J i σ' H' → Kn K S (f z) fun u => g u σ' H' fun σ2 H2 => tb ⟨J (i + 1), rt, nx, J (i + 1)⟩ σ2 H2) (hd : ∀ σ' H', J xs.length σ' H' → nx σ' H') : ForT K g tb ⟨nx, rt, bk, ct⟩ x σ H := by
  obtain ⟨a, us, rfl, hq', ha⟩ := dp_tup_ex hv
  have hl : us.length = xs.length := by rw [dpAll_len ha, List.length_map]
  refine ⟨a, rfl, ⟨us, same_t (hq 0 σ H h0) hq'⟩, for_tup (K := K) (a := a) (xs := us) (D := ⟨nx, rt, bk, ct⟩) J h0 (fun i σ' H' _ h => same_t (hq i σ' H' h) hq') (fun i y σ' H' hy h => ?_) (fun σ' H' h => hd σ' H' (hl ▸ h))⟩
  obtain ⟨dd, hd1, hd2⟩ := dpAll_get' ha hy
  rw [List.getElem?_map] at hd1
  cases e : xs[i]? with
  | none => rw [e] at hd1; cases hd1
  | some z =>
    rw [e] at hd1
    cases hd1
    exact (hs i z σ' H' e h).of y hd2

/-! ### comprehensions -/
/-- an element that is taken, one that is not -/
def LcY (K : PySem.W.Frag) (S : Hp) (O : List (Addr × HO)) (R : Addr) (acc : List V) (o : Option PyData) (y : V) (H : Hp) : Prop :=
  ∃ S' d, o = some d ∧ Wd K S' H ((R, .lst acc) :: O) ∧ Same S S' ∧ Dp K S' y d
def LcN (K : PySem.W.Frag) (S : Hp) (O : List (Addr × HO)) (R : Addr) (acc : List V) (o : Option PyData) (H : Hp) : Prop :=
  o = none ∧ ∃ S', Wd K S' H ((R, .lst acc) :: O) ∧ Same S S'
theorem lc_y {R : Addr} {acc : List V} {o : Option PyData} {S' : Hp} {d : PyData} (h : o = some d) (W : Wd K S' H ((R, .lst acc) :: O)) (hs : Same S S') (hd : Dp K S' y d) : LcY K S O R acc o y H := ⟨S', d, h, W, hs, hd⟩
theorem lc_n {R : Addr} {acc : List V} {o : Option PyData} {S' : Hp} (h : o = none) (W : Wd K S' H ((R, .lst acc) :: O)) (hs : Same S S') : LcN K S O R acc o H := ⟨h, S', W, hs⟩
/-- what the new list holds behind i elements -/
def LcP (K : PySem.W.Frag) {α : Type} (xs : List α) (fr : α → Option PyData) (S : Hp) (O : List (Addr × HO)) (R : Addr) : Nat → Hp → Prop := fun i H =>
  ∃ S' acc, Wd K S' H ((R, .lst acc) :: O) ∧ Same S S' ∧ DpAll K S' acc ((xs.take i).filterMap fr)
theorem lcP_turn {α : Type} {xs : List α} {fr : α → Option PyData} {R : Addr} {i : Nat} {z : α} (hlen : xs.length ≤ 1000000) (hz : xs[i]? = some z) {S' : Hp} {acc : List V} (hS : Same S S') (hA : DpAll K S' acc ((xs.take i).filterMap fr)) :
    (∀ y H4, LcY K S' O R acc (fr z) y H4 → ∃ acc', H4 R = some (.lst acc') ∧ acc'.length < sizeLine ∧ LcP K xs fr S O R (i + 1) (upd H4 R (.lst (acc' ++ [y])))) ∧
    (∀ H3, LcN K S' O R acc (fr z) H3 → LcP K xs fr S O R (i + 1) H3) := by
  have hi : i < xs.length := (List.getElem?_eq_some_iff.mp hz).1
  have ht : xs.take (i + 1) = xs.take i ++ [z] := by
    rw [List.take_add_one, hz]
    rfl
  constructor
  · rintro y H4 ⟨S4, dd, e, W4, hS4, hd⟩
    refine ⟨acc, W4.at 0 rfl, ?_, S4, acc ++ [y], W4.put 0 rfl, hS.trans hS4, ?_⟩
    · have := dpAll_len hA
      have l2 := List.length_filterMap_le fr (xs.take i)
      rw [List.length_take] at l2
      exact szl (by omega)
    · rw [ht, List.filterMap_append]
      have : List.filterMap fr [z] = [dd] := by simp [e]
      rw [this]
      exact dpAll_app (dpAll_mono hS4 hA) hd
  · rintro H3 ⟨e, S3, W3, hS3⟩
    refine ⟨S3, acc, W3, hS.trans hS3, ?_⟩
    rw [ht, List.filterMap_append]
    have : List.filterMap fr [z] = [] := by simp [e]
    rw [this, List.append_nil]
    exact dpAll_mono hS3 hA
/-- how a turn of a comprehension may end -/
def EndY (R : Addr) (N : Hp → Prop) (y : V) (H : Hp) : Prop := ∃ acc, H R = some (.lst acc) ∧ acc.length < sizeLine ∧ N (upd H R (.lst (acc ++ [y])))
structure LcE (K : PySem.W.Frag) (S : Hp) (O : List (Addr × HO)) (R : Addr) (acc : List V) (o : Option PyData) (N : Hp → Prop) : Prop where
  yes : ∀ y H, LcY K S O R acc o y H → EndY R N y H
  no : ∀ H, LcN K S O R acc o H → N H
theorem lce_y {R : Addr} {acc : List V} {o : Option PyData} {N : Hp → Prop} {S' : Hp} {d : PyData} (E : LcE K S O R acc o N) (W : Wd K S' H ((R, .lst acc) :: O)) (hs : Same S S') (hd : Dp K S' y d) (h : o = some d) : EndY R N y H := E.yes _ _ ⟨S', d, h, W, hs, hd⟩
theorem lce_n {R : Addr} {acc : List V} {o : Option PyData} {N : Hp → Prop} {S' : Hp} (E : LcE K S O R acc o N) (W : Wd K S' H ((R, .lst acc) :: O)) (hs : Same S S') (h : o = none) : N H := E.no _ ⟨h, S', W, hs⟩
theorem lcE_of {α : Type} {xs : List α} {fr : α → Option PyData} {R : Addr} {i : Nat} {z : α} (hlen : xs.length ≤ 1000000) (hz : xs[i]? = some z) {S' : Hp} {acc : List V} (hS : Same S S') (hA : DpAll K S' acc ((xs.take i).filterMap fr)) :
    LcE K S' O R acc (fr z) (LcP K xs fr S O R (i + 1)) := ⟨(lcP_turn hlen hz hS hA).1, (lcP_turn hlen hz hS hA).2⟩
/-- the body of a comprehension for an element's value u -/
def LcB (g : TG) (tt : TT) (te : TE) (vs : List Nat) (σ : L2.St) (R : Addr) (N : Hp → Prop) (u : V) (H : Hp) : Prop :=
  g u (wipe σ vs) H fun σ2 H2 => wipe σ2 vs = wipe σ vs ∧ tt σ2 H2 fun b H3 => if b = true then te σ2 H3 fun y H4 => EndY R N y H4 else N H3
theorem x_lcb {R : Addr} {N : Hp → Prop} {j : Nat} (h : tt ((wipe σ vs).set j (some x)) H fun b H3 => if b = true then te ((wipe σ vs).set j (some x)) H3 fun y H4 => EndY R N y H4 else N H3)
    (e : wipe ((wipe σ vs).set j (some x)) vs = wipe σ vs := by rfl) : LcB (gName j) tt te vs σ R N x H := ⟨e, h⟩
theorem x_yes {Q : Bool → Hp → Prop} (h : Q true H) : tYes σ H Q := h
/-- over a list -/
def LcL (K : PySem.W.Frag) (g : TG) (tt : TT) (te : TE) (vs : List Nat) (σ : L2.St) (Q : VK) (x : V) (H : Hp) : Prop := ∃ a, x = .ref a ∧ (∃ xs, SqL K H a xs) ∧ ∀ R, H R = none → ∃ W : Nat → Nat → Hp → Prop, (∃ m, W 0 m (upd H R (.lst []))) ∧ ∀ i m H, W i m H →
  ((Itl K a).stop i H ∧ Q (.ref R) H) ∨ ((Itl K a).go i H ∧ ∃ Nx : Hp → Prop, (∀ H', Nx H' → ∃ m', m' < m ∧ W (i + 1) m' H') ∧ ∀ x H', (Itl K a).yld i H x H' → g x (wipe σ vs) H' fun σ2 H2 => wipe σ2 vs = wipe σ vs ∧ tt σ2 H2 fun b H3 =>
    if b = true then te σ2 H3 fun y H4 => ∃ acc, H4 R = some (.lst acc) ∧ acc.length < sizeLine ∧ Nx (upd H4 R (.lst (acc ++ [y]))) else Nx H3)
theorem x_lcl (h : tl σ H fun x H1 => LcL K g tt te vs σ Q x H1) : tLc (iList K tl) g tt te vs σ H Q := h
/-- the new list is ours at the end -/
theorem lc_listO {α : Type} {xs : List α} {f : α → PyData} (fr : α → Option PyData) (W : Wd K S H O) (hv : Dp K S x (.list (xs.map f))) (hlen : xs.length ≤ 1000000)
    (hs : ∀ z S' H' R acc N, z ∈ xs → Wd K S' H' ((R, .lst acc) :: O) → Same S S' → LcE K S' O R acc (fr z) N → Kn K S' (f z) fun u => LcB g tt te vs σ R N u H')
    (k : ∀ S' H' R acc, Wd K S' H' ((R, .lst acc) :: O) → Same S S' → DpAll K S' acc (xs.filterMap fr) → Q (.ref R) H') : LcL K g tt te vs σ Q x H := by
  obtain ⟨a, us, rfl, hq', ha⟩ := dp_lst_ex hv
  have hl : us.length = xs.length := by rw [dpAll_len ha, List.length_map]
  refine ⟨a, rfl, ⟨us, W.lst hq'⟩, fun R hR => lc_list (K := K) (a := a) (xs := us) (Qd := fun H' => Q (.ref R) H') (LcP K xs fr S O R) ⟨S, [], W.alloc hR, Same.refl S, by simp; exact .nil⟩ (fun i H' _ ⟨S', acc, W', hS, hA⟩ => W'.lst (hS.seq hq')) (fun i y H' hy ⟨S', acc, W', hS, hA⟩ => ?_) (fun H' ⟨S', acc, W', hS, hA⟩ => ?_)⟩
  · obtain ⟨dd, hd1, hd2⟩ := dpAll_get' ha hy
    rw [List.getElem?_map] at hd1
    cases e : xs[i]? with
    | none => rw [e] at hd1; cases hd1
    | some z =>
      rw [e] at hd1
      cases hd1
      exact (hs z S' H' R acc (LcP K xs fr S O R (i + 1)) (List.mem_of_getElem? e) W' hS (lcE_of hlen e hS hA)).of y (dp_mono hS hd2)
  · rw [hl, List.take_length] at hA
    exact k S' H' R acc W' hS hA
/-- the new list stays -/
theorem lc_listS {α : Type} {xs : List α} {f : α → PyData} (fr : α → Option PyData) (W : Wd K S H O) (hv : Dp K S x (.list (xs.map f))) (hlen : xs.length ≤ 1000000)
    (hs : ∀ z S' H' R acc N, z ∈ xs → Wd K S' H' ((R, .lst acc) :: O) → Same S S' → LcE K S' O R acc (fr z) N → Kn K S' (f z) fun u => LcB g tt te vs σ R N u H')
    (k : ∀ S' H' v, Wd K S' H' O → Same S S' → Dp K S' v (.list (xs.filterMap fr)) → Q v H') : LcL K g tt te vs σ Q x H :=
  lc_listO fr W hv hlen hs fun S' H' R acc W' hS hA => k _ H' _ (W'.give 0 rfl) (hS.trans (same_new (W'.atS 0 rfl))) (dp_give (W'.atS 0 rfl) hA)
/-- over range(n) -/
def LcR (g : TG) (tt : TT) (te : TE) (vs : List Nat) (σ : L2.St) (Q : VK) (us : List V) (H : Hp) : Prop := ∃ j : Int, us = [.int j] ∧ -(2 ^ 62) ≤ j ∧ j < 2 ^ 62 ∧ ∀ R, H R = none → ∃ W : Nat → Nat → Hp → Prop, (∃ m, W 0 m (upd H R (.lst []))) ∧ ∀ i m H, W i m H →
  ((Itr 0 j.toNat).stop i H ∧ Q (.ref R) H) ∨ ((Itr 0 j.toNat).go i H ∧ ∃ Nx : Hp → Prop, (∀ H', Nx H' → ∃ m', m' < m ∧ W (i + 1) m' H') ∧ ∀ x H', (Itr 0 j.toNat).yld i H x H' → g x (wipe σ vs) H' fun σ2 H2 => wipe σ2 vs = wipe σ vs ∧ tt σ2 H2 fun b H3 =>
    if b = true then te σ2 H3 fun y H4 => ∃ acc, H4 R = some (.lst acc) ∧ acc.length < sizeLine ∧ Nx (upd H4 R (.lst (acc ++ [y]))) else Nx H3)
theorem x_lcr (h : ta σ H fun us H1 => LcR g tt te vs σ Q us H1) : tLc (iRng1 ta) g tt te vs σ H Q := h
theorem lc_rangeO {j : Int} (fr : Nat → Option PyData) (W : Wd K S H O) (hj : -(2 ^ 62) ≤ j ∧ j ≤ 1000000)
    (hs : ∀ (z : Nat) S' H' R acc N, z < j.toNat → Wd K S' H' ((R, .lst acc) :: O) → Same S S' → LcE K S' O R acc (fr z) N → LcB g tt te vs σ R N (.int (z : Int)) H')
    (k : ∀ S' H' R acc, Wd K S' H' ((R, .lst acc) :: O) → Same S S' → DpAll K S' acc ((List.range j.toNat).filterMap fr) → Q (.ref R) H') : LcR g tt te vs σ Q [.int j] H := by
  have hn : (List.range j.toNat).length ≤ 1000000 := by rw [List.length_range]; omega
  refine ⟨j, rfl, hj.1, by omega, fun R hR => lc_range (lo := 0) (n := j.toNat) (Qd := fun H' => Q (.ref R) H') (LcP K (List.range j.toNat) fr S O R) ⟨S, [], W.alloc hR, Same.refl S, by simp; exact .nil⟩ (fun i H' hi ⟨S', acc, W', hS, hA⟩ => ?_) (fun H' ⟨S', acc, W', hS, hA⟩ => ?_)⟩
  · have e : (List.range j.toNat)[i]? = some i := List.getElem?_range hi
    rw [Int.zero_add]
    exact hs i S' H' R acc (LcP K (List.range j.toNat) fr S O R (i + 1)) hi W' hS (lcE_of hn e hS hA)
  · rw [List.take_of_length_le (by rw [List.length_range]; exact Nat.le_refl _)] at hA
    exact k S' H' R acc W' hS hA
theorem lc_rangeS {j : Int} (fr : Nat → Option PyData) (W : Wd K S H O) (hj : -(2 ^ 62) ≤ j ∧ j ≤ 1000000)
    (hs : ∀ (z : Nat) S' H' R acc N, z < j.toNat → Wd K S' H' ((R, .lst acc) :: O) → Same S S' → LcE K S' O R acc (fr z) N → LcB g tt te vs σ R N (.int (z : Int)) H')
    (k : ∀ S' H' v, Wd K S' H' O → Same S S' → Dp K S' v (.list ((List.range j.toNat).filterMap fr)) → Q v H') : LcR g tt te vs σ Q [.int j] H :=
  lc_rangeO fr W hj hs fun S' H' R acc W' hS hA => k _ H' _ (W'.give 0 rfl) (hS.trans (same_new (W'.atS 0 rfl))) (dp_give (W'.atS 0 rfl) hA)
/-- over zip(xs, ys), the target two names -/
def LcZ (K : PySem.W.Frag) (g : TG) (tt : TT) (te : TE) (vs : List Nat) (σ : L2.St) (Q : VK) (us : List V) (H : Hp) : Prop := ∃ a b xs ys, us = [.ref a, .ref b] ∧ SqL K H a xs ∧ SqL K H b ys ∧ ∀ R, H R = none → ∃ W : Nat → Nat → Hp → Prop, (∃ m, W 0 m (upd H R (.lst []))) ∧ ∀ i m H, W i m H →
  ((Itz K a b).stop i H ∧ Q (.ref R) H) ∨ ((Itz K a b).go i H ∧ ∃ Nx : Hp → Prop, (∀ H', Nx H' → ∃ m', m' < m ∧ W (i + 1) m' H') ∧ ∀ x H', (Itz K a b).yld i H x H' → g x (wipe σ vs) H' fun σ2 H2 => wipe σ2 vs = wipe σ vs ∧ tt σ2 H2 fun b H3 =>
    if b = true then te σ2 H3 fun y H4 => ∃ acc, H4 R = some (.lst acc) ∧ acc.length < sizeLine ∧ Nx (upd H4 R (.lst (acc ++ [y]))) else Nx H3)
theorem x_lcz (h : ta σ H fun us H1 => LcZ K g tt te vs σ Q us H1) : tLc (iZip K ta) g tt te vs σ H Q := h
theorem lc_zipO {α β : Type} {xs : List α} {ys : List β} {f : α → PyData} {h : β → PyData} {p q : Nat} (fr : α × β → Option PyData) (W : Wd K S H O) (hx : Dp K S x (.list (xs.map f))) (hy : Dp K S y (.list (ys.map h))) (hl : xs.length = ys.length) (hlen : xs.length ≤ 1000000)
    (hs : ∀ z w S' H' R acc N, (z, w) ∈ xs.zip ys → Wd K S' H' ((R, .lst acc) :: O) → Same S S' → LcE K S' O R acc (fr (z, w)) N → Kn K S' (f z) fun u => Kn K S' (h w) fun v =>
      tt (((wipe σ vs).set p (some u)).set q (some v)) H' fun b H3 => if b = true then te (((wipe σ vs).set p (some u)).set q (some v)) H3 fun y H4 => EndY R N y H4 else N H3)
    (k : ∀ S' H' R acc, Wd K S' H' ((R, .lst acc) :: O) → Same S S' → DpAll K S' acc ((xs.zip ys).filterMap fr) → Q (.ref R) H')
    (e : ∀ u v, wipe (((wipe σ vs).set p (some u)).set q (some v)) vs = wipe σ vs := by intros; rfl) : LcZ K (gTup K 2 (gCons (gName p) (gCons (gName q) gNil))) tt te vs σ Q [x, y] H := by
  obtain ⟨a, us, rfl, hq1, ha⟩ := dp_lst_ex hx
  obtain ⟨b, ws, rfl, hq2, hb⟩ := dp_lst_ex hy
  have l1 : us.length = xs.length := by rw [dpAll_len ha, List.length_map]
  have l2 : ws.length = ys.length := by rw [dpAll_len hb, List.length_map]
  have lz : (xs.zip ys).length = xs.length := by rw [List.length_zip]; omega
  refine ⟨a, b, us, ws, rfl, W.lst hq1, W.lst hq2, fun R hR => ⟨fun i m H' => m = xs.length - i ∧ i ≤ xs.length ∧ LcP K (xs.zip ys) fr S O R i H', ⟨xs.length, rfl, Nat.zero_le _, S, [], W.alloc hR, Same.refl S, by simp; exact .nil⟩, ?_⟩⟩
  rintro i m H' ⟨rfl, hi, S', acc, W', hS, hA⟩
  have g1 : SqL K H' a us := W'.lst (hS.seq hq1)
  have g2 : SqL K H' b ws := W'.lst (hS.seq hq2)
  by_cases hlt : i < xs.length
  · have e1 : us[i]? = some us[i] := List.getElem?_eq_getElem (by omega)
    have e2 : ws[i]? = some ws[i] := List.getElem?_eq_getElem (by omega)
    refine .inr ⟨⟨us, ws, _, _, g1, g2, e1, e2⟩, LcP K (xs.zip ys) fr S O R (i + 1), fun H'' p' => ⟨xs.length - (i + 1), by omega, rfl, hlt, p'⟩, fun v H'' yy => ?_⟩
    obtain ⟨T, u, w, rfl, hT, rfl, f1, f2⟩ := yy
    have e1 := f1 us g1
    have e2 := f2 ws g2
    obtain ⟨d1, h1, r1⟩ := dpAll_get' ha e1
    obtain ⟨d2, h2, r2⟩ := dpAll_get' hb e2
    rw [List.getElem?_map] at h1 h2
    have c1 : xs[i]? = some xs[i] := List.getElem?_eq_getElem hlt
    have c2 : ys[i]? = some (ys[i]'(by omega)) := List.getElem?_eq_getElem (by omega)
    rw [c1] at h1
    rw [c2] at h2
    cases h1
    cases h2
    have cz : (xs.zip ys)[i]? = some (xs[i], ys[i]'(by omega)) := by rw [List.getElem?_zip_eq_some]; exact ⟨c1, c2⟩
    refine ⟨T, [u, w], rfl, .inl (.inl upd_same), rfl, u, [w], rfl, w, [], rfl, rfl, e u w, ?_⟩
    have W2 := W'.new (o := .tup [u, w]) hT
    have hT' := W'.frS hT
    have E2 := lcE_of (S := S) (K := K) (O := O) (R := R) (fr := fr) (by rw [lz]; exact hlen) cz (hS.trans (same_new (o := .tup [u, w]) hT')) (dpAll_mono (same_new hT') hA)
    exact ((hs _ _ _ _ R acc _ (List.mem_of_getElem? cz) W2 (hS.trans (same_new hT')) E2).of u (dp_mono (hS.trans (same_new hT')) r1)).of w (dp_mono (hS.trans (same_new hT')) r2)
  · have e3 : i = xs.length := by omega
    subst e3
    refine .inl ⟨⟨us, ws, g1, g2, Or.inl (by omega)⟩, ?_⟩
    rw [← lz, List.take_length] at hA
    exact k S' H' R acc W' hS hA
theorem lc_zipS {α β : Type} {xs : List α} {ys : List β} {f : α → PyData} {h : β → PyData} {p q : Nat} (fr : α × β → Option PyData) (W : Wd K S H O) (hx : Dp K S x (.list (xs.map f))) (hy : Dp K S y (.list (ys.map h))) (hl : xs.length = ys.length) (hlen : xs.length ≤ 1000000)
    (hs : ∀ z w S' H' R acc N, (z, w) ∈ xs.zip ys → Wd K S' H' ((R, .lst acc) :: O) → Same S S' → LcE K S' O R acc (fr (z, w)) N → Kn K S' (f z) fun u => Kn K S' (h w) fun v =>
      tt (((wipe σ vs).set p (some u)).set q (some v)) H' fun b H3 => if b = true then te (((wipe σ vs).set p (some u)).set q (some v)) H3 fun y H4 => EndY R N y H4 else N H3)
    (k : ∀ S' H' v, Wd K S' H' O → Same S S' → Dp K S' v (.list ((xs.zip ys).filterMap fr)) → Q v H')
    (e : ∀ u v, wipe (((wipe σ vs).set p (some u)).set q (some v)) vs = wipe σ vs := by intros; rfl) : LcZ K (gTup K 2 (gCons (gName p) (gCons (gName q) gNil))) tt te vs σ Q [x, y] H :=
  lc_zipO fr W hx hy hl hlen hs (fun S' H' R acc W' hS hA => k _ H' _ (W'.give 0 rfl) (hS.trans (same_new (W'.atS 0 rfl))) (dp_give (W'.atS 0 rfl) hA)) e
end
end SB
namespace SB
open L2
theorem cdivw_any {i i' j : Int} (h : CDivW i j) : CDivW i' j := h
theorem cdivw_of {i j : Int} {b : Nat} (h : 0 < j) (hb : j.natAbs < 2 ^ b) (h0 : 0 < b := by decide) (h9 : b ≤ 9000 := by decide) : CDivW i j := wide_div h hb h0 h9
theorem cmulw_of {i j : Int} {a b : Nat} (ha : i.natAbs < 2 ^ a) (hb : j.natAbs < 2 ^ b) (h0 : 0 < a := by decide) (h1 : 0 < b := by decide) (h : a + b ≤ 1000000 := by decide) : CMulW i j := wide_mul ha hb h0 h1 h
end SB
namespace SB
open PySem PySem.Spec PyProof.Rows L2
section
variable {CX : CXT} {P : Program} {w : World} {K : PySem.W.Frag} {mg : Str → Option Value} {base : Heap} {N : List Str} {qual : Str} {scope : Scope} {f : Addr} {cd : Value} {A : Around} {outer : List Env} {s : Shared} {H : Hp} {E : XK}
theorem cxK : (cxOf CX P w K mg base N qual scope f cd A outer s H E).K = K := rfl
theorem cxw : (cxOf CX P w K mg base N qual scope f cd A outer s H E).w = w := rfl
theorem cxprog : (cxOf CX P w K mg base N qual scope f cd A outer s H E).prog = P := rfl
end
end SB
namespace SB
open PySem PySem.Spec PyProof.Rows L2
theorem exm_own {K : PySem.W.Frag} {C D : Addr} {b : Bool} (hs : PySem.W.subIn K (.ref D) (.type "BaseException") = some true) (hi : PySem.W.isClsIn K D = true) (ht : PySem.W.typeIn K (.ref D) = some (.type "type"))
    (h : PySem.W.subIn K (.ref C) (.ref D) = some b) : PySem.W.exmOne K (.ref C) (.ref D) = some b := by
  have e1 : (PySem.W.subIn K (.ref D) (.type "BaseException") == some true) = true := by rw [hs]; rfl
  have hi' : (PySem.W.clsIn K D).isSome = true := hi
  have e2 : ((PySem.W.clsIn K D).isSome && PySem.W.typeIn K (.ref D) == some (.type "type")) = true := by rw [hi', ht]; rfl
  show (if (PySem.W.subIn K (.ref D) (.type "BaseException") == some true) = true then (if ((PySem.W.clsIn K D).isSome && PySem.W.typeIn K (.ref D) == some (.type "type")) = true then PySem.W.subIn K (.ref C) (.ref D) else none) else none) = some b
  rw [if_pos e1, if_pos e2]
  exact h
theorem kit_self {K : PySem.W.Frag} {C : Addr} : PySem.W.kitOne K (.ref C) (.ref C) = some true := by
  show (if ((Value.ref C : Value) == .ref C) = true then some true else _) = some true
  rw [if_pos (by simp)]
theorem kit_own {K : PySem.W.Frag} {C D : Addr} {b : Bool} (hne : C ≠ D) (hi : PySem.W.isClsIn K D = true) (ht : PySem.W.typeIn K (.ref D) = some (.type "type"))
    (h : PySem.W.subIn K (.ref C) (.ref D) = some b) : PySem.W.kitOne K (.ref C) (.ref D) = some b := by
  have hi' : (PySem.W.clsIn K D).isSome = true := hi
  have e2 : ((PySem.W.clsIn K D).isSome && PySem.W.typeIn K (.ref D) == some (.type "type")) = true := by rw [hi', ht]; rfl
  show (if ((Value.ref C : Value) == .ref D) = true then some true else (if ((PySem.W.clsIn K D).isSome && PySem.W.typeIn K (.ref D) == some (.type "type")) = true then PySem.W.subIn K (.ref C) (.ref D) else none)) = some b
  rw [if_neg (by simpa using hne), if_pos e2]
  exact h
theorem kit_bty {K : PySem.W.Frag} {C : Addr} {n : String} {b : Bool} (hm : PySem.W.kitMeta n = true) (h : PySem.W.subIn K (.ref C) (.type n) = some b) : PySem.W.kitOne K (.ref C) (.type n) = some b := by
  show (if ((Value.ref C : Value) == .type n) = true then some true else (if PySem.W.kitMeta n = true then PySem.W.subIn K (.ref C) (.type n) else none)) = some b
  rw [if_neg (by simp), if_pos hm]
  exact h
theorem x_isX {K : PySem.W.Frag} {C c a : Addr} {b : Bool} {Q : VK} {H : Hp} (hC : ExcC K C) (hk : PySem.W.kitOne K (.ref C) (.ref c) = some b) (q : Q (.bl b) H) : rIsX K (.ref C) none a [.ref a, .ref c] H Q :=
  ⟨C, .ref c, .ref c, b, rfl, rfl, hC, rfl, fun u h => h, hk, q⟩
theorem x_isXT {K : PySem.W.Frag} {C a : Addr} {n : String} {b : Bool} {Q : VK} {H : Hp} (hC : ExcC K C) (hk : PySem.W.kitOne K (.ref C) (.type n) = some b) (q : Q (.bl b) H) : rIsX K (.ref C) none a [.ref a, .ty n] H Q :=
  ⟨C, .ty n, .type n, b, rfl, rfl, hC, rfl, fun u h => h, hk, q⟩
end SB
namespace SB
open L2
theorem kb_int_int : kitB "int" "int" = some true := by decide +kernel
theorem kb_int_bool : kitB "int" "bool" = some false := by decide +kernel
theorem kb_bool_bool : kitB "bool" "bool" = some true := by decide +kernel
theorem kb_bool_int : kitB "bool" "int" = some true := by decide +kernel
theorem kb_list_list : kitB "list" "list" = some true := by decide +kernel
theorem kb_tuple_tuple : kitB "tuple" "tuple" = some true := by decide +kernel
theorem kb_dict_dict : kitB "dict" "dict" = some true := by decide +kernel
theorem kb_NoneType_int : kitB "NoneType" "int" = some false := by decide +kernel
theorem kb_tuple_list : kitB "tuple" "list" = some false := by decide +kernel
theorem kb_list_tuple : kitB "list" "tuple" = some false := by decide +kernel
theorem kb_str_int : kitB "str" "int" = some false := by decide +kernel
theorem kb_tuple_int : kitB "tuple" "int" = some false := by decide +kernel
theorem kb_list_int : kitB "list" "int" = some false := by decide +kernel
end SB
namespace SB
open PySem PySem.Spec PyProof.Rows L2
/-! ### == of data -/
def Shp (n : Nat) (d : PyData) : Prop := d.canLay0 = true ∧ d.depth ≤ n
theorem shp_shaped {n : Nat} {d : PyData} (h : Shp n d) (hn : n ≤ 64 := by decide) : SeqAt.shaped d = true := by
  unfold SeqAt.shaped
  rw [h.1, Bool.true_and]
  exact decide_eq_true (Nat.le_trans h.2 hn)
theorem shp_int {n : Nat} (i : Int) : Shp n (.int i) := ⟨rfl, Nat.zero_le _⟩
theorem shp_bl {n : Nat} (i : Bool) : Shp n (.bool i) := ⟨rfl, Nat.zero_le _⟩
theorem shp_non {n : Nat} : Shp n .none := ⟨rfl, Nat.zero_le _⟩
theorem shp_all {n : Nat} : ∀ {ds : List PyData}, (∀ d ∈ ds, Shp n d) → PyData.canLayAll0 ds = true ∧ PyData.depthAll ds ≤ n
  | [], _ => ⟨rfl, Nat.zero_le _⟩
  | d :: ds, h => by
    have h1 := h d List.mem_cons_self
    have h2 := shp_all (ds := ds) fun e he => h e (List.mem_cons_of_mem _ he)
    refine ⟨?_, ?_⟩
    · show (PyData.canLay0 d && PyData.canLayAll0 ds) = true
      rw [h1.1, h2.1]
      rfl
    · show max (PyData.depth d) (PyData.depthAll ds) ≤ n
      exact Nat.max_le.mpr ⟨h1.2, h2.2⟩
theorem shp_list {n : Nat} {ds : List PyData} (h : ∀ d ∈ ds, Shp n d) : Shp (n + 1) (.list ds) := by
  have := shp_all h
  exact ⟨this.1, Nat.succ_le_succ this.2⟩
theorem shp_tup {n : Nat} {ds : List PyData} (h : ∀ d ∈ ds, Shp n d) : Shp (n + 1) (.tuple ds) := by
  have := shp_all h
  exact ⟨this.1, Nat.succ_le_succ this.2⟩
theorem shp_map {α : Type} {n : Nat} {xs : List α} {f : α → PyData} (h : ∀ x, Shp n (f x)) : Shp (n + 1) (.list (xs.map f)) := shp_list fun d hd => by
  obtain ⟨x, _, rfl⟩ := List.mem_map.mp hd
  exact h x
theorem eqvAll_map {α : Type} [DecidableEq α] {f : α → PyData} (h : ∀ x y, PyData.eqv (f x) (f y) = decide (x = y)) : ∀ xs ys : List α, PyData.eqvAll (xs.map f) (ys.map f) = decide (xs = ys)
  | [], [] => rfl
  | [], _ :: _ => rfl
  | _ :: _, [] => rfl
  | x :: xs, y :: ys => by
    show (PyData.eqv (f x) (f y) && PyData.eqvAll (xs.map f) (ys.map f)) = _
    rw [h, eqvAll_map h xs ys]
    by_cases e : x = y
    · subst e
      by_cases e2 : xs = ys
      · subst e2; simp
      · simp [e2]
    · simp [e]
theorem eqv_map {α : Type} [DecidableEq α] {f : α → PyData} (h : ∀ x y, PyData.eqv (f x) (f y) = decide (x = y)) (xs ys : List α) : PyData.eqv (.list (xs.map f)) (.list (ys.map f)) = decide (xs = ys) := eqvAll_map h xs ys
theorem eqv_int (x y : Int) : PyData.eqv (.int x) (.int y) = decide (x = y) := Bool.beq_eq_decide_eq x y
theorem eqv_self {d : PyData} {n : Nat} (h : Shp n d) : PyData.eqv d d = true := SeqAt.eqv_refl d h.1
section
variable {K : PySem.W.Frag} {S H : Hp} {O : List (Addr × HO)} {Q : VK} {x y : V}
theorem x_eqD {d e : PyData} (W : Wd K S H O) (h1 : Dp K S x d) (h2 : Dp K S y e) (s1 : Shp 64 d) (s2 : Shp 64 e) (q : Q (.bl (PyData.eqv d e)) H) : rEqD K x y H Q :=
  ⟨d, e, dp_mono W.sub h1, dp_mono W.sub h2, shp_shaped s1, shp_shaped s2, q⟩
theorem x_neD {d e : PyData} (W : Wd K S H O) (h1 : Dp K S x d) (h2 : Dp K S y e) (s1 : Shp 64 d) (s2 : Shp 64 e) (q : Q (.bl (!PyData.eqv d e)) H) : rNeD K x y H Q :=
  ⟨d, e, dp_mono W.sub h1, dp_mono W.sub h2, shp_shaped s1, shp_shaped s2, q⟩
end
theorem Shp.mono {m n : Nat} {d : PyData} (h : Shp m d) (hn : m ≤ n) : Shp n d := ⟨h.1, Nat.le_trans h.2 hn⟩
end SB
namespace SB
open PySem PySem.Spec PyProof.Rows L2
/-! ### list + list, list * int -/
def rCatS (K : PySem.W.Frag) : R2 := fun x y H Q => ∃ l b xs zs, x = .ref l ∧ y = .ref b ∧ SqL K H l xs ∧ SqL K H b zs ∧ xs.length + zs.length ≤ sizeLine ∧ ∀ p, H p = none → Q (.ref p) (upd H p (.lst (xs ++ zs)))
theorem op_catS {X : Cx} : OpR X (binaryOp .Add) (rCatS X.K) := by
  intro pins s σ H x y v u Q I rx ry h
  obtain ⟨l, b, xs, zs, rfl, rfl, hH, hB, hz, q⟩ := h
  cases rx
  cases ry
  obtain ⟨its, r, p1, z1⟩ := I.list hH
  obtain ⟨its2, r2, p2, z2⟩ := I.list hB
  have hl := r.length
  have hl2 := r2.length
  obtain ⟨⟨cls, dd, data, sl⟩, n, ho, hc, hdn, hd⟩ := p1
  obtain ⟨⟨cls2, dd2, data2, sl2⟩, n2, ho2, hc2, hdn2, hd2⟩ := p2
  simp only at hc hd hc2 hd2
  subst hc hd hc2 hd2
  have e : its.toArray ++ its2.toArray = (its ++ its2).toArray := by simp
  refine concat_meets ⟨_, ho, rfl⟩ ⟨_, ho2, rfl⟩ noFill_list_add seq_list_add PySem.F.slot_list_add PySem.F.entry_list_add (PySem.F.args_list_add_2 _ _) (list_addW l b its.toArray its2.toArray n n2 dd dd2 sl sl2 (by rw [List.size_toArray, List.size_toArray]; omega)) ⟨ho, ho2, ?_⟩
  rw [e]
  exact ⟨.ref _, _, I.lnew (t' := s.toks) (r.append r2) (by rw [List.length_append]; omega), rfl, q _ I.fresh⟩
section
variable {K : PySem.W.Frag} {S H : Hp} {O : List (Addr × HO)} {Q : VK} {x y : V}
theorem x_catS {ds es : List PyData} (W : Wd K S H O) (h1 : Dp K S x (.list ds)) (h2 : Dp K S y (.list es)) (hl : ds.length + es.length ≤ 1000000) (k : ∀ S' H' v, Wd K S' H' O → Same S S' → Dp K S' v (.list (ds ++ es)) → Q v H') : rCatS K x y H Q := by
  obtain ⟨a, us, rfl, hq1, ha⟩ := dp_lst_ex h1
  obtain ⟨b, ws, rfl, hq2, hb⟩ := dp_lst_ex h2
  exact ⟨a, b, us, ws, rfl, rfl, W.lst hq1, W.lst hq2, sz (by rw [dpAll_len ha, dpAll_len hb]; exact hl), x_lst' W (dpAll_cat ha hb) k⟩
theorem flatten_rep {n : Nat} {v : V} : (List.replicate n [v]).flatten = List.replicate n v := by
  induction n with
  | zero => rfl
  | succ n ih => rw [List.replicate_succ, List.flatten_cons, ih]; rfl
/-- [v] * n: a new list that is ours; the first one is let go -/
theorem x_rep {p : Addr} {v : V} {n : Int} (W : Wd K S H ((p, .lst [v]) :: O)) (h0 : -1000000 ≤ n) (h1 : n ≤ 1000000) (k : ∀ S' H' q, Wd K S' H' ((q, .lst (List.replicate n.toNat v)) :: O) → Same S S' → Q (.ref q) H') : rRep (.ref p) (.int n) H Q := by
  refine ⟨p, n, [v], rfl, rfl, W.at 0 rfl, by omega, by omega, ?_, fun q hq => ?_⟩
  · show 1 * n.toNat ≤ sizeLine
    exact sz (by omega)
  · rw [flatten_rep]
    exact k _ _ q ((W.give 0 rfl).alloc hq) (same_new (W.atS 0 rfl))
end
end SB
/-! Comprehensions by what they give. -/
namespace SB
open PySem PySem.Spec PyProof.Rows L2
theorem fm_map {α β : Type} {xs : List α} {f : α → β} : xs.filterMap (fun z => some (f z)) = xs.map f := by
  induction xs with
  | nil => rfl
  | cons x r ih => simp only [List.filterMap_cons, List.map_cons, ih]
theorem fm_filt {α β : Type} {xs : List α} {p : α → Bool} {f : α → β} : xs.filterMap (fun z => if p z = true then some (f z) else none) = (xs.filter p).map f := by
  induction xs with
  | nil => rfl
  | cons x r ih =>
    cases h : p x
    · rw [List.filter_cons_of_neg (by rw [h]; exact Bool.false_ne_true), ← ih, List.filterMap_cons]
      simp only [h, Bool.false_eq_true, if_false]
    · rw [List.filter_cons_of_pos h, List.map_cons, ← ih, List.filterMap_cons]
      simp only [h, if_true]
section
variable {K : PySem.W.Frag} {S H : Hp} {O : List (Addr × HO)} {σ : L2.St} {Q : VK} {x y v : V} {tt : TT} {g : TG} {te : TE} {vs : List Nat}
theorem lc_map {α β : Type} {xs : List α} {f : α → PyData} (e : β → PyData) (G : α → β) (W : Wd K S H O) (hv : Dp K S x (.list (xs.map f))) (hlen : xs.length ≤ 1000000)
    (hs : ∀ z S' H' R acc N, z ∈ xs → Wd K S' H' ((R, .lst acc) :: O) → Same S S' → LcE K S' O R acc (some (e (G z))) N → Kn K S' (f z) fun u => LcB g tt te vs σ R N u H')
    (k : ∀ S' H' v, Wd K S' H' O → Same S S' → Dp K S' v (.list ((xs.map G).map e)) → Q v H') : LcL K g tt te vs σ Q x H :=
  lc_listS (fun z => some (e (G z))) W hv hlen hs fun S' H' v W' hS hv' => k S' H' v W' hS (by rw [fm_map] at hv'; rw [List.map_map]; exact hv')
theorem lc_filt {α β : Type} {xs : List α} {f : α → PyData} (e : β → PyData) (p : α → Bool) (G : α → β) (W : Wd K S H O) (hv : Dp K S x (.list (xs.map f))) (hlen : xs.length ≤ 1000000)
    (hs : ∀ z S' H' R acc N, z ∈ xs → Wd K S' H' ((R, .lst acc) :: O) → Same S S' → LcE K S' O R acc (if p z = true then some (e (G z)) else none) N → Kn K S' (f z) fun u => LcB g tt te vs σ R N u H')
    (k : ∀ S' H' v, Wd K S' H' O → Same S S' → Dp K S' v (.list (((xs.filter p).map G).map e)) → Q v H') : LcL K g tt te vs σ Q x H :=
  lc_listS (fun z => if p z = true then some (e (G z)) else none) W hv hlen hs fun S' H' v W' hS hv' => k S' H' v W' hS (by rw [fm_filt] at hv'; rw [List.map_map]; exact hv')
theorem lcr_map {β : Type} {j : Int} (e : β → PyData) (G : Nat → β) (W : Wd K S H O) (hj : -(2 ^ 62) ≤ j ∧ j ≤ 1000000)
    (hs : ∀ (z : Nat) S' H' R acc N, z < j.toNat → Wd K S' H' ((R, .lst acc) :: O) → Same S S' → LcE K S' O R acc (some (e (G z))) N → LcB g tt te vs σ R N (.int (z : Int)) H')
    (k : ∀ S' H' v, Wd K S' H' O → Same S S' → Dp K S' v (.list (((List.range j.toNat).map G).map e)) → Q v H') : LcR g tt te vs σ Q [.int j] H :=
  lc_rangeS (fun z => some (e (G z))) W hj hs fun S' H' v W' hS hv' => k S' H' v W' hS (by rw [fm_map] at hv'; rw [List.map_map]; exact hv')
theorem lcr_filt {β : Type} {j : Int} (e : β → PyData) (p : Nat → Bool) (G : Nat → β) (W : Wd K S H O) (hj : -(2 ^ 62) ≤ j ∧ j ≤ 1000000)
    (hs : ∀ (z : Nat) S' H' R acc N, z < j.toNat → Wd K S' H' ((R, .lst acc) :: O) → Same S S' → LcE K S' O R acc (if p z = true then some (e (G z)) else none) N → LcB g tt te vs σ R N (.int (z : Int)) H')
    (k : ∀ S' H' v, Wd K S' H' O → Same S S' → Dp K S' v (.list ((((List.range j.toNat).filter p).map G).map e)) → Q v H') : LcR g tt te vs σ Q [.int j] H :=
  lc_rangeS (fun z => if p z = true then some (e (G z)) else none) W hj hs fun S' H' v W' hS hv' => k S' H' v W' hS (by rw [fm_filt] at hv'; rw [List.map_map]; exact hv')
theorem lcz_map {α β γ : Type} {xs : List α} {ys : List β} {f : α → PyData} {h : β → PyData} {p q : Nat} (e : γ → PyData) (G : α × β → γ) (W : Wd K S H O) (hx : Dp K S x (.list (xs.map f))) (hy : Dp K S y (.list (ys.map h))) (hl : xs.length = ys.length) (hlen : xs.length ≤ 1000000)
    (hs : ∀ z w S' H' R acc N, (z, w) ∈ xs.zip ys → Wd K S' H' ((R, .lst acc) :: O) → Same S S' → LcE K S' O R acc (some (e (G (z, w)))) N → Kn K S' (f z) fun u => Kn K S' (h w) fun v =>
      tt (((wipe σ vs).set p (some u)).set q (some v)) H' fun b H3 => if b = true then te (((wipe σ vs).set p (some u)).set q (some v)) H3 fun y H4 => EndY R N y H4 else N H3)
    (k : ∀ S' H' v, Wd K S' H' O → Same S S' → Dp K S' v (.list (((xs.zip ys).map G).map e)) → Q v H')
    (ew : ∀ u v, wipe (((wipe σ vs).set p (some u)).set q (some v)) vs = wipe σ vs := by intros; rfl) : LcZ K (gTup K 2 (gCons (gName p) (gCons (gName q) gNil))) tt te vs σ Q [x, y] H :=
  lc_zipS (fun z => some (e (G z))) W hx hy hl hlen hs (fun S' H' v W' hS hv' => k S' H' v W' hS (by rw [fm_map] at hv'; rw [List.map_map]; exact hv')) ew
/-- in, not in: ints -/
theorem flat_ints (ns : List Int) : (ns.map V.int).all flatV = true := by
  rw [List.all_eq_true]
  intro z hz
  obtain ⟨i, _, rfl⟩ := List.mem_map.mp hz
  rfl
theorem inV_ints (i : Int) (ns : List Int) : inV (.int i) (ns.map V.int) = decide (i ∈ ns) := by
  unfold inV
  rw [Bool.eq_iff_iff, List.any_eq_true, decide_eq_true_iff]
  constructor
  · rintro ⟨z, hz, e⟩
    obtain ⟨j, hj, rfl⟩ := List.mem_map.mp hz
    have : j = i := by simpa [eqV] using e
    subst this
    exact hj
  · intro h
    exact ⟨.int i, List.mem_map_of_mem h, by simp [eqV]⟩
theorem x_inT {i : Int} {ns : List Int} {neg : Bool} (W : Wd K S H O) (h : Dp K S x (.tuple (ns.map PyData.int))) (q : Q (.bl (if neg then !decide (i ∈ ns) else decide (i ∈ ns))) H) : rIn K neg (.int i) x H Q := by
  obtain ⟨a, us, rfl, hq, ha⟩ := dp_tup_ex h
  rw [ints_of ha] at hq
  exact ⟨a, _, rfl, .inr (W.tup hq), rfl, flat_ints ns, by rw [inV_ints]; exact q⟩
theorem x_inL {i : Int} {ns : List Int} {neg : Bool} (W : Wd K S H O) (h : Dp K S x (.list (ns.map PyData.int))) (q : Q (.bl (if neg then !decide (i ∈ ns) else decide (i ∈ ns))) H) : rIn K neg (.int i) x H Q := by
  obtain ⟨a, us, rfl, hq, ha⟩ := dp_lst_ex h
  rw [ints_of ha] at hq
  exact ⟨a, _, rfl, .inl (W.lst hq), rfl, flat_ints ns, by rw [inV_ints]; exact q⟩
theorem x_inO {i : Int} {ns : List Int} {neg : Bool} {p : Addr} (n : Nat) (W : Wd K S H O) (h : O[n]? = some (p, .lst (ns.map V.int))) (q : Q (.bl (if neg then !decide (i ∈ ns) else decide (i ∈ ns))) H) : rIn K neg (.int i) (.ref p) H Q :=
  ⟨p, _, rfl, .inl (.of (W.at n h)), rfl, flat_ints ns, by rw [inV_ints]; exact q⟩
end
end SB
/-! Lists of ints that are ours. -/
namespace SB
open PySem PySem.Spec PyProof.Rows L2
section
variable {K : PySem.W.Frag} {S H : Hp} {O : List (Addr × HO)} {σ : L2.St} {Q : VK} {x y v : V}
theorem x_ixM {p : Addr} {xs : List Int} {i : Int} (n : Nat) (W : Wd K S H O) (h : O[n]? = some (p, .lst (xs.map V.int))) (h0 : 0 ≤ i) (h1 : i < xs.length) (k : Q (.int (nth xs i)) H) : rIx K (.ref p) (.int i) H Q :=
  x_ixO n W h (atI_map h0 h1) k
theorem x_setM {p : Addr} {xs : List Int} {i b : Int} {Q : Hp → Prop} (n : Nat) (W : Wd K S H O) (h : O[n]? = some (p, .lst (xs.map V.int))) (h0 : 0 ≤ i) (h1 : i < xs.length)
    (k : ∀ H', Wd K S H' (O.set n (p, .lst ((xs.set i.toNat b).map V.int))) → Q H') : rSetL (.ref p) (.int i) (.int b) H Q :=
  x_setO n W h (ixN_of h0 (by rw [List.length_map]; exact h1)) fun H' W' => k H' (by rw [List.map_set]; exact W')
theorem dpAll_intsV (ns : List Int) : DpAll K S (ns.map V.int) (ns.map PyData.int) := dpAll_ints ns
theorem flatten_repI {n : Nat} {i : Int} : List.replicate n (V.int i) = (List.replicate n i).map V.int := by
  rw [List.map_replicate]
theorem x_repI {p : Addr} {i n : Int} (W : Wd K S H ((p, .lst [.int i]) :: O)) (h0 : -1000000 ≤ n) (h1 : n ≤ 1000000) (k : ∀ S' H' q, Wd K S' H' ((q, .lst ((List.replicate n.toNat i).map V.int)) :: O) → Same S S' → Q (.ref q) H') : rRep (.ref p) (.int n) H Q :=
  x_rep W h0 h1 fun S' H' q W' hS => k S' H' q (by rw [← flatten_repI]; exact W') hS
end
end SB
namespace SB
open PySem PySem.Spec PyProof.Rows L2
theorem ne_true {c : Bool} (h : c = false) : ¬ c = true := by rw [h]; exact Bool.false_ne_true
section
variable {K : PySem.W.Frag} {S H : Hp} {O : List (Addr × HO)} {σ : L2.St} {Q : VK} {x y v : V} {g : TG} {tb : TS} {nx bk ct : L2.St → Hp → Prop} {rt : VK}
/-- one of ours, the first, stays from now on -/
theorem x_give {G : Prop} {p : Addr} {vs : List V} {ds : List PyData} (W : Wd K S H ((p, .lst vs) :: O)) (h : DpAll K S vs ds) (k : ∀ S', Wd K S' H O → Same S S' → Dp K S' (.ref p) (.list ds) → G) : G :=
  k _ (W.give 0 rfl) (same_new (W.atS 0 rfl)) (dp_give (W.atS 0 rfl) h)
theorem x_giveI {G : Prop} {p : Addr} {ns : List Int} (W : Wd K S H ((p, .lst (ns.map V.int)) :: O)) (k : ∀ S', Wd K S' H O → Same S S' → Dp K S' (.ref p) (.list (ns.map PyData.int)) → G) : G :=
  x_give W (dpAll_ints ns) k
/-- over range(len(xs)) -/
theorem x_forNL {α β : Type} {xs : List α} {f : α → β} (J : Nat → L2.St → Hp → Prop) (hl : xs.length ≤ 1000000) (h0 : J 0 σ H)
    (hs : ∀ (i : Nat) σ' H', i < xs.length → J i σ' H' → g (.int (i : Int)) σ' H' fun σ2 H2 => tb ⟨J (i + 1), rt, nx, J (i + 1)⟩ σ2 H2) (hd : ∀ σ' H', J xs.length σ' H' → nx σ' H') : ForR g tb ⟨nx, rt, bk, ct⟩ [.int (((xs.map f).length : Nat) : Int)] σ H := by
  have e : (((xs.map f).length : Nat) : Int).toNat = xs.length := by rw [List.length_map]; exact Int.toNat_natCast _
  refine x_forN J (by rw [List.length_map]; omega) h0 (fun i σ' H' hi h => hs i σ' H' (by rw [e] at hi; exact hi) h) (fun σ' H' h => hd σ' H' (by rw [e] at h; exact h))
end
end SB
/-! ### rules with the fragment named, for what stands in a comprehension -/
namespace SB
open PySem PySem.Spec PyProof.Rows L2
section
variable {X : Cx} {K : PySem.W.Frag}
theorem ixa (e : X.K = K) : IxR X (rIx K) := e ▸ ix_seq
theorem lena (e : X.K = K) : CallR X (.builtin "len") (rLen K) := e ▸ cl_len
theorem lista (e : X.K = K) : CallR X (.type "list") (rLst K) := e ▸ cl_list
theorem suma (e : X.K = K) (hc : X.calm = true) : CallR X (.builtin "sum") (rSum K) := e ▸ cr_sum hc
theorem alla (e : X.K = K) (hc : X.calm = true) : CallR X (.builtin "all") (rAll K) := e ▸ cr_all hc
theorem anya (e : X.K = K) (hc : X.calm = true) : CallR X (.builtin "any") (rAny K) := e ▸ cr_any hc
theorem maxa (e : X.K = K) (hc : X.calm = true) : CallR X (.builtin "max") (rMax K) := e ▸ cr_max hc
theorem mina (e : X.K = K) (hc : X.calm = true) : CallR X (.builtin "min") (rMin K) := e ▸ cr_min hc
theorem isia (e : X.K = K) : CallR X (.builtin "isinstance") (rIsi K) := e ▸ call_isi
theorem ina (e : X.K = K) : OpR X (compareOp .In) (rIn K false) := e ▸ op_in_seq
theorem notIna (e : X.K = K) : OpR X (compareOp .NotIn) (rIn K true) := e ▸ op_notIn_seq
theorem catSa (e : X.K = K) : OpR X (binaryOp .Add) (rCatS K) := e ▸ op_catS
theorem slLa (e : X.K = K) : SlR X (rSlL K) := e ▸ sl_list
theorem slTa (e : X.K = K) : SlR X (rSlT K) := e ▸ sl_tup
theorem eqDa (e : X.K = K) (hu : X.A.units + 64 < cLine) : OpR X (compareOp .Eq) (rEqD K) := e ▸ op_eqD hu
theorem neDa (e : X.K = K) (hu : X.A.units + 64 < cLine) : OpR X (compareOp .NotEq) (rNeD K) := e ▸ op_neD hu
theorem trutha (e : X.K = K) {a : Expr} {ta : TE} (ha : PE X a ta) (he : ∀ whole, isTrue a X.env whole = (do let v ← whole; standAt a.pos; holding [v] (truthy v))) : PT X a (tTr K ta) := e ▸ pl_truth ha he
theorem tupa (e : X.K = K) {pos : Pos} {es : List Expr} {k : Nat} {t : TGs} {n : Nat} (hc : X.calm = true) (h : PGs X es t)
    (hn : (assignEach es X.env).length = n := by rfl) (hst : (assignEach es X.env).findIdx? (·.1) = none := by rfl) : PG X (.Tuple es k pos) (gTup K n t) := e ▸ pg_tup hc h hn hst
end
end SB
/-! ### where ways meet -/
namespace SB
open PySem PySem.Spec PyProof.Rows L2
section
variable {K : PySem.W.Frag} {S H : Hp} {O : List (Addr × HO)} {σ : L2.St} {Q : VK} {x y v : V} {tt : TT} {t u : TS} {nx bk ct : L2.St → Hp → Prop} {rt : VK}
theorem x_ifJ (J : L2.St → Hp → Prop) (h : ∀ nx' : L2.St → Hp → Prop, (∀ σ' H', J σ' H' → nx' σ' H') → tt σ H fun b H1 => if b = true then t ⟨nx', rt, bk, ct⟩ σ H1 else u ⟨nx', rt, bk, ct⟩ σ H1)
    (hd : ∀ σ' H', J σ' H' → nx σ' H') : tIfS tt t u ⟨nx, rt, bk, ct⟩ σ H := h nx hd
theorem x_cutV {t : TE} (J : V → Hp → Prop) (h : ∀ Q' : VK, (∀ v H', J v H' → Q' v H') → t σ H Q') (hd : ∀ v H', J v H' → Q v H') : t σ H Q := h Q hd
theorem x_isB {a b : Bool} (q : Q (.bl (decide (a = b))) H) : rIsB (.bl a) (.bl b) H Q := ⟨a, b, rfl, rfl, q⟩
theorem x_notB {a b : Bool} (q : Q (.bl (!decide (a = b))) H) : rNotB (.bl a) (.bl b) H Q := ⟨a, b, rfl, rfl, q⟩
end
end SB
/-! set(xs) of a list of ints; sorted and len of it. -/
namespace SB
open PySem PySem.Spec PyProof.Rows L2
section
variable {P : Program} {w : World} {A : Around} {E : Value → Shared → Prop} {s : Shared}
/-- a set that was made just now -/
abbrev setZ (w : World) : Obj := { cls := .type "set", dict := none, data := .set #[] 0 (.fresh 0 0 (!w.params.followText "set-order")) }
set_option maxHeartbeats 3200000 in
theorem set_of_list {l : Addr} {items : Array Value} (ns : List Int) {Q : Value → Shared → Prop} (hh : A.handled = none) (hl : s.heap.IsList l items) (hit : IntsAre items.toList ns) (hb : ns.length + 1 < scanBound)
    (h : ∀ (h' : Heap) (tk c : Nat), SetR w h' s.heap.objs.size (fun j => decide (j ∈ ns)) c → c ≤ ns.length → (∀ b o, s.heap.get? b = some o → h'.get? b = some o) → Q (.ref s.heap.objs.size) { s with heap := h', toks := tk }) :
    wpAny (model P w) A (call (.type "set") [.ref l]) Q E s := by
  have hsz : items.size = ns.length := by
    have q := IntsAre.length hit
    rw [Array.length_toList] at q
    exact q
  obtain ⟨c, tl, hmro⟩ := F.called_set.mro
  have hmade := F.called_set.made
  have hsub := F.called_set.sub
  refine wpAny_call (codeAny_of_tree ?_)
  show wpAny _ _ (callAny (.type "set") _) _ _ _
  refine wpAny_pure ⟨Code.quiet_builtin _ (by decide +kernel), codeAny_builtin F.entry_type_call ?_⟩
  rw [Around.under_plain (weight_type_call_type "set" [.ref l] []) rfl]
  have h1 := F.called_set.notType
  have h2 := F.called_set.canCreate
  have hct := F.typeCall_set_1 (.ref l)
  repeat (any_goals (first | assumption | wp_step))
  refine codeAny_mono (code_set_led1 (.ref l) (E := E) (Q₁ := fun obj s₁ => obj = .ref s.heap.objs.size ∧ s₁ = { s with heap := s.heap.push (setZ w) }) ⟨rfl, rfl⟩) fun r s₁ hr => ?_
  match r, hr with
  | .error e, hr => exact hr
  | .ok (.ret obj), hr =>
    obtain ⟨rfl, rfl⟩ := hr
    have hS : (s.heap.push (setZ w)).get? s.heap.objs.size = some (setZ w) := Heap.get?_push_size _ rfl
    have hT : Shared.TypeIs { s with heap := s.heap.push (setZ w) } (.ref s.heap.objs.size) "set" := ⟨_, hS, rfl⟩
    have hli := F.called_set.init.lookup
    have hbi := F.called_set.init.bind (.ref s.heap.objs.size)
    repeat (any_goals (first | assumption | wp_step))
    refine codeAny_mono (codeAny_call_builtin (R := wants (fun r s₂ => r = .none ∧ ∃ h' tk c, s₂ = { s with heap := h', toks := tk } ∧ SetR w h' s.heap.objs.size (fun j => decide (j ∈ ns)) c ∧ c ≤ ns.length ∧
        (∀ b o, s.heap.get? b = some o → h'.get? b = some o)) E) F.called_set.init.plain F.entry_set_init (check_set_init_1 hT ?_)) fun r₂ s₂ hr₂ => ?_
    · obtain ⟨⟨ocls, odict, odata, oslots⟩, hol, hcl, nl, hdl⟩ := hl
      simp only at hcl hdl
      subst hcl
      subst hdl
      have hol' : (s.heap.push (setZ w)).get? l = some { cls := .type "list", dict := odict, data := .seq items nl, slots := oslots } := Heap.get?_push_of_some _ hol
      have g1 := F.sub_list_set
      have g2 := F.sub_list_frozenset
      have hne : (Value.type "list" == Value.type "dict") = false := by decide
      have hl1 : (s.heap.push (setZ w)).IsList l items := ⟨_, hol', rfl, nl, rfl⟩
      unfold Builtin.«set.__init__» noKeywords Builtin.Frozenset.updateFrom
      generalize hPI : pyIter = PI
      wp_walk
      subst hPI
      refine wpAny_pyIter_list hl1 ?_
      refine wpAny_bind (wpAny_runValue ?_)
      have hlS : l < s.heap.objs.size := Heap.lt_size hol
      have hh3 : A.in1.in1.in1.handled = none := by simp [hh]
      have hz : (s.heap.push (setZ w)).objs.size = s.heap.objs.size + 1 := Heap.size_push ..
      have hSf : s.heap.objs.size ∉ [(s.heap.push (setZ w)).objs.size, l] := by
        rw [hz]
        simp only [List.mem_cons, List.not_mem_nil, or_false, not_or]
        exact ⟨Nat.ne_of_lt (Nat.lt_succ_self _), Nat.ne_of_gt hlS⟩
      have hval : ∀ (i : Nat) (v : Value), items[i]? = some v → ∃ k t, ns[i]? = some k ∧ v = .int k t := fun i v hv => by
        have hi : i < ns.length := by rw [← hsz]; exact (Array.getElem?_eq_some_iff.mp hv).1
        obtain ⟨t, e⟩ := PyProof.Rows.IntsAre.int_at hit i v (by rw [Array.getElem?_toList]; exact hv)
        refine ⟨ns[i], t, List.getElem?_eq_getElem hi, ?_⟩
        rw [e, List.getD_eq_getElem?_getD, List.getElem?_eq_getElem hi]
        rfl
      refine set_update_ints ((Walks.list hh3 _ l (by rw [hz]; exact Nat.ne_of_lt (Nat.lt_succ_of_lt hlS)) items).toS) s.heap.objs.size hSf ns hsz hb hval (items.size - 0) 0 _ (by omega) (Nat.zero_le _)
        ⟨⟨_, Heap.get?_push_size _ rfl, rfl, rfl⟩, (hl1.push _)⟩ ⟨0, Nat.le_refl 0, setR_new_at (Heap.get?_push_of_some _ hS)⟩ (fun s' c' hm hc' hS' => ?_)
      obtain ⟨h', gs, dr, tk', os'⟩ := s'
      have eg : gs = s.gens := hm.gens
      have ed : dr = s.drawn := hm.drawn
      have eo : os' = s.os := hm.os
      subst eg ed eo
      show wpAny _ _ _ _ _ _
      refine wpAny_pure ?_
      show wpAny _ _ (ret Value.none) _ _ _
      rw [hsz] at hc'
      refine wpAny_pure ⟨rfl, h', tk', c', rfl, hS', hc', fun b o e => ?_⟩
      have hb0 : b < s.heap.objs.size := Heap.lt_size e
      refine hm.heap b o ?_ (Heap.get?_push_of_some _ (Heap.get?_push_of_some _ e))
      rw [hz]
      simp only [List.mem_cons, List.not_mem_nil, or_false, not_or]
      exact ⟨Nat.ne_of_lt hb0, Nat.ne_of_lt (Nat.lt_succ_of_lt hb0)⟩
    · match r₂, hr₂ with
      | .error e, hr₂ => exact hr₂
      | .ok (.ret r), hr₂ =>
        obtain ⟨rfl, h', tk, c', rfl, hS', hc', hk⟩ := hr₂
        repeat (any_goals (first | assumption | wp_step))
        exact h _ _ _ hS' hc' hk
end
/-! ### the rules -/
section
variable {X : Cx} {K : PySem.W.Frag} {w : World}
def rSetL (K : PySem.W.Frag) (w : World) : List V → Hp → VK → Prop := fun xs H Q => ∃ (p : Addr) (ns : List Int), xs = [.ref p] ∧ SqL K H p (ns.map V.int) ∧ ns.length ≤ 1000 ∧ ∀ q c, H q = none → c ≤ ns.length → Q (.ref q) (upd H q (SetO w q (fun j => decide (j ∈ ns)) c))
theorem cl_setL (e : X.K = K) (ew : X.w = w) (hc : X.calm = true) : CallR X (.type "set") (rSetL K w) := by
  subst e
  subst ew
  intro pins s σ H xs us Q I r h
  obtain ⟨l, ns, rfl, hl, hn, q⟩ := h
  rw [Vals.ref1 r]
  obtain ⟨its, rv, pl, hz⟩ := I.list hl
  have hf : H s.heap.objs.size = none := I.hok.fresh (Nat.le_refl _)
  refine set_of_list (P := X.prog) (w := X.w) ns (I.ok.hd hc) pl.isList (by simpa using rv.ints) (by unfold scanBound; omega) fun h' tk c R hcn k => ?_
  exact ⟨.ref s.heap.objs.size, upd H s.heap.objs.size (SetO X.w s.heap.objs.size _ c), I.laid (t' := tk) k (Nat.le_refl _) (setO_new R), rfl, q _ c hf hcn⟩
theorem cl_sortedSet (ew : X.w = w) (hc : X.calm = true) : CallR X (.builtin "sorted") (rSortedSet w) := by
  subst ew
  exact cr_sortedSet hc
end
def rLenSet (w : World) : List V → Hp → VK → Prop := fun xs H Q => ∃ (a : Addr) (S : Int → Bool) (n : Nat), xs = [.ref a] ∧ H a = some (SetO w a S n) ∧ n ≤ 1000 ∧ ∀ ks : List Int, ks.Nodup → (∀ k, k ∈ ks ↔ S k = true) → ks.length = n → Q (.int (n : Nat)) H
theorem cl_lenSet {X : Cx} {w : World} (ew : X.w = w) : CallR X (.builtin "len") (rLenSet w) := by
  subst ew
  intro pins s σ H xs us Q I r h
  obtain ⟨a, S, n, rfl, hH, hn, q⟩ := h
  obtain ⟨u, rfl, rx⟩ := vals1 r
  cases rx
  obtain ⟨o, es, ep, t, ho, hex, hd, g, nd, hm, hb, hf, hsz, hr, hl⟩ := setO_get I hH
  exact call_len_set ho hex hd hf (by omega) ⟨.int n, H, I.tok _, ⟨_, by rw [hsz]⟩, q _ nd (fun k => (hm k).symm) (by rw [List.length_map, Array.length_toList]; exact hsz)⟩
section
variable {K : PySem.W.Frag} {w : World} {S H : Hp} {O : List (Addr × HO)} {Q : VK} {x y v : V}
/-- set(xs): a set of the members, ours -/
theorem x_setL {ns : List Int} (W : Wd K S H O) (h : Dp K S x (.list (ns.map PyData.int))) (hl : ns.length ≤ 1000) (k : ∀ p H' c, c ≤ ns.length → Wd K S H' ((p, SetO w p (fun j => decide (j ∈ ns)) c) :: O) → Q (.ref p) H') : rSetL K w [x] H Q := by
  obtain ⟨a, us, rfl, hq, ha⟩ := dp_lst_ex h
  rw [ints_of ha] at hq
  exact ⟨a, ns, rfl, W.lst hq, hl, fun q c hq hc => k q _ c hc (W.alloc hq)⟩
/-- len(s) -/
theorem x_lenSet {ns : List Int} {p : Addr} {c : Nat} (W : Wd K S H ((p, SetO w p (fun j => decide (j ∈ ns)) c) :: O)) (hc : c ≤ 1000) (k : ∀ ks : List Int, ks.Nodup → (∀ j, j ∈ ks ↔ j ∈ ns) → ks.length = c → Q (.int (c : Nat)) H) : rLenSet w [.ref p] H Q :=
  ⟨p, _, c, rfl, W.at 0 rfl, hc, fun ks h1 h2 h3 => k ks h1 (fun j => (h2 j).trans decide_eq_true_iff) h3⟩
/-- sorted(s): what was sought, rising; the set is let go -/
theorem x_sortedSet {ns : List Int} {p : Addr} {c : Nat} (W : Wd K S H ((p, SetO w p (fun j => decide (j ∈ ns)) c) :: O)) (hc : c < 64)
    (k : ∀ S' H' v (zs : List Int), Wd K S' H' O → Same S S' → Dp K S' v (.list (zs.map PyData.int)) → zs.Pairwise (· < ·) → (∀ j, j ∈ zs ↔ j ∈ ns) → Q v H') : rSortedSet w [.ref p] H Q := by
  refine ⟨p, _, c, rfl, W.at 0 rfl, hc, fun zs q h1 h2 h3 hq => ?_⟩
  have W1 := W.give 0 rfl
  exact k _ _ _ zs (W1.new hq (o := .lst (zs.map V.int))) ((same_new (W.atS 0 rfl)).trans (same_new (W1.frS hq))) (.lst (.of upd_same) (dpAll_ints zs)) h1 fun j => (h2 j).trans decide_eq_true_iff
end
end SB
/-! dicts with int keys; pop(0), min, sorted of a dict. -/
namespace SB
open PySem PySem.Spec PyProof.Rows L2
/-! ### look, plain -/
def look {β : Type} (kvs : List (Int × β)) (k : Int) : Option β := (kvs.find? fun p => decide (p.1 = k)).map (·.2)
section
variable {β : Type}
theorem look_cons {p : Int × β} {r : List (Int × β)} {k : Int} : look (p :: r) k = if p.1 = k then some p.2 else look r k := by
  unfold look
  rw [List.find?_cons]
  by_cases h : p.1 = k
  · rw [if_pos h, decide_eq_true h]
    rfl
  · rw [if_neg h, decide_eq_false h]
theorem look_app {kvs : List (Int × β)} {c k : Int} {b : β} : look (kvs ++ [(c, b)]) k = match look kvs k with | some x => some x | none => if c = k then some b else none := by
  induction kvs with
  | nil => rw [List.nil_append, look_cons]; rfl
  | cons p r ih =>
    rw [List.cons_append, look_cons, look_cons]
    by_cases h : p.1 = k
    · rw [if_pos h, if_pos h]
    · rw [if_neg h, if_neg h, ih]
theorem look_app_old {kvs : List (Int × β)} {c k : Int} {b x : β} (h : look kvs k = some x) : look (kvs ++ [(c, b)]) k = some x := by rw [look_app, h]
theorem look_app_new {kvs : List (Int × β)} {c : Int} {b : β} (h : look kvs c = none) : look (kvs ++ [(c, b)]) c = some b := by rw [look_app, h]; exact if_pos rfl
theorem look_app_ne {kvs : List (Int × β)} {c k : Int} {b : β} (h : c ≠ k) : look (kvs ++ [(c, b)]) k = look kvs k := by
  rw [look_app, if_neg h]
  cases look kvs k <;> rfl
theorem look_none {kvs : List (Int × β)} {k : Int} : look kvs k = none ↔ k ∉ kvs.map (·.1) := by
  induction kvs with
  | nil => simp [look]
  | cons p r ih =>
    rw [look_cons, List.map_cons, List.mem_cons, not_or]
    by_cases h : p.1 = k
    · rw [if_pos h]
      simp [h.symm]
    · rw [if_neg h, ih]
      simp [Ne.symm h]
theorem look_isSome {kvs : List (Int × β)} {k : Int} : (look kvs k).isSome = true ↔ k ∈ kvs.map (·.1) := by
  have := look_none (kvs := kvs) (k := k)
  cases e : look kvs k with
  | none => rw [e] at this; simp at this ⊢; exact this
  | some x => rw [e] at this; simp at this ⊢; exact this
end
/-! ### a dict of data -/
def mkD (kvs : List (Int × V)) : HO := .dK (kvs.map fun p => (Sum.inl p.1, p.2))
def DKV (K : PySem.W.Frag) (S : Hp) {β : Type} (e : β → PyData) : List (Int × V) → List (Int × β) → Prop
  | [], [] => True
  | p :: r, q :: r' => p.1 = q.1 ∧ Dp K S p.2 (e q.2) ∧ DKV K S e r r'
  | _, _ => False
section
variable {K : PySem.W.Frag} {S S' H : Hp} {O : List (Addr × HO)} {Q : VK} {x y v : V} {β : Type} {e : β → PyData}
theorem dkv_mono (hs : Same S S') : ∀ {kvs : List (Int × V)} {xs : List (Int × β)}, DKV K S e kvs xs → DKV K S' e kvs xs
  | [], [], _ => trivial
  | _ :: _, _ :: _, h => ⟨h.1, dp_mono hs h.2.1, dkv_mono hs h.2.2⟩
  | [], _ :: _, h => h.elim
  | _ :: _, [], h => h.elim
theorem dkv_app {c : Int} {b : β} (hd : Dp K S v (e b)) : ∀ {kvs : List (Int × V)} {xs : List (Int × β)}, DKV K S e kvs xs → DKV K S e (kvs ++ [(c, v)]) (xs ++ [(c, b)])
  | [], [], _ => ⟨rfl, hd, trivial⟩
  | _ :: _, _ :: _, h => ⟨h.1, h.2.1, dkv_app hd h.2.2⟩
  | [], _ :: _, h => h.elim
  | _ :: _, [], h => h.elim
theorem dkv_len : ∀ {kvs : List (Int × V)} {xs : List (Int × β)}, DKV K S e kvs xs → kvs.length = xs.length
  | [], [], _ => rfl
  | _ :: _, _ :: _, h => by rw [List.length_cons, List.length_cons, dkv_len h.2.2]
  | [], _ :: _, h => h.elim
  | _ :: _, [], h => h.elim
theorem dkv_keys : ∀ {kvs : List (Int × V)} {xs : List (Int × β)}, DKV K S e kvs xs → kvs.map (·.1) = xs.map (·.1)
  | [], [], _ => rfl
  | _ :: _, _ :: _, h => by rw [List.map_cons, List.map_cons, dkv_keys h.2.2, h.1]
  | [], _ :: _, h => h.elim
  | _ :: _, [], h => h.elim
theorem dkv_look {k : Int} : ∀ {kvs : List (Int × V)} {xs : List (Int × β)}, DKV K S e kvs xs → (look xs k = none ∧ look kvs k = none) ∨ ∃ b v, look xs k = some b ∧ look kvs k = some v ∧ Dp K S v (e b)
  | [], [], _ => .inl ⟨rfl, rfl⟩
  | p :: r, q :: r', h => by
    rw [look_cons, look_cons, ← h.1]
    by_cases hk : p.1 = k
    · rw [if_pos hk, if_pos hk]
      exact .inr ⟨_, _, rfl, rfl, h.2.1⟩
    · rw [if_neg hk, if_neg hk]
      exact dkv_look h.2.2
  | [], _ :: _, h => h.elim
  | _ :: _, [], h => h.elim
theorem valV_mkD {k : Int} : ∀ {kvs : List (Int × V)}, valV (kvs.map fun p => ((Sum.inl p.1 : Key), p.2)) (.inl k) = look kvs k
  | [] => rfl
  | p :: r => by
    rw [List.map_cons, look_cons]
    by_cases hk : p.1 = k
    · rw [if_pos hk, valV_pos (by rw [hk])]
    · rw [if_neg hk, valV_neg (by simpa using hk), valV_mkD]
theorem putK_mkD {k : Int} {kvs : List (Int × V)} (h : look kvs k = none) : putK (kvs.map fun p => ((Sum.inl p.1 : Key), p.2)) (.inl k) v = (kvs ++ [(k, v)]).map fun p => ((Sum.inl p.1 : Key), p.2) := by
  unfold putK
  rw [valV_any, valV_mkD, h]
  simp
/-! ### readings with names -/
def DinR (Q : VK) (y x : V) (H : Hp) : Prop := ∃ a o, x = .ref a ∧ DGet H a y o ∧ Q (.bl o.isSome) H
def DninR (Q : VK) (y x : V) (H : Hp) : Prop := ∃ a o, x = .ref a ∧ DGet H a y o ∧ Q (.bl (!o.isSome)) H
def DgetR (Q : VK) (y x : V) (H : Hp) : Prop := ∃ a v, x = .ref a ∧ DGet H a y (some v) ∧ Q v H
def DputR (N : Hp → Prop) (v y x : V) (H : Hp) : Prop := ∃ a H4, x = .ref a ∧ DPut H a y v H4 ∧ N H4
def DispR (Q : VK) (p : Addr) (x y : V) (H2 : Hp) : Prop := H2 p = some (.dK []) ∧ ∃ kvs : List (Key × V), [(x, y)] = kvs.map (fun kv => (kV kv.1, kv.2)) ∧ kvs.length ≤ 15 ∧ Q (.ref p) (upd H2 p (.dK (mergeK [] kvs)))
variable {td ty tv tk : TE} {σ : L2.St} {nx bk ct : L2.St → Hp → Prop} {rt : VK}
theorem x_din (h : ty σ H fun y H1 => td σ H1 fun x H2 => DinR Q y x H2) : tDIn ty td σ H Q := h
theorem x_dnin (h : ty σ H fun y H1 => td σ H1 fun x H2 => DninR Q y x H2) : tDNotIn ty td σ H Q := h
theorem x_dget (h : td σ H fun x H1 => ty σ H1 fun y H2 => DgetR Q y x H2) : tDGet td ty σ H Q := h
theorem x_dput (h : tv σ H fun v H1 => td σ H1 fun x H2 => ty σ H2 fun y H3 => DputR (fun H4 => nx σ H4) v y x H3) : sDPut td ty tv ⟨nx, rt, bk, ct⟩ σ H := h
theorem x_disp (W : Wd K S H O) (h : ∀ p H', Wd K S H' ((p, .dK []) :: O) → tk σ H' fun x H1 => tv σ H1 fun y H2 => DispR Q p x y H2) : tDisp [(tk, tv)] σ H Q := fun p hp => h p _ (W.alloc hp)
theorem x_disp1 {p : Addr} {i : Int} (W : Wd K S H ((p, .dK []) :: O)) (k : ∀ H', Wd K S H' ((p, mkD [(i, v)]) :: O) → Q (.ref p) H') : DispR Q p (.int i) v H :=
  ⟨W.at 0 rfl, [(.inl i, v)], rfl, by simp, k _ (W.put 0 rfl)⟩
theorem dget_rd {p : Addr} {kvs : List (Int × V)} {i : Int} (h : H p = some (mkD kvs)) : DGet H p (.int i) (look kvs i) := .inl ⟨_, .inl i, .inl h, rfl, valV_mkD.symm⟩
/-- of one of ours, or of one that stays -/
theorem x_dinH {p : Addr} {kvs : List (Int × V)} {xs : List (Int × β)} {i : Int} (h : H p = some (mkD kvs)) (r : DKV K S e kvs xs) (q : Q (.bl (look xs i).isSome) H) : DinR Q (.int i) (.ref p) H := by
  refine ⟨p, _, rfl, dget_rd h, ?_⟩
  rcases dkv_look (k := i) r with ⟨e1, e2⟩ | ⟨b, v, e1, e2, _⟩ <;> rw [e2] <;> rw [e1] at q <;> exact q
theorem x_dninH {p : Addr} {kvs : List (Int × V)} {xs : List (Int × β)} {i : Int} (h : H p = some (mkD kvs)) (r : DKV K S e kvs xs) (q : Q (.bl (!(look xs i).isSome)) H) : DninR Q (.int i) (.ref p) H := by
  refine ⟨p, _, rfl, dget_rd h, ?_⟩
  rcases dkv_look (k := i) r with ⟨e1, e2⟩ | ⟨b, v, e1, e2, _⟩ <;> rw [e2] <;> rw [e1] at q <;> exact q
theorem x_dgetH {p : Addr} {kvs : List (Int × V)} {xs : List (Int × β)} {i : Int} {b : β} (h : H p = some (mkD kvs)) (r : DKV K S e kvs xs) (hb : look xs i = some b) (q : Kn K S (e b) fun u => Q u H) : DgetR Q (.int i) (.ref p) H := by
  rcases dkv_look (k := i) r with ⟨e1, e2⟩ | ⟨b', v, e1, e2, hd⟩
  · rw [e1] at hb; cases hb
  · rw [e1] at hb
    cases hb
    exact ⟨p, v, rfl, by rw [← e2]; exact dget_rd h, q.of v hd⟩
theorem x_dputO {p : Addr} {kvs : List (Int × V)} {i : Int} {N : Hp → Prop} (n : Nat) (W : Wd K S H O) (h : O[n]? = some (p, mkD kvs)) (hn : look kvs i = none) (hl : kvs.length ≤ 1000000) (k : ∀ H', Wd K S H' (O.set n (p, mkD (kvs ++ [(i, v)]))) → N H') : DputR N v (.int i) (.ref p) H := by
  refine ⟨p, _, rfl, .inl ⟨_, .inl i, W.at n h, rfl, szl (by rw [List.length_map]; exact hl), rfl⟩, ?_⟩
  rw [putK_mkD hn]
  exact k _ (W.put n h)
theorem dkv_none {k : Int} {kvs : List (Int × V)} {xs : List (Int × β)} (r : DKV K S e kvs xs) (h : look xs k = none) : look kvs k = none := by
  rcases dkv_look (k := k) r with ⟨_, e2⟩ | ⟨b, v, e1, _⟩
  · exact e2
  · rw [e1] at h; cases h
/-- a dict of ours stays from now on -/
theorem x_giveD {G : Prop} {p : Addr} {o : HO} (W : Wd K S H ((p, o) :: O)) (k : ∀ S', Wd K S' H O → Same S S' → S' p = some o → G) : G :=
  k _ (W.give 0 rfl) (same_new (W.atS 0 rfl)) upd_same
/-! ### sorted(d), pop(0), min -/
def rSortD : List V → Hp → VK → Prop := fun xs H Q => ∃ (a : Addr) (kvs : List (Key × V)) (ks : List Int), xs = [.ref a] ∧ Rd H a (.dK kvs) ∧ kvs.map (·.1) = ks.map Sum.inl ∧ ks.length < 64 ∧
    ∀ (ys : List Int) (p : Addr), ys.Perm ks → ys.Pairwise (· ≤ ·) → H p = none → Q (.ref p) (upd H p (.lst (ys.map V.int)))
theorem cl_sortedD {X : Cx} (hc : X.calm = true) : CallR X (.builtin "sorted") rSortD := call_sortedDI hc
theorem x_sortedD {p : Addr} {kvs : List (Int × V)} {xs : List (Int × β)} (W : Wd K S H O) (h : H p = some (mkD kvs)) (r : DKV K S e kvs xs) (hl : xs.length < 64)
    (k : ∀ S' H' v (ys : List Int), Wd K S' H' O → Same S S' → Dp K S' v (.list (ys.map PyData.int)) → ys.Perm (xs.map (·.1)) → ys.Pairwise (· ≤ ·) → Q v H') : rSortD [.ref p] H Q := by
  refine ⟨p, _, xs.map (·.1), rfl, .inl h, ?_, by rw [List.length_map]; exact hl, fun ys q h1 h2 hq => ?_⟩
  · rw [← dkv_keys r, List.map_map, List.map_map]
    rfl
  · exact k _ _ _ ys (W.new hq (o := .lst (ys.map V.int))) (same_new (W.frS hq)) (.lst (.of upd_same) (dpAll_ints ys)) h1 h2
theorem x_pop0 {p : Addr} {u : V} {vs : List V} (n : Nat) (W : Wd K S H O) (h : O[n]? = some (p, .lst (u :: vs))) (k : ∀ H', Wd K S H' (O.set n (p, .lst vs)) → Q u H') : rPopAt (.ref p) [.int 0] H Q :=
  ⟨p, u :: vs, 0, 0, u, rfl, rfl, W.at n h, by decide, by decide, by
    unfold seqIndex?
    simp, rfl, k _ (W.put n h)⟩
theorem x_min {ns : List Int} (W : Wd K S H O) (h : Dp K S x (.list (ns.map PyData.int))) (hl : 0 < ns.length) (q : ∀ m, m ∈ ns → (∀ y ∈ ns, m ≤ y) → Q (.int m) H) : rMin K [x] H Q := by
  obtain ⟨a, us, rfl, hq, ha⟩ := dp_lst_ex h
  rw [ints_of ha] at hq
  exact ⟨a, ns, rfl, W.lst hq, hl, q⟩
end
end SB
namespace SB
open PySem PySem.Spec PyProof.Rows L2
theorem pe_globI {X : Cx} {x : Str} {n : Int} {t : Tok} {pos : Pos} (hg : Gl X x) (hm : X.mg x = some (.int n t)) (hd : (x == ("__debug__" : Str)) = false := by decide) : PE X (.Name x pos) (tC (.int n)) := pe_glob (v := .int n) hg hm ⟨t, rfl⟩ hd
end SB
namespace SB
open PySem PySem.Spec PyProof.Rows L2
section
variable {K : PySem.W.Frag} {S H : Hp} {O : List (Addr × HO)} {Q : VK} {a b c : Addr × HO}
theorem x_ixM0 {p : Addr} {xs : List Int} {i : Int} {n : Nat} (W : Wd K S H O) (h : O[n]? = some (p, .lst (xs.map V.int))) (h0 : 0 ≤ i) (h1 : i < xs.length) (k : Q (.int (nth xs i)) H) : rIx K (.ref p) (.int i) H Q := x_ixM n W h h0 h1 k
theorem x_ixM1 {p : Addr} {xs : List Int} {i : Int} {n : Nat} (W : Wd K S H (a :: O)) (h : O[n]? = some (p, .lst (xs.map V.int))) (h0 : 0 ≤ i) (h1 : i < xs.length) (k : Q (.int (nth xs i)) H) : rIx K (.ref p) (.int i) H Q := x_ixM (n + 1) W h h0 h1 k
theorem x_ixM2 {p : Addr} {xs : List Int} {i : Int} {n : Nat} (W : Wd K S H (a :: b :: O)) (h : O[n]? = some (p, .lst (xs.map V.int))) (h0 : 0 ≤ i) (h1 : i < xs.length) (k : Q (.int (nth xs i)) H) : rIx K (.ref p) (.int i) H Q := x_ixM (n + 2) W h h0 h1 k
end
end SB
/-! instances that are ours; insert. -/
namespace SB
open PySem PySem.Spec PyProof.Rows L2
section
variable {K : PySem.W.Frag} {S H : Hp} {O : List (Addr × HO)} {σ : L2.St} {Q : VK} {E : XK} {x y v : V} {C a dx : Addr} {sp : Sp} {vs : List V} {fs : List (Str × V)} {t : TA}
def MakR (C : Addr) (sp : Sp) (Q : VK) (E : XK) (vs : List V) (H1 : Hp) : Prop := ∀ x dx, H1 x = none → H1 dx = none → dx ≠ x →
  sp (.ref x :: vs) (upd (upd H1 dx (.own x)) x (.ins C dx [])) (fun v H2 => v = .non ∧ Q (.ref x) H2) E
theorem x_make (h : t σ H fun vs H1 => MakR C sp Q E vs H1) : tMake C sp [] E t σ H Q := by
  unfold tMake
  simp only [List.append_nil]
  exact h
theorem x_mak (W : Wd K S H O) (k : ∀ p dx H', Wd K S H' ((p, .ins C dx []) :: (dx, .own p) :: O) → sp (.ref p :: vs) H' (fun v H2 => v = .non ∧ Q (.ref p) H2) E) : MakR C sp Q E vs H := fun p dx h1 h2 hne => by
  refine k p dx _ ((W.alloc h2 (o := .own p)).alloc ?_)
  rw [upd_ne (Ne.symm hne)]
  exact h1
theorem x_fldO {f : Str} {N : Hp → Prop} (n : Nat) (W : Wd K S H O) (h : O[n]? = some (a, .ins C dx fs)) (c : Cls K C) (na : NoAttr K C f) (hl : fs.length < 1000) (k : ∀ H', Wd K S H' (O.set n (a, .ins C dx (putF f y fs))) → N H') : FldS K f y N (.ref a) H :=
  ⟨a, C, dx, fs, rfl, W.at n h, c, na, hl, k _ (W.put n h)⟩
theorem x_fldrO {f : Str} (n : Nat) (W : Wd K S H O) (h : O[n]? = some (a, .ins C dx fs)) (c : Cls K C) (na : NoAttr K C f) (hv : fs.lookup f = some v) (q : Q v H) : FldR K f Q (.ref a) H :=
  ⟨a, C, dx, fs, v, rfl, W.at n h, c, na, hv, q⟩
theorem x_mthO {m : Str} {P : V → Hp → Prop} (n : Nat) (W : Wd K S H O) (h : O[n]? = some (a, .ins C dx fs)) (hm : fs.lookup m = none) (q : P (.ref a) H) : MthR C m P (.ref a) H :=
  ⟨a, dx, fs, rfl, W.at n h, hm, q⟩
end
theorem putF_len (f : Str) (v : V) : ∀ fs : List (Str × V), (putF f v fs).length ≤ fs.length + 1
  | [] => Nat.le_refl _
  | (g, x) :: r => by
    unfold putF
    split
    · rw [List.length_cons, List.length_cons]; omega
    · have := putF_len f v r
      rw [List.length_cons, List.length_cons]; omega
theorem putF_at {f g : Str} {v x : V} {r : List (Str × V)} (h : g ≠ f) : putF f v ((g, x) :: r) = (g, x) :: putF f v r := by
  show (if g = f then (g, v) :: r else (g, x) :: putF f v r) = _
  rw [if_neg h]
def rInsert : V → List V → Hp → VK → Prop := fun x vs H Q => ∃ (l : Addr) (xs : List V) (i : Int) (y : V), x = .ref l ∧ vs = [.int i, y] ∧ H l = some (.lst xs) ∧ xs.length < sizeLine ∧ 0 ≤ i ∧ i < 2 ^ 63 ∧
    Q .non (upd H l (.lst (xs.take i.toNat ++ [y] ++ xs.drop i.toNat)))
theorem mt_ins {X : Cx} : MtR X "list.insert" rInsert := mt_insert
theorem x_ins0 {K : PySem.W.Frag} {S H : Hp} {O : List (Addr × HO)} {Q : VK} {p : Addr} {vs : List V} {y : V} (n : Nat) (W : Wd K S H O) (h : O[n]? = some (p, .lst vs)) (hl : vs.length ≤ 1000000) (k : ∀ H', Wd K S H' (O.set n (p, .lst (y :: vs))) → Q .non H') : rInsert (.ref p) [.int 0, y] H Q :=
  ⟨p, vs, 0, y, rfl, rfl, W.at n h, szl hl, by decide, by decide, k _ (W.put n h)⟩
end SB
namespace SB
open PySem PySem.Spec PyProof.Rows L2
/-! ### None or an int -/
abbrev oV : Option Int → V
  | none => .non
  | some i => .int i
abbrev oD : Option Int → PyData
  | none => .none
  | some i => .int i
theorem oV_some {i : Int} : oV (some i) = .int i := rfl
theorem oV_none : oV none = .non := rfl
theorem oD_some {i : Int} : oD (some i) = .int i := rfl
theorem oD_none : oD none = .none := rfl
section
variable {K : PySem.W.Frag} {S H : Hp} {O : List (Addr × HO)} {Q : VK} {x y v : V} {A B : Prop}
theorem dp_o (o : Option Int) : Dp K S (oV o) (oD o) := by
  cases o
  · exact .non
  · exact .int _
theorem dpAll_o : ∀ os : List (Option Int), DpAll K S (os.map oV) (os.map oD)
  | [] => .nil
  | o :: os => .cons (dp_o o) (dpAll_o os)
theorem dp_o_eq {o : Option Int} (h : Dp K S v (oD o)) : v = oV o := by
  cases o
  · exact dp_non_eq h
  · exact dp_int_eq h
theorem kn_o {o : Option Int} {P : V → Prop} (h : P (oV o)) : Kn K S (oD o) P := by
  cases o
  · exact h
  · exact h
theorem x_iteNN {o : Option Int} (h1 : ∀ y, o = some y → A) (h2 : o = none → B) : if (!decide (oV o = V.non)) = true then A else B := by
  cases o with
  | none => exact x_no (by simp) (h2 rfl)
  | some y => exact x_sure (by simp) (h1 y rfl)
theorem x_iteIN {o : Option Int} (h1 : o = none → A) (h2 : ∀ y, o = some y → B) : if decide (oV o = V.non) = true then A else B := by
  cases o with
  | none => exact x_sure (by simp) (h1 rfl)
  | some y => exact x_no (by simp) (h2 y rfl)
theorem dec_isN {o : Option Int} : decide (oV o = V.non) = decide (o = none) := by cases o <;> simp
/-- one of ours -/
theorem x_ixOO {p : Addr} {xs : List (Option Int)} {i : Int} (n : Nat) (W : Wd K S H O) (h : O[n]? = some (p, .lst (xs.map oV))) (h0 : 0 ≤ i) (h1 : i < xs.length) (k : Q (oV (nth xs i)) H) : rIx K (.ref p) (.int i) H Q :=
  x_ixO n W h (atI_map h0 h1) k
theorem x_ixOS {p : Addr} {xs : List (Option Int)} {i y : Int} (n : Nat) (W : Wd K S H O) (h : O[n]? = some (p, .lst (xs.map oV))) (h0 : 0 ≤ i) (h1 : i < xs.length) (e : nth xs i = some y) (k : Q (.int y) H) : rIx K (.ref p) (.int i) H Q :=
  x_ixOO n W h h0 h1 (by rw [e]; exact k)
theorem x_setOO {p : Addr} {xs : List (Option Int)} {i b : Int} {Q : Hp → Prop} (n : Nat) (W : Wd K S H O) (h : O[n]? = some (p, .lst (xs.map oV))) (h0 : 0 ≤ i) (h1 : i < xs.length)
    (k : ∀ H', Wd K S H' (O.set n (p, .lst ((xs.set i.toNat (some b)).map oV))) → Q H') : L2.rSetL (.ref p) (.int i) (.int b) H Q :=
  x_setO n W h (ixN_of h0 (by rw [List.length_map]; exact h1)) fun H' W' => k H' (by rw [List.map_set]; exact W')
/-- one that stays -/
theorem x_ixOD {xs : List (Option Int)} {i : Int} (W : Wd K S H O) (h : Dp K S x (.list (xs.map oD))) (h0 : 0 ≤ i) (h1 : i < xs.length) (k : Q (oV (nth xs i)) H) : rIx K x (.int i) H Q :=
  x_ixL W h (atI_map (f := oD) h0 h1) (kn_o k)
theorem x_ixDS {xs : List (Option Int)} {i y : Int} (W : Wd K S H O) (h : Dp K S x (.list (xs.map oD))) (h0 : 0 ≤ i) (h1 : i < xs.length) (e : nth xs i = some y) (k : Q (.int y) H) : rIx K x (.int i) H Q :=
  x_ixOD W h h0 h1 (by rw [e]; exact k)
theorem x_giveO {G : Prop} {p : Addr} {os : List (Option Int)} (W : Wd K S H ((p, .lst (os.map oV)) :: O)) (k : ∀ S', Wd K S' H O → Same S S' → Dp K S' (.ref p) (.list (os.map oD)) → G) : G :=
  x_give W (dpAll_o os) k
/-- one of ours, wherever it stands, stays from now on -/
theorem x_giveN {G : Prop} {p : Addr} {vs : List V} {ds : List PyData} (n : Nat) (W : Wd K S H O) (h : O[n]? = some (p, .lst vs)) (hd : DpAll K S vs ds) (k : ∀ S', Wd K S' H (O.eraseIdx n) → Same S S' → Dp K S' (.ref p) (.list ds) → G) : G :=
  k _ (W.give n h) (same_new (W.atS n h)) (dp_give (W.atS n h) hd)
end
end SB
namespace SB
open PySem PySem.Spec PyProof.Rows L2
theorem x_cutT {tt : TT} {σ : L2.St} {H : Hp} {QT : Bool → Hp → Prop} (c : Bool) (h : ∀ Q' : Bool → Hp → Prop, Q' c H → tt σ H Q') (k : QT c H) : tt σ H QT := h QT k
end SB
namespace SB
open PySem PySem.Spec PyProof.Rows L2
theorem x_eqS {a b : Str} {Q : VK} {H : Hp} (q : Q (.bl (decide (a = b))) H) : rEq (.str a) (.str b) H Q := x_eqV rfl (by simp) q
theorem x_neS {a b : Str} {Q : VK} {H : Hp} (q : Q (.bl (!decide (a = b))) H) : rNe (.str a) (.str b) H Q := x_neV rfl (by simp) q
theorem shp_o {n : Nat} (o : Option Int) : Shp n (oD o) := by
  cases o
  · exact shp_non
  · exact shp_int _
/-- the item before the one at k, the last one before the first -/
theorem atI_bef {α β : Type} [Inhabited α] {xs : List α} {f : α → β} {k : Nat} (h : k < xs.length) : atI (xs.map f) ((k : Int) - 1) = some (f (nth xs (((if k = 0 then xs.length - 1 else k - 1 : Nat)) : Int))) := by
  by_cases e : k = 0
  · subst e
    rw [if_pos rfl]
    have e2 : atI (xs.map f) (((0 : Nat) : Int) - 1) = (xs.map f)[xs.length - 1]? := by
      unfold atI
      have : ixN (xs.map f).length (((0 : Nat) : Int) - 1) = some (xs.length - 1) := by
        rw [List.length_map]
        unfold ixN
        rw [if_neg (by omega), if_pos (by omega)]
        congr 1
        omega
      rw [this]
      rfl
    rw [e2, List.getElem?_map, List.getElem?_eq_getElem (by omega), Option.map_some]
    rw [nth_nat (List.getElem?_eq_getElem (show xs.length - 1 < xs.length by omega))]
  · rw [if_neg e, show ((k : Int) - 1) = ((k - 1 : Nat) : Int) by omega]
    exact atI_map (by omega) (by omega)
end SB
namespace SB
open PySem PySem.Spec PyProof.Rows L2
section
variable {A B : Prop} {i : Int} {a : Addr} {b : Bool} {z : Str}
theorem x_dNN (h : A) : if decide (V.non = V.non) = true then A else B := x_sure (by simp) h
theorem x_dNI (h : B) : if decide (V.int i = V.non) = true then A else B := x_no (by simp) h
theorem x_dNR (h : B) : if decide (V.ref a = V.non) = true then A else B := x_no (by simp) h
theorem x_nNN (h : B) : if (!decide (V.non = V.non)) = true then A else B := x_no (by simp) h
theorem x_nNI (h : A) : if (!decide (V.int i = V.non)) = true then A else B := x_sure (by simp) h
theorem x_nNR (h : A) : if (!decide (V.ref a = V.non)) = true then A else B := x_sure (by simp) h
end
end SB
namespace SB
open PySem PySem.Spec PyProof.Rows L2
/-! ### slices -/
section
variable {K : PySem.W.Frag} {S H : Hp} {O : List (Addr × HO)} {σ : L2.St} {Q : VK} {x y v : V} {te : TE} {tl th : TO}
theorem x_sl {r : V → Option Int → Option Int → Hp → VK → Prop} (h : te σ H fun x H1 => tl σ H1 fun l H2 => th σ H2 fun u H3 => r x l u H3 Q) : tSl r te tl th σ H Q := h
theorem x_poN {R : Option Int → Hp → Prop} (h : R none H) : tNoPart σ H R := h
theorem x_poS {R : Option Int → Hp → Prop} (h : te σ H fun x H1 => ∃ i, x = .int i ∧ R (some i) H1) : tPart te σ H R := h
theorem x_poI {R : Int → Prop} {i : Int} (h : R i) : ∃ j, V.int i = .int j ∧ R j := ⟨i, rfl, h⟩
def cutD {α : Type} (xs : List α) (lo hi : Option Int) : List α := (xs.drop (HT.sIx xs.length 0 lo)).take (HT.sIx xs.length xs.length hi - HT.sIx xs.length 0 lo)
theorem dpAll_cut {vs : List V} {ds : List PyData} (lo hi : Option Int) (h : DpAll K S vs ds) : DpAll K S (cutV vs lo hi) (cutD ds lo hi) := by
  unfold cutV cutD
  rw [dpAll_len h]
  exact dpAll_take _ (dpAll_drop _ h)
theorem x_slL {ds : List PyData} {lo hi : Option Int} (W : Wd K S H O) (h : Dp K S x (.list ds)) (k : ∀ S' H' v, Wd K S' H' O → Same S S' → Dp K S' v (.list (cutD ds lo hi)) → Q v H') : rSlL K x lo hi H Q := by
  obtain ⟨a, us, rfl, hq, ha⟩ := dp_lst_ex h
  exact ⟨a, us, rfl, W.lst hq, x_lst' W (dpAll_cut lo hi ha) k⟩
theorem x_slT {ds : List PyData} {lo hi : Option Int} (W : Wd K S H O) (h : Dp K S x (.tuple ds)) (hn : ¬ (HT.sIx ds.length 0 lo = 0 ∧ HT.sIx ds.length ds.length hi = ds.length)) (k : ∀ S' H' v, Wd K S' H' O → Same S S' → Dp K S' v (.tuple (cutD ds lo hi)) → Q v H') : rSlT K x lo hi H Q := by
  obtain ⟨a, us, rfl, hq, ha⟩ := dp_tup_ex h
  refine ⟨a, us, rfl, W.tup hq, by rw [dpAll_len ha]; exact hn, x_tup' W (dpAll_cut lo hi ha) k⟩
theorem cutD_to {α : Type} {xs : List α} {n : Int} (h : 0 ≤ n) : cutD xs none (some n) = xs.take n.toNat := by
  obtain ⟨m, rfl⟩ : ∃ m : Nat, n = m := ⟨n.toNat, by omega⟩
  unfold cutD
  rw [HT.sIx_none, HT.sIx_nat, List.drop_zero, Nat.sub_zero, Int.toNat_natCast]
  rw [List.take_eq_take_iff]
  omega
theorem cutD_from {α : Type} {xs : List α} {n : Int} (h : 0 ≤ n) : cutD xs (some n) none = xs.drop n.toNat := by
  obtain ⟨m, rfl⟩ : ∃ m : Nat, n = m := ⟨n.toNat, by omega⟩
  unfold cutD
  rw [HT.sIx_none, HT.sIx_nat, Int.toNat_natCast, List.take_of_length_le (by rw [List.length_drop]; omega)]
  by_cases e : m ≤ xs.length
  · rw [Nat.min_eq_left e]
  · rw [Nat.min_eq_right (by omega), List.drop_of_length_le (Nat.le_refl _), List.drop_of_length_le (by omega)]
end
end SB
namespace SB
open PySem PySem.Spec PyProof.Rows L2
/-! ### over enumerate(xs), the target two names -/
section
variable {K : PySem.W.Frag} {S H : Hp} {O : List (Addr × HO)} {σ : L2.St} {Q : VK} {x y v : V} {tt : TT} {g : TG} {te : TE} {ta : TA} {vs : List Nat}
def LcEn (K : PySem.W.Frag) (g : TG) (tt : TT) (te : TE) (vs : List Nat) (σ : L2.St) (Q : VK) (us : List V) (H : Hp) : Prop := ∃ a xs, us = [.ref a] ∧ SqL K H a xs ∧ ∀ R, H R = none → ∃ W : Nat → Nat → Hp → Prop, (∃ m, W 0 m (upd H R (.lst []))) ∧ ∀ i m H, W i m H →
  ((Ite K a).stop i H ∧ Q (.ref R) H) ∨ ((Ite K a).go i H ∧ ∃ Nx : Hp → Prop, (∀ H', Nx H' → ∃ m', m' < m ∧ W (i + 1) m' H') ∧ ∀ x H', (Ite K a).yld i H x H' → g x (wipe σ vs) H' fun σ2 H2 => wipe σ2 vs = wipe σ vs ∧ tt σ2 H2 fun b H3 =>
    if b = true then te σ2 H3 fun y H4 => ∃ acc, H4 R = some (.lst acc) ∧ acc.length < sizeLine ∧ Nx (upd H4 R (.lst (acc ++ [y]))) else Nx H3)
theorem x_lcen (h : ta σ H fun us H1 => LcEn K g tt te vs σ Q us H1) : tLc (iEnum K ta) g tt te vs σ H Q := h
theorem lc_enum {α β : Type} {xs : List α} {f : α → PyData} {p q : Nat} [Inhabited α] (e : β → PyData) (G : Nat → β) (W : Wd K S H O) (hx : Dp K S x (.list (xs.map f))) (hlen : xs.length ≤ 1000000)
    (hs : ∀ (z : Nat) S' H' R acc N, z < xs.length → Wd K S' H' ((R, .lst acc) :: O) → Same S S' → LcE K S' O R acc (some (e (G z))) N → Kn K S' (f (nth xs (z : Int))) fun u =>
      tt (((wipe σ vs).set p (some (.int (z : Int)))).set q (some u)) H' fun b H3 => if b = true then te (((wipe σ vs).set p (some (.int (z : Int)))).set q (some u)) H3 fun y H4 => EndY R N y H4 else N H3)
    (k : ∀ S' H' v, Wd K S' H' O → Same S S' → Dp K S' v (.list (((List.range xs.length).map G).map e)) → Q v H')
    (ew : ∀ u v, wipe (((wipe σ vs).set p (some u)).set q (some v)) vs = wipe σ vs := by intros; rfl) : LcEn K (gTup K 2 (gCons (gName p) (gCons (gName q) gNil))) tt te vs σ Q [x] H := by
  obtain ⟨a, us, rfl, hq1, ha⟩ := dp_lst_ex hx
  have l1 : us.length = xs.length := by rw [dpAll_len ha, List.length_map]
  have hn : (List.range xs.length).length ≤ 1000000 := by rw [List.length_range]; exact hlen
  refine ⟨a, us, rfl, W.lst hq1, fun R hR => ⟨fun i m H' => m = xs.length - i ∧ i ≤ xs.length ∧ LcP K (List.range xs.length) (fun z => some (e (G z))) S O R i H', ⟨xs.length, rfl, Nat.zero_le _, S, [], W.alloc hR, Same.refl S, by simp; exact .nil⟩, ?_⟩⟩
  rintro i m H' ⟨rfl, hi, S', acc, W', hS, hA⟩
  have g1 : SqL K H' a us := W'.lst (hS.seq hq1)
  by_cases hlt : i < xs.length
  · have e1 : us[i]? = some us[i] := List.getElem?_eq_getElem (by omega)
    refine .inr ⟨⟨us, _, g1, e1⟩, LcP K (List.range xs.length) (fun z => some (e (G z))) S O R (i + 1), fun H'' p' => ⟨xs.length - (i + 1), by omega, rfl, hlt, p'⟩, fun v H'' yy => ?_⟩
    obtain ⟨T, u, rfl, hT, rfl, f1⟩ := yy
    have e1 := f1 us g1
    obtain ⟨d1, h1, r1⟩ := dpAll_get' ha e1
    rw [List.getElem?_map, List.getElem?_eq_getElem hlt] at h1
    cases h1
    have cz : (List.range xs.length)[i]? = some i := List.getElem?_range hlt
    refine ⟨T, [.int (i : Int), u], rfl, .inl (.inl upd_same), rfl, .int (i : Int), [u], rfl, u, [], rfl, rfl, ew (.int (i : Int)) u, ?_⟩
    have W2 := W'.new (o := .tup [.int (i : Int), u]) hT
    have hT' := W'.frS hT
    have E2 := lcE_of (S := S) (K := K) (O := O) (R := R) (fr := fun z => some (e (G z))) hn cz (hS.trans (same_new (o := .tup [.int (i : Int), u]) hT')) (dpAll_mono (same_new hT') hA)
    have r2 : Dp K S u (f (nth xs (i : Int))) := by rw [nth_nat (List.getElem?_eq_getElem hlt)]; exact r1
    exact (hs i _ _ R acc _ hlt W2 (hS.trans (same_new hT')) E2).of u (dp_mono (hS.trans (same_new hT')) r2)
  · have e3 : i = xs.length := by omega
    subst e3
    refine .inl ⟨⟨us, g1, by omega⟩, ?_⟩
    rw [List.take_of_length_le (by rw [List.length_range]; exact Nat.le_refl _), fm_map] at hA
    exact k _ H' _ (W'.give 0 rfl) (hS.trans (same_new (W'.atS 0 rfl))) (dp_give (W'.atS 0 rfl) (by rw [List.map_map]; exact hA))
end
end SB
namespace SB
open PySem PySem.Spec PyProof.Rows L2
/-! ### a target of two names -/
section
variable {K : PySem.W.Frag} {S H : Hp} {O : List (Addr × HO)} {σ : L2.St} {u : V} {tt : TT} {te : TE} {vs : List Nat}
theorem x_gtup2 {p q : Nat} {d1 d2 : PyData} {Q : L2.St → Hp → Prop} (W : Wd K S H O) (h : Dp K S u (.tuple [d1, d2])) (k : Kn K S d1 fun a => Kn K S d2 fun b => Q ((σ.set p (some a)).set q (some b)) H) :
    gTup K 2 (gCons (gName p) (gCons (gName q) gNil)) u σ H Q := by
  obtain ⟨a, us, rfl, hq, ha⟩ := dp_tup_ex h
  cases ha with
  | cons h1 h2 =>
    cases h2 with
    | cons h2 h3 =>
      cases h3
      exact ⟨a, _, rfl, W.tup hq, rfl, _, _, rfl, _, _, rfl, rfl, (k.of _ h1).of _ h2⟩
theorem x_lcb2 {p q : Nat} {d1 d2 : PyData} {R : Addr} {N : Hp → Prop} (W : Wd K S H O) (h : Dp K S u (.tuple [d1, d2]))
    (k : Kn K S d1 fun a => Kn K S d2 fun b => tt (((wipe σ vs).set p (some a)).set q (some b)) H fun c H3 => if c = true then te (((wipe σ vs).set p (some a)).set q (some b)) H3 fun y H4 => EndY R N y H4 else N H3)
    (ew : ∀ u v, wipe (((wipe σ vs).set p (some u)).set q (some v)) vs = wipe σ vs := by intros; rfl) : LcB (gTup K 2 (gCons (gName p) (gCons (gName q) gNil))) tt te vs σ R N u H := by
  refine x_gtup2 W h ?_
  refine kn_any fun a ha => kn_any fun b hb => ?_
  exact ⟨ew a b, (k.of a ha).of b hb⟩
end
end SB
/-! an exception that is caught and kept beyond its suite: its class is known where it lies. -/
namespace SB
open PySem PySem.Spec PyProof.Rows L2
/-- what is kept of it -/
def ExK (cls : Value) (dd : Option Addr) (a : Addr) : HO := .ext fun h => ∃ (oe : Obj) (vs : Array Value), h.get? a = some oe ∧ Zc cls dd oe ∧ oe.data = .fields vs
section
variable {X : Cx} {pins : List (Addr × Obj)} {σ : L2.St} {H : Hp} {s : Shared} {a : Addr} {oe : Obj} {vs : Array Value} {cls : Value} {dd : Option Addr}
/-- what was looked after aside is now known -/
theorem adopt (I : Inv X ((a, oe) :: pins) σ H s) (hz : Zc cls dd oe) (hd : oe.data = .fields vs) (h0 : ∀ o, X.s_0.heap.get? a ≠ some o) (hp : ∀ p ∈ X.pn ++ pins, p.1 ≠ a) : Inv X pins σ (upd H a (ExK cls dd a)) s := by
  have mine := I.pin (a, oe) (List.mem_append.mpr (.inr List.mem_cons_self))
  obtain ⟨m1, m2, m3, m4, m5⟩ := mine
  have other : ∀ {b : Addr} {o : HO}, H b = some o → b ≠ a := fun e z => by
    rw [z, m2] at e
    cases e
  have un := I.base
  constructor
  case ok => exact I.ok
  case os => exact I.os
  case bare => exact I.bare
  case loc => exact I.loc
  case cell => exact I.cell
  case len => exact I.len
  case base =>
    constructor
    case keep => exact un.keep
    case slot => exact un.slot
    case there => exact un.there
    case free =>
      intro b o e1 e2 e3
      rw [upd_ne (show b ≠ a from fun z => by subst z; exact h0 o e1)]
      exact un.free b o e1 e2 e3
    case tups =>
      intro b xs e1
      have e2 := un.tups b xs e1
      rw [upd_ne (other e2)]
      exact e2
    case frzs =>
      intro b o u e1
      have e2 := un.frzs b o u e1
      rw [upd_ne (other e2)]
      exact e2
    case tbls =>
      intro b ps e1
      obtain ⟨more, e2⟩ := un.tbls b ps e1
      exact ⟨more, (upd_ne (other e2)).trans e2⟩
  case free =>
    rw [upd_ne (Ne.symm m3)]
    exact I.free
  case freeC =>
    intro x c e1
    obtain ⟨v, oc, g1, g2⟩ := I.cell x c e1
    have hne : c ≠ a := fun z => by
      rw [z] at g1
      rw [m1] at g1
      cases g1
      exact m5 v g2
    rw [upd_ne hne]
    exact I.freeC x c e1
  case pin =>
    intro p hm
    obtain ⟨q1, q2, q3, q4, q5⟩ := I.pin p (by
      rcases List.mem_append.mp hm with h | h
      · exact List.mem_append.mpr (.inl h)
      · exact List.mem_append.mpr (.inr (List.mem_cons_of_mem _ h)))
    exact ⟨q1, by rw [upd_ne (hp p hm)]; exact q2, q3, q4, q5⟩
  case hok =>
    exact HOk.laidN I.hok (fun _ _ e => e) m2 ⟨⟨oe, vs, m1, hz, hd⟩, ⟨oe, m1⟩, fun h1 h2 ⟨o, v, q, r⟩ k => ⟨o, v, k o q, r⟩⟩
end
/-- the clause's wish: the class fits, and behind the suite the exception is known -/
def wK (K : PySem.W.Frag) (c : Value) (i : Nat) (ts : Addr → Value → Option Addr → TS) (D : Ends) : WX := fun cls dd σ H =>
  PySem.W.exmOne K cls c = some true ∧ ∀ a, H a = none → ts a cls dd ⟨fun σ' H' => D.nx (σ'.set i none) (upd H' a (ExK cls dd a)), fun _ _ => False, fun _ _ => False, fun _ _ => False⟩ (σ.set i (some (.ref a))) H
section
variable {X : Cx} {x n : Str} {c : Value} {i : Nat} {body suite : List Stmt} {b₀ : Stmt} {np pos pos' : Pos} {tb : WX → TS} {ts : Addr → Value → Option Addr → TS}
theorem ps_tryK (hstk : X.stack = X.env :: X.outer) (hfrm : X.env.frame = some X.env.locals) (hex : X.ex = []) (nd : X.N.Nodup) (hn : X.N[i]? = some n) (hloc : X.env.kindOf n = some .local) (hc : Names X x c)
    (hb : ∀ (W : WX) (pn : List (Addr × Obj)) (xe : Value → Shared → Prop), Takes (X.tr pn xe) W → PassesOwn (model X.prog X.w) X.A X.env xe → PSs (X.tr pn xe) body (tb W))
    (hsu : ∀ (a : Addr) (oe : Obj) (cls : Value) (d : Option Addr) (pn : List (Addr × Obj)), Zc cls d oe → (∃ vs, oe.data = .fields vs) → PSs (X.suite a ((a, oe) :: pn)) (b₀ :: suite) (ts a cls d)) :
    PS X (.Try body [.ExceptHandler (some (.Name x np)) (some n) (b₀ :: suite) pos'] [] [] pos) (fun D σ H => tb (wK X.K c i ts D) D σ H) := by
  constructor
  intro pins s σ H D I h
  have ok := I.ok
  have frames : X.A.frames = some (X.env :: X.outer) := by rw [ok.frames, hstk]
  let air : Value → Shared → Prop := fun e s₁ => wpAny (model X.prog X.w) X.A (noteFrame e X.env) (fun _ s₂ => wpAny (model X.prog X.w) X.A (setFlight e none)
    (fun _ s₃ => wpAny (model X.prog X.w) X.A (handleBy e X.env [.ExceptHandler (some (.Name x np)) (some n) (b₀ :: suite) pos']) (SP X pins D) X.xe s₃) X.xe s₂) X.xe s₁
  have caught : Takes (X.tr (X.pn ++ pins) air) (wK X.K c i ts D) := by
    rintro u s' ⟨a, B, sI, pins', σ', H', cls, dd, rfl, J0, nb, up, sky, na, os, ag, hyes, hgo⟩
    have J : Inv X pins σ' H' sI := J0.ofTry ok
    rw [show (X.tr (X.pn ++ pins) air).stack = X.env :: X.outer from hstk] at sky nb
    refine Sky.land Zc.steady frames hfrm sky fun h3 fl3 up3 => ?_
    have at3 := fl3.there
    obtain ⟨o3, v3, e3, z3, d3⟩ := at3
    have far : a ∉ frs (X.env :: X.outer) := fun hm => by
      obtain ⟨_, o', q1, q2⟩ := Heap.FunFrames.mem fl3.2.2.1 hm
      rw [e3] at q1
      cases q1
      exact q2 _ d3
    have notL : a ≠ X.env.locals := fun z => far (List.mem_filterMap.mpr ⟨X.env, List.mem_cons_self, by rw [hfrm, z]⟩)
    have notF : a ∉ X.fs := fun hm => by
      obtain ⟨e, q1, q2⟩ := List.mem_filterMap.mp hm
      exact far (List.mem_filterMap.mpr ⟨e, List.mem_cons_of_mem _ q1, q2⟩)
    -- it is newer than all that stood
    have newer : ∀ o, sI.heap.get? a ≠ some o := fun o e => by
      have q := nb a o e far
      rw [fl3.2.1] at q
      cases q
    have new0 : ∀ o, X.s_0.heap.get? a ≠ some o := fun o e => by
      obtain ⟨o', e'⟩ := J.base.there a o e (by rw [hex]; simp)
      exact newer o' e'
    have newP : ∀ p ∈ X.pn ++ pins, p.1 ≠ a := fun p hm z => newer p.2 (z ▸ (J.pin p hm).1)
    have J3 : Inv X pins σ' H' { s' with heap := h3 } := J.landed (by rw [hstk]; exact nb) fl3.1 (up.trans up3) os ag
    have S3 := J3.suite e3 d3 na notL notF
    refine wpAny_handleBy_cons (codeAny_handlers_test ?_) fun q => by cases q
    have look : PySem.W.Looks (model X.prog X.w) h3 (typeOf (.ref a)) cls := fun A Q E s k q => wpAny_typeOf_ref (k _ _ e3) (by rw [z3.1]; exact q)
    have fits := PySem.W.exm_one (M := model X.prog X.w) J3.kIn look hyes
    have named : ∀ {Q : Value → Shared → Prop} {E : Value → Shared → Prop}, Q c { s' with heap := h3 } → wpAny (model X.prog X.w) (X.A.mark (some (.ref a))) (eval (.Name x np) X.env) Q E { s' with heap := h3 } := fun q => by
      rcases hc with ⟨g1, g2, g3 | ⟨g3, g4, g5⟩⟩
      · exact ld_glob (X := X.suite a ((a, o3) :: (X.pn ++ pins))) S3 g1 g3 q g2
      · exact ld_blt (X := X.suite a ((a, o3) :: (X.pn ++ pins))) S3 g1 g3 g4 q g5 g2
    refine named (fits.here (codeAny_handlers_suite_as (HandSPX.lands_againZ fl3 fun h4 fl4 up4 => ?_)))
    have J4 : Inv X pins σ' H' { s' with heap := h4 } := J.landed (by rw [hstk]; exact nb) fl4.1 ((up.trans up3).trans up4) os ag
    obtain ⟨o4, v4, e4, z4, d4⟩ := fl4.there
    have S4 := J4.suite e4 d4 na notL notF
    refine store_ok (X := X.suite a ((a, o4) :: (X.pn ++ pins))) (v := .ref a) S4 nd hn (.inl hloc) rfl (fun s5 S5 => ?_) (.inr hloc)
    refine wpAny_mono ((hsu a o4 cls dd (X.pn ++ pins) z4 ⟨_, d4⟩).run [] s5 _ H' _ S5 (hgo a na)) (fun f s6 hsp => ?_) fun _ _ z => z.elim
    cases f with
    | next =>
      obtain ⟨σ6, H6, S6, q6⟩ := hsp
      have J6 : Inv X ((a, o4) :: pins) σ6 H6 s6 :=
        ⟨ok, S6.os, S6.bare, S6.base, S6.loc, S6.cell, S6.free, S6.freeC, fun p hm => S6.pin p (List.mem_append.mpr (.inl (by
          rcases List.mem_append.mp hm with h | h
          · exact List.mem_cons_of_mem _ (List.mem_append.mpr (.inl h))
          · rcases List.mem_cons.mp h with h | h
            · rw [h]; exact List.mem_cons_self
            · exact List.mem_cons_of_mem _ (List.mem_append.mpr (.inr h))))), S6.hok, S6.len⟩
      exact gone_ok J6 nd hn hloc fun s7 J7 => ⟨_, _, adopt J7 z4 d4 new0 newP, q6⟩
    | brk =>
      obtain ⟨_, _, _, q6⟩ := hsp
      exact q6.elim
    | cont =>
      obtain ⟨_, _, _, q6⟩ := hsp
      exact q6.elim
    | ret u =>
      obtain ⟨_, _, _, _, _, q6⟩ := hsp
      exact q6.elim
  refine wpAny_Try_except (wpAny_mono ((hb (wK X.K c i ts D) (X.pn ++ pins) air caught PassesOwn.looking).run [] s σ H D (I.toTry _) h) (fun f s1 hsp => ?_) fun e s1 he => he)
  cases f with
  | next =>
    obtain ⟨σ', H', J', q⟩ := hsp
    exact wpAny_execs_nil ⟨σ', H', J'.ofTry ok, q⟩
  | ret u =>
    obtain ⟨v, σ', H', J', r, q⟩ := hsp
    exact ⟨v, σ', H', J'.ofTry ok, r, q⟩
  | brk =>
    obtain ⟨σ', H', J', q⟩ := hsp
    exact ⟨σ', H', J'.ofTry ok, q⟩
  | cont =>
    obtain ⟨σ', H', J', q⟩ := hsp
    exact ⟨σ', H', J'.ofTry ok, q⟩
end
/-! ### isinstance of it -/
def rIsK (K : PySem.W.Frag) : List V → Hp → VK → Prop := fun xs H Q => ∃ (a D : Addr) (c : V) (cv : Value) (b : Bool), xs = [.ref a, c] ∧ H a = some (ExK (.ref D) none a) ∧ ExcC K D ∧ (∀ u, RelV c u → u = cv) ∧ PySem.W.kitOne K (.ref D) cv = some b ∧ Q (.bl b) H
/-- of a new tuple of classes -/
def rIsKT (K : PySem.W.Frag) : List V → Hp → VK → Prop := fun xs H Q => ∃ (a D tp : Addr) (cs : List V) (us : List Value) (b : Bool), xs = [.ref a, .ref tp] ∧ H a = some (ExK (.ref D) none a) ∧ ExcC K D ∧ H tp = some (.tup cs) ∧ Paired ClsV cs us ∧ PySem.W.kitAny K (.ref D) us = some b ∧ Q (.bl b) H
section
variable {X : Cx} {K : PySem.W.Frag}
theorem exk_inst {pins : List (Addr × Obj)} {σ : L2.St} {H : Hp} {s : Shared} {a D : Addr} (I : Inv X pins σ H s) (h : H a = some (ExK (.ref D) none a)) : ∃ oe, PySem.W.InstAt s.heap a oe D none := by
  obtain ⟨⟨oe, vs, g1, ⟨g2, g3⟩, g4⟩, _⟩ := (show ObjOk X.prog X.w H s.heap a (ExK (.ref D) none a) from I.hok a _ h)
  refine ⟨oe, ?_⟩
  obtain ⟨oc, od, oda, osl⟩ := oe
  dsimp only at g2 g3 g4
  subst g2 g3 g4
  exact ⟨g1, rfl, rfl, trivial⟩
theorem call_isK (e : X.K = K) : CallR X (.builtin "isinstance") (rIsK K) := by
  subst e
  intro pins s σ H xs us Q I r h
  obtain ⟨a, D, c, cv, b, rfl, ha, C, hcv, hk, q⟩ := h
  obtain ⟨u1, u2, rfl, r1, r2⟩ := vals2 r
  cases (show u1 = Value.ref a from r1)
  have e2 := hcv _ r2
  subst e2
  obtain ⟨oe, J⟩ := exk_inst I ha
  exact PySem.W.kia_one (PySem.W.handS_kitx_exc C.hg C.hk C.hs C.hd C.ha C.hn C.ht C.hm) I.kIn J hk (fun z => nomatch z) fun tk => ⟨.bl b, H, I.tok tk, rfl, q⟩
theorem call_isKT (e : X.K = K) : CallR X (.builtin "isinstance") (rIsKT K) := by
  subst e
  intro pins s σ H xs us Q I r h
  obtain ⟨a, D, tp, cs, ws, b, rfl, ha, C, hT, hp, hk, q⟩ := h
  obtain ⟨u1, u2, rfl, r1, r2⟩ := vals2 r
  cases (show u1 = Value.ref a from r1)
  cases (show u2 = Value.ref tp from r2)
  obtain ⟨oe, J⟩ := exk_inst I ha
  obtain ⟨_, its, rv, o, h1, h2, n, h3⟩ := (show ObjOk X.prog X.w H s.heap tp (.tup cs) from I.hok tp _ hT)
  have e3 := ClsV.all hp rv
  subst e3
  obtain ⟨oc, od, dt, sl⟩ := o
  simp only at h2 h3
  subst h2 h3
  exact PySem.W.kia_tup (PySem.W.handS_kitx_exc C.hg C.hk C.hs C.hd C.ha C.hn C.ht C.hm) I.kIn J h1 hk (fun z => nomatch z) fun tk => ⟨.bl b, H, I.tok tk, rfl, q⟩
end
section
variable {K : PySem.W.Frag} {S H : Hp} {O : List (Addr × HO)} {Q : VK} {C c a : Addr} {b : Bool}
theorem x_isK (h : H a = some (ExK (.ref C) none a)) (hC : ExcC K C) (hk : PySem.W.kitOne K (.ref C) (.ref c) = some b) (q : Q (.bl b) H) : rIsK K [.ref a, .ref c] H Q :=
  ⟨a, C, .ref c, .ref c, b, rfl, h, hC, fun u h => h, hk, q⟩
theorem x_isKT {n : String} (h : H a = some (ExK (.ref C) none a)) (hC : ExcC K C) (hk : PySem.W.kitOne K (.ref C) (.type n) = some b) (q : Q (.bl b) H) : rIsK K [.ref a, .ty n] H Q :=
  ⟨a, C, .ty n, .type n, b, rfl, h, hC, fun u h => h, hk, q⟩
end
end SB
/-! sorted of pairs of ints; list(range(n)). -/
namespace SB
open PySem PySem.Spec PyProof.Rows L2
abbrev prD (p : Int × Int) : PyData := .tuple [.int p.1, .int p.2]
/-- the pair that a tuple holds -/
def prOf (h : Heap) (v : Value) : Int × Int := match v with
  | .ref a => match h.get? a with
    | some o => match o.data with
      | .seq its _ => match its.toList with
        | [.int x _, .int y _] => (x, y)
        | _ => (0, 0)
      | _ => (0, 0)
    | none => (0, 0)
  | _ => (0, 0)
theorem prOf_is {h : Heap} {v : Value} {x y : Int} (p : Srt.IsPair h v x y) : prOf h v = (x, y) := by
  obtain ⟨a, o, t, u, n, rfl, h1, _, h2⟩ := p
  unfold prOf
  dsimp only
  rw [h1]
  dsimp only
  rw [h2]
def rSortPS (K : PySem.W.Frag) : List V → Hp → VK → Prop := fun vs H Q => ∃ (a : Addr) (xs : List V) (ps : List (Int × Int)), vs = [.ref a] ∧ SqL K H a xs ∧ xs.length = ps.length ∧ (∀ z ∈ xs.zip ps, ∃ t, z.1 = V.ref t ∧ SqT K H t [.int z.2.1, .int z.2.2]) ∧
  ∀ (zs : List (V × (Int × Int))) (p : Addr), zs.Perm (xs.zip ps) → (zs.map (·.2)).Pairwise (fun p q => p.1 < q.1 ∨ (p.1 = q.1 ∧ p.2 ≤ q.2)) → H p = none → Q (.ref p) (upd H p (.lst (zs.map (·.1))))
section
variable {X : Cx} {K : PySem.W.Frag}
theorem cl_sortPS (e : X.K = K) : CallR X (.builtin "sorted") (rSortPS K) := by
  subst e
  intro pins s σ H vs us Q I r h
  obtain ⟨a, xs, ps, rfl, hs, hlen, hx, q⟩ := h
  obtain ⟨its, rv, hl, hz⟩ := I.list hs
  obtain ⟨u, rfl, ru⟩ := vals1 r
  cases (show u = Value.ref a from ru)
  have all : ∀ (i : Nat) (x : V), xs[i]? = some x → ∃ p, ps[i]? = some p ∧ ∃ t, x = V.ref t ∧ SqT X.K H t [.int p.1, .int p.2] := fun i x hi => by
    have hl := (List.getElem?_eq_some_iff.mp hi).1
    have hp : ps[i]? = some (ps[i]'(by omega)) := List.getElem?_eq_getElem (by omega)
    refine ⟨_, hp, ?_⟩
    exact hx (x, ps[i]'(by omega)) (List.mem_of_getElem? (by rw [List.getElem?_zip_eq_some]; exact ⟨hi, hp⟩))
  obtain ⟨e1, e2⟩ := refs_back rv fun x m => by
    obtain ⟨i, hi⟩ := List.getElem?_of_mem m
    obtain ⟨_, _, t, e, _⟩ := all i x hi
    exact ⟨t, e⟩
  have pr : ∀ (i : Nat) (v : Value), its[i]? = some v → ∃ p, ps[i]? = some p ∧ Srt.IsPair s.heap v p.1 p.2 := fun i v hv => by
    have hxv : xs[i]? = some (backV v) := by rw [e1, List.getElem?_map, hv]; rfl
    obtain ⟨p, hp, t, et, ht⟩ := all i _ hxv
    obtain ⟨t', rfl⟩ := e2 v (List.mem_of_getElem? hv)
    cases et
    obtain ⟨its2, r2, o2, _⟩ := I.tuple ht
    obtain ⟨o, ho, hc, n, hd⟩ := o2
    obtain ⟨u1, u2, rfl, ri, rj⟩ := vals2 r2
    obtain ⟨t1, rfl⟩ := ri
    obtain ⟨t2, rfl⟩ := rj
    exact ⟨p, hp, t, o, t1, t2, n, rfl, ho, hc, hd⟩
  have ezip : its.map (fun u => (backV u, prOf s.heap u)) = xs.zip ps := by
    apply List.ext_getElem?
    intro i
    rw [List.getElem?_map]
    cases hi : its[i]? with
    | none =>
      have hn : its.length ≤ i := by
        rcases Nat.lt_or_ge i its.length with h | h
        · rw [List.getElem?_eq_getElem h] at hi; cases hi
        · exact h
      have hxl : xs.length = its.length := by rw [e1, List.length_map]
      rw [List.getElem?_eq_none (by rw [List.length_zip]; omega)]
      rfl
    | some v =>
      obtain ⟨p, hp, hpr⟩ := pr i v hi
      have hxv : xs[i]? = some (backV v) := by rw [e1, List.getElem?_map, hi]; rfl
      rw [(List.getElem?_zip_eq_some.mpr ⟨hxv, hp⟩ : (xs.zip ps)[i]? = some (backV v, p)), Option.map_some, prOf_is hpr]
  refine SrtO.sorted_pairsO (k := prOf s.heap) hl.isList (by rw [← rv.length]; exact hz) (fun v hv => ?_) fun h' d out h1 h2 kp hd hn => ?_
  · obtain ⟨i, hi⟩ := List.getElem?_of_mem hv
    obtain ⟨p, _, hpr⟩ := pr i v hi
    rw [prOf_is hpr]
    exact hpr
  · have h3 : ∀ u ∈ out, ∃ a, u = Value.ref a := fun u hu => e2 u (h2.perm.mem_iff.mp hu)
    obtain ⟨n, hn⟩ := hn
    have hperm : (out.map fun u => (backV u, prOf s.heap u)).Perm (xs.zip ps) := by
      rw [← ezip]
      exact h2.perm.map _
    have em : (out.map fun u => (backV u, prOf s.heap u)).map (·.1) = out.map backV := by rw [List.map_map]; rfl
    have hq := q (out.map fun u => (backV u, prOf s.heap u)) d hperm (by
      rw [List.map_map, List.pairwise_map]
      refine h1.imp fun {v u} hh => ?_
      have := SrtO.lexB_no.mp hh
      show (prOf s.heap v).1 < (prOf s.heap u).1 ∨ ((prOf s.heap v).1 = (prOf s.heap u).1 ∧ (prOf s.heap v).2 ≤ (prOf s.heap u).2)
      omega) (I.hok.fresh hd)
    rw [em] at hq
    have hol : out.length = xs.length := by rw [h2.perm.length_eq, e1, List.length_map]
    exact ⟨.ref d, upd H d (.lst (out.map backV)), I.laid (t' := s.toks) kp hd ⟨by rw [List.length_map, hol]; exact hz, out, n, vals_back h3, hn⟩, rfl, hq⟩
end
section
variable {K : PySem.W.Frag} {S H : Hp} {O : List (Addr × HO)} {σ : L2.St} {Q : VK} {x y v : V} {ta : TE}
theorem x_sortP {ps : List (Int × Int)} (W : Wd K S H O) (h : Dp K S x (.list (ps.map fun p => .tuple [.int p.1, .int p.2])))
    (k : ∀ (S' H' : Hp) (v : V) (qs : List (Int × Int)), Wd K S' H' O → Same S S' → Dp K S' v (.list (qs.map fun p : Int × Int => .tuple [.int p.1, .int p.2])) → qs.Perm ps → qs.Pairwise (fun p q => p.1 < q.1 ∨ (p.1 = q.1 ∧ p.2 ≤ q.2)) → Q v H') : rSortPS K [x] H Q := by
  obtain ⟨a, us, rfl, hq, ha⟩ := dp_lst_ex h
  have hlen : us.length = ps.length := by rw [dpAll_len ha, List.length_map]
  have each : ∀ z ∈ us.zip ps, Dp K S z.1 (.tuple [.int z.2.1, .int z.2.2]) := fun z hz => by
    obtain ⟨i, hi⟩ := List.getElem?_of_mem hz
    obtain ⟨u, p⟩ := z
    rw [List.getElem?_zip_eq_some] at hi
    obtain ⟨d, hd, hdp⟩ := dpAll_get' ha hi.1
    rw [List.getElem?_map, hi.2] at hd
    cases hd
    exact hdp
  refine ⟨a, us, ps, rfl, W.lst hq, hlen, fun z hz => ?_, fun zs p hp hs hn => ?_⟩
  · obtain ⟨t, ws, e, hw, hall⟩ := dp_tup_ex (each z hz)
    refine ⟨t, e, ?_⟩
    cases hall with
    | cons h1 h2 =>
      cases h2 with
      | cons h2 h3 =>
        cases h3
        cases h1
        cases h2
        exact W.tup hw
  · have hd : DpAll K S (zs.map (·.1)) ((zs.map (·.2)).map fun p : Int × Int => .tuple [.int p.1, .int p.2]) := by
      have mem : ∀ z ∈ zs, Dp K S z.1 (.tuple [.int z.2.1, .int z.2.2]) := fun z hz => each z (hp.mem_iff.mp hz)
      clear hp hs
      induction zs with
      | nil => exact .nil
      | cons z r ih => exact .cons (mem z List.mem_cons_self) (ih fun y hy => mem y (List.mem_cons_of_mem _ hy))
    have hperm : (zs.map (·.2)).Perm ps := by
      have := hp.map (·.2)
      rw [List.map_snd_zip (by omega)] at this
      exact this
    exact x_lst' W hd (fun S' H' v W' hS hv => k S' H' v _ W' hS hv hperm hs) p hn
/-- list(range(n)), ours -/
def RgR (Q : VK) (n : Int) (H : Hp) : Prop := RgOk 0 n ∧ ∀ q, H q = none → Q (.ref q) (upd H q (.lst (rgV 0 n)))
theorem x_lrg (h : ta σ H fun x H1 => ∃ n, x = .int n ∧ RgR Q n H1) : tLstRg (tRg1 ta) σ H Q := h
theorem rgV_ints {n : Int} : rgV 0 n = ((List.range n.toNat).map fun i : Nat => (i : Int)).map V.int := by
  unfold rgV
  rw [List.map_map, Int.sub_zero]
  refine List.map_congr_left fun i _ => ?_
  show V.int (0 + (i : Int)) = V.int (i : Int)
  rw [Int.zero_add]
theorem x_rgO {n : Int} (W : Wd K S H O) (h0 : 0 ≤ n) (h1 : n ≤ 1000000) (k : ∀ q H', Wd K S H' ((q, .lst (((List.range n.toNat).map fun i : Nat => (i : Int)).map V.int)) :: O) → Q (.ref q) H') :
    RgR Q n H :=
  ⟨.of_le (Int.le_refl _) (by omega) (by decide) h0, fun q hq => by rw [rgV_ints]; exact k q _ (W.alloc hq)⟩
end
end SB
namespace SB
open PySem PySem.Spec PyProof.Rows L2
/-! ### dicts: len, isinstance, get, a new one -/
def rLenD : List V → Hp → VK → Prop := fun xs H Q => ∃ (a : Addr) (kvs : List (Key × V)), xs = [.ref a] ∧ H a = some (.dK kvs) ∧ Q (.int kvs.length) H
theorem cl_lenD {X : Cx} : CallR X (.builtin "len") rLenD := call_lenD
theorem call_isD {X : Cx} {K : PySem.W.Frag} (e : X.K = K) : CallR X (.builtin "isinstance") (rIsi K) := isia e
def rCatTD (K : PySem.W.Frag) : R2 := rCatT K
theorem catTa {X : Cx} {K : PySem.W.Frag} (e : X.K = K) : OpR X (binaryOp .Add) (rCatT K) := e ▸ op_catT
section
variable {K : PySem.W.Frag} {S H : Hp} {O : List (Addr × HO)} {σ : L2.St} {Q : VK} {x y v : V} {td ty : TE} {β : Type} {e : β → PyData} {p : Addr} {kvs : List (Int × V)} {xs : List (Int × β)}
theorem x_lenDH (h : H p = some (mkD kvs)) (r : DKV K S e kvs xs) (q : Q (.int xs.length) H) : rLenD [.ref p] H Q :=
  ⟨p, _, rfl, h, by rw [List.length_map, dkv_len r]; exact q⟩
theorem x_isiD {n : String} {b : Bool} (h : H p = some (mkD kvs)) (hk : kitB "dict" n = some b) (q : Q (.bl b) H) : rIsi K [.ref p, .ty n] H Q := x_isi (.base (.dK h)) (kit_ty hk) q
def GetR (ty : L2.St → Hp → VK → Prop) (σ : L2.St) (Q : VK) (x : V) (H : Hp) : Prop := ∃ a, x = .ref a ∧ IsD H a ∧ ty σ H fun y H2 => ∃ o, DGet H2 a y o ∧ Q (o.getD .non) H2
theorem x_get (h : td σ H fun x H1 => GetR ty σ Q x H1) : tDGet1 td ty σ H Q := h
theorem x_getH (h : H p = some (mkD kvs)) (k : ty σ H fun y H2 => ∃ o, DGet H2 p y o ∧ Q (o.getD .non) H2) : GetR ty σ Q (.ref p) H := ⟨p, rfl, .inl ⟨_, .inl h⟩, k⟩
theorem x_getE {i : Int} (h : H p = some (mkD kvs)) (q : Q ((look kvs i).getD .non) H) : ∃ o, DGet H p (.int i) o ∧ Q (o.getD .non) H := ⟨_, dget_rd h, q⟩
theorem x_dnew (W : Wd K S H O) (k : ∀ p H', Wd K S H' ((p, mkD []) :: O) → Q (.ref p) H') : tDNewK σ H Q := fun p hp => k p _ (W.alloc hp (o := .dK []))
theorem x_catT {ds es : List PyData} (W : Wd K S H O) (h1 : Dp K S x (.tuple ds)) (h2 : Dp K S y (.tuple es)) (n1 : ds ≠ []) (n2 : es ≠ []) (hl : ds.length + es.length ≤ 1000000) (k : ∀ S' H' v, Wd K S' H' O → Same S S' → Dp K S' v (.tuple (ds ++ es)) → Q v H') : rCatT K x y H Q := by
  obtain ⟨a, us, rfl, hq1, ha⟩ := dp_tup_ex h1
  obtain ⟨b, ws, rfl, hq2, hb⟩ := dp_tup_ex h2
  have l1 := dpAll_len ha
  have l2 := dpAll_len hb
  have e1 : us ≠ [] := fun e => by rw [e] at l1; exact n1 (List.eq_nil_of_length_eq_zero l1.symm)
  have e2 : ws ≠ [] := fun e => by rw [e] at l2; exact n2 (List.eq_nil_of_length_eq_zero l2.symm)
  exact ⟨a, b, us, ws, rfl, rfl, W.tup hq1, W.tup hq2, e1, sz (by rw [l1, l2]; exact hl), fun e => absurd e e2, fun _ => x_tup' W (dpAll_cat ha hb) k⟩
/-! ### sorted of ints, remove -/
theorem x_srtO {ns : List Int} (n : Nat) (W : Wd K S H O) (h : O[n]? = some (p, .lst (ns.map V.int))) (k : ∀ S' H' v (zs : List Int), Wd K S' H' O → Same S S' → Dp K S' v (.list (zs.map PyData.int)) → zs.Perm ns → zs.Pairwise (· ≤ ·) → Q v H') : rSortedI K [.ref p] H Q :=
  ⟨p, ns, rfl, .of (W.at n h), fun zs q h1 h2 hq => x_lst' W (dpAll_ints zs) (fun S' H' v W' hS hv => k S' H' v zs W' hS hv h1 h2) q hq⟩
theorem x_remO {ns : List Int} {i : Int} {j : Nat} (n : Nat) (W : Wd K S H O) (h : O[n]? = some (p, .lst (ns.map V.int))) (h1 : ns[j]? = some i) (h2 : ∀ m : Nat, m < j → ns[m]? ≠ some i) (k : ∀ H', Wd K S H' (O.set n (p, .lst ((ns.eraseIdx j).map V.int))) → Q .non H') : rRemI (.ref p) [.int i] H Q :=
  ⟨p, ns, i, j, rfl, rfl, W.at n h, h1, h2, k _ (W.put n h)⟩
theorem x_popI {ns : List Int} {i : Int} (n : Nat) (W : Wd K S H O) (h : O[n]? = some (p, .lst ((ns ++ [i]).map V.int))) (k : ∀ H', Wd K S H' (O.set n (p, .lst (ns.map V.int))) → Q (.int i) H') : rPop (.ref p) [] H Q := by
  refine x_pop n W h ?_ fun H' W' => k H' ?_
  · rw [List.map_append, List.length_append, List.map_cons, List.map_nil, List.length_singleton, Nat.add_sub_cancel, List.getElem?_append_right (by simp)]
    simp
  · rw [List.map_append, List.map_cons, List.map_nil, List.dropLast_concat] at W'
    exact W'
end
end SB
/-! what the laws draw from a script, plain -/
namespace SB
def cell (ns : List Int) (i : Int) : Int := if ns = [] then 0 else nth ns (i % (ns.length : Int))
def mix (ns : List Int) (i : Int) : Int :=
  let n := (cell ns i + 104729 * (i + 1)) % 4294967291 * 48271 % 4294967279
  (n / 64 * 69621 + n) % 4294967231
theorem mix_lo (ns : List Int) (i : Int) : 0 ≤ mix ns i := Int.emod_nonneg _ (by decide)
theorem mix_hi (ns : List Int) (i : Int) : mix ns i < 4294967231 := Int.emod_lt_of_pos _ (by decide)
end SB
namespace SB
/-- a whole number of up to forty figures -/
def wholeOf (ns : List Int) (i : Int) : Int := nth [mix ns i % 20 - 10, mix ns i, cell ns (i + 1) % 10 ^ 40 - 10 ^ 39, 0] (mix ns i / 20 % 4)
theorem wholeOf_sm (ns : List Int) (i : Int) : (wholeOf ns i).natAbs < 2 ^ 140 := by
  unfold wholeOf
  have h := nth_mem (xs := [mix ns i % 20 - 10, mix ns i, cell ns (i + 1) % 10 ^ 40 - 10 ^ 39, 0]) (i := mix ns i / 20 % 4) (Int.emod_nonneg _ (by decide)) (Int.emod_lt_of_pos _ (by decide))
  generalize nth [mix ns i % 20 - 10, mix ns i, cell ns (i + 1) % 10 ^ 40 - 10 ^ 39, 0] (mix ns i / 20 % 4) = z at h
  have h1 := mix_lo ns i
  have h2 := mix_hi ns i
  have h3 := Int.emod_nonneg (mix ns i) (show (20 : Int) ≠ 0 by decide)
  have h4 := Int.emod_lt_of_pos (mix ns i) (show (0 : Int) < 20 by decide)
  have h5 := Int.emod_nonneg (cell ns (i + 1)) (show (10 ^ 40 : Int) ≠ 0 by decide)
  have h6 := Int.emod_lt_of_pos (cell ns (i + 1)) (show (0 : Int) < 10 ^ 40 by decide)
  simp only [List.mem_cons, List.mem_nil_iff, or_false, List.not_mem_nil] at h
  have e : (2 : Nat) ^ 140 = 1393796574908163946345982392040522594123776 := by decide
  rw [e]
  rcases h with h | h | h | h <;> omega
end SB
/-! networks, plain -/
namespace SB
structure Arc where
  s : Int
  t : Int
  r : Int
  c : Int
  deriving DecidableEq, Inhabited
def num (n : Int) : Int := if n % 4 = 0 then nth [0, 1, -1, 2, 10 ^ 30, -10 ^ 30, 7, 5] (n / 4 % 8) else n / 4 % 12
theorem num_sm (n : Int) : -10 ^ 30 ≤ num n ∧ num n ≤ 10 ^ 30 := by
  unfold num
  split
  · have h := nth_mem (xs := [0, 1, -1, 2, 10 ^ 30, -10 ^ 30, 7, 5]) (i := n / 4 % 8) (Int.emod_nonneg _ (by decide)) (Int.emod_lt_of_pos _ (by decide))
    generalize nth [0, 1, -1, 2, 10 ^ 30, -10 ^ 30, 7, 5] (n / 4 % 8) = z at h
    simp only [List.mem_cons, List.not_mem_nil, or_false] at h
    rcases h with h | h | h | h | h | h | h | h <;> omega
  · have h1 := Int.emod_nonneg (n / 4) (show (12 : Int) ≠ 0 by decide)
    have h2 := Int.emod_lt_of_pos (n / 4) (show (0 : Int) < 12 by decide)
    omega
def netP (ns : List Int) (b : Int) : Int := 2 + mix ns b % 5
def netArc (ns : List Int) (b l : Int) (k : Nat) : Arc :=
  ⟨mix ns (b + 2 + 3 * k) % netP ns b, mix ns (b + 2 + 3 * k) / netP ns b % netP ns b, max 0 (num (mix ns (b + 3 + 3 * k))), max l (num (mix ns (b + 4 + 3 * k)) - 2 * (if decide (l < 0) = true then 1 else 0))⟩
def netN (ns : List Int) (b : Int) : Int := mix ns (b + 1) % 12
def netA (ns : List Int) (b l : Int) : List Arc := (List.range (netN ns b).toNat).map (netArc ns b l)
theorem netP_lo (ns : List Int) (b : Int) : 2 ≤ netP ns b := by
  have := Int.emod_nonneg (mix ns b) (show (5 : Int) ≠ 0 by decide)
  unfold netP
  omega
theorem netP_hi (ns : List Int) (b : Int) : netP ns b ≤ 6 := by
  have := Int.emod_lt_of_pos (mix ns b) (show (0 : Int) < 5 by decide)
  unfold netP
  omega
theorem netN_lo (ns : List Int) (b : Int) : 0 ≤ netN ns b := Int.emod_nonneg _ (by decide)
theorem netN_hi (ns : List Int) (b : Int) : netN ns b ≤ 11 := by
  have := Int.emod_lt_of_pos (mix ns (b + 1)) (show (0 : Int) < 12 by decide)
  unfold netN
  omega
theorem netA_len (ns : List Int) (b l : Int) : (netA ns b l).length ≤ 11 := by
  unfold netA
  rw [List.length_map, List.length_range]
  have := netN_hi ns b
  omega
/-- an arc between places, with a room that is none too great -/
structure ArcOk (P : Int) (a : Arc) : Prop where
  s0 : 0 ≤ a.s
  s1 : a.s < P
  t0 : 0 ≤ a.t
  t1 : a.t < P
theorem netA_ok {ns : List Int} {b l : Int} : ∀ a ∈ netA ns b l, ArcOk (netP ns b) a ∧ 0 ≤ a.r ∧ a.r ≤ 10 ^ 30 ∧ l ≤ a.c ∧ (a.c ≤ 10 ^ 30 ∨ a.c = l) := by
  intro a ha
  unfold netA at ha
  obtain ⟨k, _, rfl⟩ := List.mem_map.mp ha
  have h2 := netP_lo ns b
  have e1 := num_sm (mix ns (b + 3 + 3 * k))
  have e2 := num_sm (mix ns (b + 4 + 3 * k))
  refine ⟨⟨Int.emod_nonneg _ (by omega), Int.emod_lt_of_pos _ (by omega), Int.emod_nonneg _ (by omega), Int.emod_lt_of_pos _ (by omega)⟩, ?_, ?_, ?_, ?_⟩
  · show 0 ≤ max 0 _
    omega
  · show max 0 _ ≤ _
    omega
  · show l ≤ max l _
    omega
  · show max l _ ≤ _ ∨ max l _ = l
    split <;> omega

/-! ### sums -/
def sumStep (l : List Int) (p : Arc × Int) : List Int :=
  let l1 := l.set p.1.s.toNat (nth l p.1.s - p.2)
  l1.set p.1.t.toNat (nth l1 p.1.t + p.2)
def sumsOf (P : Int) (ps : List (Arc × Int)) : List Int := ps.foldl sumStep (List.replicate P.toNat 0)
def sums (P : Int) (as : List Arc) (ms : List Int) : List Int := sumsOf P (as.zip ms)
theorem sumStep_len (l : List Int) (p : Arc × Int) : (sumStep l p).length = l.length := by simp [sumStep]
theorem sumsOf_len (P : Int) (ps : List (Arc × Int)) : (sumsOf P ps).length = P.toNat := by
  unfold sumsOf
  suffices h : ∀ (l : List Int), (ps.foldl sumStep l).length = l.length by rw [h, List.length_replicate]
  induction ps with
  | nil => intro l; rfl
  | cons p r ih => intro l; rw [List.foldl_cons, ih, sumStep_len]
theorem sumsOf_take {P : Int} {ps : List (Arc × Int)} {i : Nat} {p : Arc × Int} (h : ps[i]? = some p) : sumsOf P (ps.take (i + 1)) = sumStep (sumsOf P (ps.take i)) p := by
  unfold sumsOf
  rw [List.take_add_one, h, List.foldl_append]
  rfl
theorem zip_get {α β : Type} {xs : List α} {ys : List β} {i : Nat} {x : α} {y : β} (h1 : xs[i]? = some x) (h2 : ys[i]? = some y) : (xs.zip ys)[i]? = some (x, y) := by
  rw [List.getElem?_zip_eq_some]
  exact ⟨h1, h2⟩
theorem nth_set_eq {l : List Int} {i v : Int} (h0 : 0 ≤ i) (h : i < l.length) : nth (l.set i.toNat v) i = v := by
  have hl : i.toNat < l.length := by omega
  apply nth_eq
  rw [List.getElem?_set, if_pos rfl, if_pos hl]
theorem nth_set_ne {l : List Int} {i j v : Int} (h0 : 0 ≤ i) (h1 : 0 ≤ j) (h : i ≠ j) : nth (l.set i.toNat v) j = nth l j := by
  unfold nth
  rw [List.getD_eq_getElem?_getD, List.getD_eq_getElem?_getD, List.getElem?_set, if_neg (by omega)]
/-- the sums, place by place -/
theorem nth_sumStep {l : List Int} {p : Arc × Int} {k : Int} (ok : ArcOk l.length p.1) (h0 : 0 ≤ k) (h1 : k < l.length) :
    nth (sumStep l p) k = nth l k - (if p.1.s = k then p.2 else 0) + (if p.1.t = k then p.2 else 0) := by
  obtain ⟨a, m⟩ := p
  obtain ⟨s0, s1, t0, t1⟩ := ok
  dsimp only at s0 s1 t0 t1 h0 h1 ⊢
  show nth ((l.set a.s.toNat (nth l a.s - m)).set a.t.toNat (nth (l.set a.s.toNat (nth l a.s - m)) a.t + m)) k = _
  have s0' : 0 ≤ a.s := s0
  have t0' : 0 ≤ a.t := t0
  by_cases ht : a.t = k
  · subst ht
    rw [nth_set_eq t0 (by rw [List.length_set]; exact t1), if_pos rfl]
    by_cases hs : a.s = a.t
    · rw [if_pos hs, ← hs, nth_set_eq s0 s1]
    · rw [if_neg hs, nth_set_ne s0 t0 hs]
      omega
  · rw [nth_set_ne t0 h0 ht, if_neg ht]
    by_cases hs : a.s = k
    · subst hs
      rw [if_pos rfl, nth_set_eq s0 s1]
      omega
    · rw [if_neg hs, nth_set_ne s0 h0 hs]
      omega
theorem nth_replicate {n : Nat} {k : Int} : nth (List.replicate n (0 : Int)) k = 0 := by
  unfold nth
  rw [List.getD_eq_getElem?_getD, List.getElem?_replicate]
  split <;> rfl
/-- what comes into a place less what goes out -/
def into (ps : List (Arc × Int)) (k : Int) : Int := (ps.map fun p => (if p.1.t = k then p.2 else 0) - (if p.1.s = k then p.2 else 0)).sum
theorem nth_sumsOf {P : Int} {ps : List (Arc × Int)} (hP : 0 ≤ P) (ok : ∀ p ∈ ps, ArcOk P p.1) {k : Int} (h0 : 0 ≤ k) (h1 : k < P) : nth (sumsOf P ps) k = into ps k := by
  unfold sumsOf into
  suffices h : ∀ (l : List Int), (l.length : Int) = P → nth (ps.foldl sumStep l) k = nth l k + (ps.map fun p => (if p.1.t = k then p.2 else 0) - (if p.1.s = k then p.2 else 0)).sum by
    rw [h _ (by rw [List.length_replicate]; omega), nth_replicate]
    omega
  induction ps with
  | nil => intro l _; simp
  | cons p r ih =>
    intro l hl
    have okp : ArcOk l.length p.1 := by rw [hl]; exact ok p List.mem_cons_self
    rw [List.foldl_cons, ih (fun q hq => ok q (List.mem_cons_of_mem _ hq)) _ (by rw [sumStep_len]; exact hl), nth_sumStep okp h0 (by omega), List.map_cons, List.sum_cons]
    omega
end SB
namespace SB
def amtOk (p : Arc × Int) : Bool := decide (0 ≤ p.2) && decide (p.2 ≤ p.1.r)
def isFlow (P : Int) (as : List Arc) (s g : Int) (ms : List Int) : Bool :=
  decide (ms.length = as.length) && (as.zip ms).all amtOk && (((List.range P.toNat).filter fun k : Nat => !decide ((k : Int) ∈ [s, g])).map fun k : Nat => decide (nth (sums P as ms) k = 0)).all id
def leaves (ks : List Int) (a : Arc) : Bool := decide (a.s ∈ ks) && !decide (a.t ∈ ks)
def cutSize (as : List Arc) (ks : List Int) : Int := ((as.filter fun a => leaves ks a).map fun a => a.r).sum
def costOf (as : List Arc) (ms : List Int) : Int := ((as.zip ms).map fun p => p.1.c * p.2).sum
end SB
namespace SB
theorem isFlow_eq {P : Int} {as : List Arc} {s g : Int} {ms : List Int} (hl : as.length = ms.length) : isFlow P as s g ms =
    ((((List.range as.length).map fun k : Nat => amtOk (nth as (k : Int), nth ms (k : Int))).all id) && (((((List.range P.toNat).filter fun k : Nat => !decide ((k : Int) ∈ [s, g])).map fun k : Nat => nth (sums P as ms) (k : Int)).map fun z : Int => decide (z = 0)).all id)) := by
  unfold isFlow
  rw [decide_eq_true hl.symm, Bool.true_and, List.map_map]
  congr 1
  rw [Bool.eq_iff_iff, List.all_eq_true, List.all_eq_true]
  constructor
  · intro h b hb
    obtain ⟨k, hk, rfl⟩ := List.mem_map.mp hb
    have hk' := List.mem_range.mp hk
    exact h _ (List.mem_of_getElem? (zip_get (nth_get (i := (k : Int)) (by omega) (by omega)) (nth_get (i := (k : Int)) (by omega) (by omega))))
  · intro h p hp
    obtain ⟨k, hk⟩ := List.getElem?_of_mem hp
    obtain ⟨a, m⟩ := p
    rw [List.getElem?_zip_eq_some] at hk
    have hk' : k < as.length := (List.getElem?_eq_some_iff.mp hk.1).1
    have := h _ (List.mem_map.mpr ⟨k, List.mem_range.mpr hk', rfl⟩)
    rw [nth_nat hk.1, nth_nat hk.2] at this
    exact this
theorem isFlow_len {P : Int} {as : List Arc} {s g : Int} {ms : List Int} (hl : ms.length ≠ as.length) : isFlow P as s g ms = false := by
  unfold isFlow
  rw [decide_eq_false hl]
  rfl
def cutStep (ks : List Int) (a : Arc) : Int := if leaves ks a = true then a.r else 0
theorem cutSize_eq (as : List Arc) (ks : List Int) : cutSize as ks = (as.map (cutStep ks)).sum := by
  unfold cutSize
  induction as with
  | nil => rfl
  | cons a r ih =>
    rw [List.map_cons, List.sum_cons, ← ih]
    by_cases h : leaves ks a = true
    · rw [List.filter_cons_of_pos h, List.map_cons, List.sum_cons, cutStep, if_pos h]
    · rw [List.filter_cons_of_neg h, cutStep, if_neg h, Int.zero_add]
theorem sum_take {α : Type} {xs : List α} {f : α → Int} {i : Nat} {x : α} (h : xs[i]? = some x) : ((xs.take (i + 1)).map f).sum = ((xs.take i).map f).sum + f x := by
  rw [List.take_add_one, h, List.map_append, List.sum_append]
  simp
end SB
namespace SB
structure LookOk (P : Int) (as : List Arc) : Prop where
  lo : 1 ≤ P
  hi : P ≤ 12
  few : as.length ≤ 40
  arcs : ∀ a ∈ as, ArcOk P a
end SB
/-! networks as data -/
namespace SB
open PySem PySem.Spec PyProof.Rows L2
abbrev arcD (a : Arc) : PyData := .tuple [.int a.s, .int a.t, .int a.r, .int a.c]
abbrev netD (P : Int) (as : List Arc) : PyData := .tuple [.int P, .list (as.map arcD)]
theorem shp_arc (a : Arc) : Shp 63 (arcD a) := (shp_tup (n := 0) fun d hd => by
  simp only [List.mem_cons, List.not_mem_nil, or_false] at hd
  rcases hd with rfl | rfl | rfl | rfl <;> exact shp_int _).mono (by decide)
/-- the fields of ways -/
abbrev wFs (x : V) (l m : Addr) : List (Str × V) := [("arcs", x), ("lengths", .ref l), ("last", .ref m)]
section
variable {K : PySem.W.Frag} {S H : Hp} {O : List (Addr × HO)} {Q : VK} {C p dx l m : Addr} {x : V}
theorem wsA (n : Nat) (W : Wd K S H O) (h : O[n]? = some (p, .ins C dx (wFs x l m))) (c : Cls K C) (na : NoAttr K C "arcs") (q : Q x H) : FldR K "arcs" Q (.ref p) H := x_fldrO n W h c na (by rfl) q
theorem wsL (n : Nat) (W : Wd K S H O) (h : O[n]? = some (p, .ins C dx (wFs x l m))) (c : Cls K C) (na : NoAttr K C "lengths") (q : Q (.ref l) H) : FldR K "lengths" Q (.ref p) H := x_fldrO n W h c na (by rfl) q
theorem wsM (n : Nat) (W : Wd K S H O) (h : O[n]? = some (p, .ins C dx (wFs x l m))) (c : Cls K C) (na : NoAttr K C "last") (q : Q (.ref m) H) : FldR K "last" Q (.ref p) H := x_fldrO n W h c na (by rfl) q
end
end SB
/-! flows, plain -/
namespace SB
/-! ### sums over places -/
def sumR : Nat → (Nat → Int) → Int
  | 0, _ => 0
  | n + 1, f => sumR n f + f n
theorem sumR_add {n : Nat} {f g : Nat → Int} : sumR n (fun k => f k + g k) = sumR n f + sumR n g := by
  induction n with
  | zero => rfl
  | succ n ih => simp only [sumR]; rw [ih]; omega
theorem sumR_zero {n : Nat} : sumR n (fun _ => 0) = 0 := by
  induction n with
  | zero => rfl
  | succ n ih => simp only [sumR]; rw [ih]; rfl
theorem sumR_congr {n : Nat} {f g : Nat → Int} (h : ∀ k, k < n → f k = g k) : sumR n f = sumR n g := by
  induction n with
  | zero => rfl
  | succ n ih =>
    simp only [sumR]
    rw [ih (fun k hk => h k (by omega)), h n (by omega)]
theorem sumR_one {n : Nat} {v c : Int} : sumR n (fun k => if v = (k : Int) then c else 0) = if 0 ≤ v ∧ v < n then c else 0 := by
  induction n with
  | zero =>
    show (0 : Int) = _
    rw [if_neg (by omega)]
  | succ n ih =>
    simp only [sumR]
    rw [ih]
    by_cases h1 : v = (n : Int)
    · rw [if_neg (by omega), if_pos h1, if_pos (by omega)]
      omega
    · rw [if_neg h1]
      by_cases h2 : 0 ≤ v ∧ v < n
      · rw [if_pos h2, if_pos (by omega)]
        omega
      · rw [if_neg h2, if_neg (by omega)]
        rfl

/-! ### cuts -/
def across (X : Int → Bool) (ps : List (Arc × Int)) : Int := (ps.map fun p => (if X p.1.t = true then 0 else p.2) - (if X p.1.s = true then 0 else p.2)).sum
theorem into_cons {p : Arc × Int} {r : List (Arc × Int)} {k : Int} : into (p :: r) k = ((if p.1.t = k then p.2 else 0) - (if p.1.s = k then p.2 else 0)) + into r k := by
  unfold into
  rw [List.map_cons, List.sum_cons]
theorem across_eq {P : Int} {ps : List (Arc × Int)} (ok : ∀ p ∈ ps, ArcOk P p.1) (X : Int → Bool) :
    sumR P.toNat (fun k => if X (k : Int) = true then 0 else into ps (k : Int)) = across X ps := by
  induction ps with
  | nil =>
    rw [sumR_congr (g := fun _ => 0) (fun k _ => by simp [into])]
    exact sumR_zero
  | cons p r ih =>
    have okp := ok p List.mem_cons_self
    have e : across X (p :: r) = ((if X p.1.t = true then 0 else p.2) - (if X p.1.s = true then 0 else p.2)) + across X r := by
      unfold across
      rw [List.map_cons, List.sum_cons]
    rw [e, ← ih (fun q hq => ok q (List.mem_cons_of_mem _ hq))]
    rw [sumR_congr (g := fun k : Nat => ((if p.1.t = (k : Int) then (if X p.1.t = true then 0 else p.2) else 0) + (if p.1.s = (k : Int) then -(if X p.1.s = true then 0 else p.2) else 0)) + (if X (k : Int) = true then 0 else into r (k : Int)))]
    · have h1 : 0 ≤ p.1.t ∧ p.1.t < (P.toNat : Int) := by
        have := okp.t0
        have := okp.t1
        omega
      have h2 : 0 ≤ p.1.s ∧ p.1.s < (P.toNat : Int) := by
        have := okp.s0
        have := okp.s1
        omega
      rw [sumR_add, sumR_add, sumR_one, sumR_one, if_pos h1, if_pos h2]
      omega
    · intro k _
      rw [into_cons]
      by_cases h1 : p.1.t = (k : Int)
      · by_cases h2 : p.1.s = (k : Int)
        · rw [if_pos h1, if_pos h2, if_pos h1, if_pos h2, h1, h2]
          split <;> omega
        · rw [if_pos h1, if_neg h2, if_pos h1, if_neg h2, h1]
          split <;> omega
      · by_cases h2 : p.1.s = (k : Int)
        · rw [if_neg h1, if_pos h2, if_neg h1, if_pos h2, h2]
          split <;> omega
        · rw [if_neg h1, if_neg h2, if_neg h1, if_neg h2]
          split <;> omega
structure Flow (as : List Arc) (s g : Int) (ms : List Int) : Prop where
  len : ms.length = as.length
  bd : ∀ j : Nat, j < as.length → 0 ≤ nth ms (j : Int) ∧ nth ms (j : Int) ≤ (nth as (j : Int)).r
  cons : ∀ v, v ≠ s → v ≠ g → into (as.zip ms) v = 0
theorem flow_across {P s g : Int} {as : List Arc} {ms : List Int} (F : Flow as s g ms) (ok : ∀ a ∈ as, ArcOk P a) (X : Int → Bool) (hs : X s = true) (hg : X g = false) (g0 : 0 ≤ g) (g1 : g < P) :
    across X (as.zip ms) = into (as.zip ms) g := by
  rw [← across_eq (P := P) (fun p hp => ok p.1 (List.of_mem_zip hp).1) X, sumR_congr (g := fun k : Nat => if g = (k : Int) then into (as.zip ms) g else 0)]
  · rw [sumR_one, if_pos (by omega)]
  · intro k _
    by_cases h : X (k : Int) = true
    · rw [if_pos h, if_neg (fun e => by rw [e, h] at hg; cases hg)]
    · rw [if_neg h]
      by_cases e : g = (k : Int)
      · rw [if_pos e, e]
      · rw [if_neg e]
        exact F.cons _ (fun e2 => h (by rw [e2]; exact hs)) (fun e2 => e e2.symm)
def cutX (X : Int → Bool) (as : List Arc) : Int := (as.map fun a => if (X a.s && !X a.t) = true then a.r else 0).sum
theorem across_cons {X : Int → Bool} {p : Arc × Int} {r : List (Arc × Int)} : across X (p :: r) = ((if X p.1.t = true then 0 else p.2) - (if X p.1.s = true then 0 else p.2)) + across X r := by
  unfold across
  rw [List.map_cons, List.sum_cons]
theorem cutX_cons {X : Int → Bool} {a : Arc} {r : List Arc} : cutX X (a :: r) = (if (X a.s && !X a.t) = true then a.r else 0) + cutX X r := by
  unfold cutX
  rw [List.map_cons, List.sum_cons]
theorem cutX_mem (as : List Arc) (ks : List Int) : cutX (fun v => decide (v ∈ ks)) as = cutSize as ks := by
  rw [cutSize_eq]
  rfl
theorem zip_bd {as : List Arc} {ms : List Int} {C : Arc → Int → Prop} (hl : ms.length = as.length) (h : ∀ j : Nat, j < as.length → C (nth as (j : Int)) (nth ms (j : Int))) : ∀ p ∈ as.zip ms, C p.1 p.2 := by
  intro p hp
  obtain ⟨j, hj⟩ := List.getElem?_of_mem hp
  obtain ⟨a, m⟩ := p
  rw [List.getElem?_zip_eq_some] at hj
  have hj' : j < as.length := (List.getElem?_eq_some_iff.mp hj.1).1
  have := h j hj'
  rw [nth_nat hj.1, nth_nat hj.2] at this
  exact this
theorem across_le : ∀ {as : List Arc} {ms : List Int} {X : Int → Bool}, ms.length = as.length → (∀ p ∈ as.zip ms, 0 ≤ p.2 ∧ p.2 ≤ p.1.r) → across X (as.zip ms) ≤ cutX X as
  | [], [], _, _, _ => Int.le_refl _
  | [], _ :: _, _, h, _ => by simp at h
  | _ :: _, [], _, h, _ => by simp at h
  | a :: as, m :: ms, X, hl, h => by
    have ih := across_le (as := as) (ms := ms) (X := X) (by simpa using hl) fun p hp => h p (List.mem_cons_of_mem _ hp)
    have h0 := h (a, m) List.mem_cons_self
    dsimp only at h0
    rw [List.zip_cons_cons, across_cons, cutX_cons]
    dsimp only
    generalize across X (as.zip ms) = A at *
    generalize cutX X as = B at *
    cases X a.s <;> cases X a.t <;> simp <;> omega
theorem across_tight : ∀ {as : List Arc} {ms : List Int} {X : Int → Bool}, ms.length = as.length → (∀ p ∈ as.zip ms, (X p.1.s = true → X p.1.t = false → p.2 = p.1.r) ∧ (X p.1.t = true → X p.1.s = false → p.2 = 0)) → across X (as.zip ms) = cutX X as
  | [], [], _, _, _ => rfl
  | [], _ :: _, _, h, _ => by simp at h
  | _ :: _, [], _, h, _ => by simp at h
  | a :: as, m :: ms, X, hl, h => by
    have ih := across_tight (as := as) (ms := ms) (X := X) (by simpa using hl) fun p hp => h p (List.mem_cons_of_mem _ hp)
    have h0 := h (a, m) List.mem_cons_self
    dsimp only at h0
    rw [List.zip_cons_cons, across_cons, cutX_cons, ih]
    dsimp only
    generalize cutX X as = B at *
    revert h0
    cases X a.s <;> cases X a.t <;> simp <;> omega

/-! ### steps and ways -/
structure Step where
  m : Int
  to : Int
  k : Int
  d : Int
  deriving DecidableEq, Inhabited
def stA (as : List Arc) (ms : List Int) (pl : Int) (k : Nat) : List Step := if (decide ((nth as (k : Int)).s = pl) && decide (nth ms (k : Int) < (nth as (k : Int)).r)) = true then [⟨(nth as (k : Int)).r - nth ms (k : Int), (nth as (k : Int)).t, k, 1⟩] else []
def stB (as : List Arc) (ms : List Int) (pl : Int) (k : Nat) : List Step := if (decide ((nth as (k : Int)).t = pl) && decide (nth ms (k : Int) > 0)) = true then [⟨nth ms (k : Int), (nth as (k : Int)).s, k, -1⟩] else []
def stepsAt (as : List Arc) (ms : List Int) (pl : Int) (k : Nat) : List Step := stA as ms pl k ++ stB as ms pl k
theorem stA_yes {as : List Arc} {ms : List Int} {pl : Int} {k : Nat} (h1 : (nth as (k : Int)).s = pl) (h2 : nth ms (k : Int) < (nth as (k : Int)).r) : stA as ms pl k = [⟨(nth as (k : Int)).r - nth ms (k : Int), (nth as (k : Int)).t, k, 1⟩] := if_pos (by simp [h1, h2])
theorem stA_no {as : List Arc} {ms : List Int} {pl : Int} {k : Nat} (h : ¬ (nth as (k : Int)).s = pl ∨ ¬ nth ms (k : Int) < (nth as (k : Int)).r) : stA as ms pl k = [] := if_neg (by rcases h with h | h <;> simp [h])
theorem stB_yes {as : List Arc} {ms : List Int} {pl : Int} {k : Nat} (h1 : (nth as (k : Int)).t = pl) (h2 : nth ms (k : Int) > 0) : stB as ms pl k = [⟨nth ms (k : Int), (nth as (k : Int)).s, k, -1⟩] := if_pos (by simp [h1, h2])
theorem stB_no {as : List Arc} {ms : List Int} {pl : Int} {k : Nat} (h : ¬ (nth as (k : Int)).t = pl ∨ ¬ nth ms (k : Int) > 0) : stB as ms pl k = [] := if_neg (by rcases h with h | h <;> simp [h])
def stepsOf (as : List Arc) (ms : List Int) (pl : Int) : List Step := (List.range as.length).flatMap (stepsAt as ms pl)
structure Orient (as : List Arc) (pl : Int) (st : Step) : Prop where
  k0 : 0 ≤ st.k
  k1 : st.k < as.length
  ends : (st.d = 1 ∧ (nth as st.k).s = pl ∧ (nth as st.k).t = st.to) ∨ (st.d = -1 ∧ (nth as st.k).t = pl ∧ (nth as st.k).s = st.to)
structure Room' (as : List Arc) (ms : List Int) (st : Step) : Prop where
  pos : 0 < st.m
  most : (st.d = 1 ∧ st.m = (nth as st.k).r - nth ms st.k) ∨ (st.d = -1 ∧ st.m = nth ms st.k)
theorem stepsOf_ok {as : List Arc} {ms : List Int} {pl : Int} {st : Step} (h : st ∈ stepsOf as ms pl) : Orient as pl st ∧ Room' as ms st := by
  obtain ⟨k, hk, hs⟩ := List.mem_flatMap.mp h
  have hk' := List.mem_range.mp hk
  unfold stepsAt stA stB at hs
  rcases List.mem_append.mp hs with hs | hs
  · split at hs
    · rename_i hc
      rw [Bool.and_eq_true, decide_eq_true_eq, decide_eq_true_eq] at hc
      rw [List.mem_singleton] at hs
      subst hs
      exact ⟨⟨by show (0 : Int) ≤ k; omega, by show (k : Int) < _; omega, .inl ⟨rfl, hc.1, rfl⟩⟩, ⟨by show 0 < _ - _; omega, .inl ⟨rfl, rfl⟩⟩⟩
    · cases hs
  · split at hs
    · rename_i hc
      rw [Bool.and_eq_true, decide_eq_true_eq, decide_eq_true_eq] at hc
      rw [List.mem_singleton] at hs
      subst hs
      exact ⟨⟨by show (0 : Int) ≤ k; omega, by show (k : Int) < _; omega, .inr ⟨rfl, hc.1, rfl⟩⟩, ⟨by show 0 < nth ms (k : Int); omega, .inr ⟨rfl, rfl⟩⟩⟩
    · cases hs
theorem stepsOf_fwd {as : List Arc} {ms : List Int} {k : Nat} (hk : k < as.length) (h : nth ms (k : Int) < (nth as (k : Int)).r) : ∃ st ∈ stepsOf as ms (nth as (k : Int)).s, st.to = (nth as (k : Int)).t :=
  ⟨⟨_, _, _, _⟩, List.mem_flatMap.mpr ⟨k, List.mem_range.mpr hk, List.mem_append.mpr (.inl (by rw [stA_yes rfl h]; exact List.mem_singleton.mpr rfl))⟩, rfl⟩
theorem stepsOf_back {as : List Arc} {ms : List Int} {k : Nat} (hk : k < as.length) (h : 0 < nth ms (k : Int)) : ∃ st ∈ stepsOf as ms (nth as (k : Int)).t, st.to = (nth as (k : Int)).s :=
  ⟨⟨_, _, _, _⟩, List.mem_flatMap.mpr ⟨k, List.mem_range.mpr hk, List.mem_append.mpr (.inr (by rw [stB_yes rfl h]; exact List.mem_singleton.mpr rfl))⟩, rfl⟩
inductive Way (as : List Arc) (s : Int) (idx : Int → Nat) : Int → List Step → Prop
  | nil : Way as s idx s []
  | cons {pl : Int} {st : Step} {r : List Step} : Orient as pl st → idx pl < idx st.to → Way as s idx pl r → Way as s idx st.to (st :: r)
theorem way_far {as : List Arc} {s : Int} {idx : Int → Nat} {c : Int} {sts : List Step} (h : Way as s idx c sts) : ∀ st ∈ sts, idx (nth as st.k).s ≤ idx c ∧ idx (nth as st.k).t ≤ idx c := by
  induction h with
  | nil => intro st h; cases h
  | @cons pl st r o hi _ ih =>
    intro st' h
    rcases List.mem_cons.mp h with rfl | h
    · rcases o.ends with ⟨_, e1, e2⟩ | ⟨_, e1, e2⟩ <;> rw [e1, e2] <;> omega
    · have := ih st' h
      omega
theorem way_nodup {as : List Arc} {s : Int} {idx : Int → Nat} {c : Int} {sts : List Step} (h : Way as s idx c sts) : (sts.map (·.k)).Nodup := by
  induction h with
  | nil => exact List.nodup_nil
  | @cons pl st r o hi hw ih =>
    rw [List.map_cons]
    refine List.nodup_cons.mpr ⟨fun hm => ?_, ih⟩
    obtain ⟨st', h', e⟩ := List.mem_map.mp hm
    have := way_far hw st' h'
    rw [e] at this
    rcases o.ends with ⟨_, e1, e2⟩ | ⟨_, e1, e2⟩ <;> rw [e1, e2] at this <;> omega
theorem way_orient {as : List Arc} {s : Int} {idx : Int → Nat} {c : Int} {sts : List Step} (h : Way as s idx c sts) : ∀ st ∈ sts, ∃ pl, Orient as pl st := by
  induction h with
  | nil => intro st h; cases h
  | cons o _ _ ih =>
    intro st' h
    rcases List.mem_cons.mp h with rfl | h
    · exact ⟨_, o⟩
    · exact ih st' h

/-! ### more along a way -/
def augOne (much : Int) (ms : List Int) (st : Step) : List Int := ms.set st.k.toNat (nth ms st.k + much * st.d)
def aug (much : Int) (ms : List Int) (sts : List Step) : List Int := sts.foldl (augOne much) ms
theorem aug_len {much : Int} : ∀ {sts : List Step} {ms : List Int}, (aug much ms sts).length = ms.length
  | [], _ => rfl
  | st :: r, ms => by
    show (aug much (augOne much ms st) r).length = _
    rw [aug_len, augOne, List.length_set]
theorem into_setN {v x : Int} : ∀ {as : List Arc} {ms : List Int} {j : Nat} {a : Arc} {m : Int}, as[j]? = some a → ms[j]? = some m →
    into (as.zip (ms.set j x)) v = into (as.zip ms) v + (((if a.t = v then x else 0) - (if a.s = v then x else 0)) - ((if a.t = v then m else 0) - (if a.s = v then m else 0)))
  | [], _, _, _, _, h, _ => by simp at h
  | _ :: _, [], _, _, _, _, h => by simp at h
  | a :: as, m :: ms, 0, _, _, h1, h2 => by
    simp at h1 h2
    subst h1 h2
    rw [List.set_cons_zero, List.zip_cons_cons, List.zip_cons_cons, into_cons, into_cons]
    dsimp only
    omega
  | a :: as, m :: ms, j + 1, _, _, h1, h2 => by
    rw [List.getElem?_cons_succ] at h1 h2
    rw [List.set_cons_succ, List.zip_cons_cons, List.zip_cons_cons, into_cons, into_cons, into_setN h1 h2]
    omega
theorem into_augOne {much : Int} {as : List Arc} {ms : List Int} {pl v : Int} {st : Step} (hl : ms.length = as.length) (o : Orient as pl st) :
    into (as.zip (augOne much ms st)) v = into (as.zip ms) v + ((if st.to = v then much else 0) - (if pl = v then much else 0)) := by
  have e1 := nth_get (xs := as) (i := st.k) o.k0 o.k1
  have e2 := nth_get (xs := ms) (i := st.k) o.k0 (by rw [hl]; exact o.k1)
  unfold augOne
  rw [into_setN e1 e2]
  rcases o.ends with ⟨d, e3, e4⟩ | ⟨d, e3, e4⟩
  · rw [d, e3, e4]
    split <;> split <;> omega
  · rw [d, e3, e4]
    split <;> split <;> omega
theorem into_aug {much : Int} {as : List Arc} {s c v : Int} {idx : Int → Nat} {sts : List Step} (h : Way as s idx c sts) : ∀ {ms : List Int}, ms.length = as.length →
    into (as.zip (aug much ms sts)) v = into (as.zip ms) v + ((if c = v then much else 0) - (if s = v then much else 0)) := by
  induction h with
  | nil => intro ms _; show into (as.zip ms) v = _; omega
  | @cons pl st r o _ _ ih =>
    intro ms hl
    show into (as.zip (aug much (augOne much ms st) r)) v = _
    rw [ih (by rw [augOne, List.length_set]; exact hl), into_augOne hl o]
    omega
theorem aug_nth {much : Int} {n : Nat} : ∀ {sts : List Step} {ms : List Int}, ms.length = n → (∀ st ∈ sts, 0 ≤ st.k ∧ st.k < n) → (sts.map (·.k)).Nodup → ∀ j : Int, 0 ≤ j →
    (∃ st ∈ sts, st.k = j ∧ nth (aug much ms sts) j = nth ms j + much * st.d) ∨ nth (aug much ms sts) j = nth ms j
  | [], _, _, _, _, _, _ => .inr rfl
  | st :: r, ms, hl, hr, nd, j, h0 => by
    rw [List.map_cons] at nd
    obtain ⟨hn, nd⟩ := List.nodup_cons.mp nd
    have hst := hr st List.mem_cons_self
    have ih := aug_nth (much := much) (n := n) (sts := r) (ms := augOne much ms st) (by rw [augOne, List.length_set]; exact hl) (fun st' h => hr st' (List.mem_cons_of_mem _ h)) nd j h0
    have e : aug much ms (st :: r) = aug much (augOne much ms st) r := rfl
    rw [e]
    by_cases hj : st.k = j
    · subst hj
      rcases ih with ⟨st', h', e', _⟩ | ih
      · exact absurd (List.mem_map.mpr ⟨st', h', e'⟩) hn
      · refine .inl ⟨st, List.mem_cons_self, rfl, ?_⟩
        rw [ih, augOne, nth_set_eq hst.1 (by omega)]
    · have e2 : nth (augOne much ms st) j = nth ms j := by rw [augOne, nth_set_ne hst.1 h0 hj]
      rw [e2] at ih
      rcases ih with ⟨st', h', e', ih⟩ | ih
      · exact .inl ⟨st', List.mem_cons_of_mem _ h', e', ih⟩
      · exact .inr ih
theorem flow_aug {as : List Arc} {s g much : Int} {ms : List Int} {idx : Int → Nat} {sts : List Step} (F : Flow as s g ms) (w : Way as s idx g sts) (hr : ∀ st ∈ sts, Room' as ms st) (h0 : 0 ≤ much) (hm : ∀ st ∈ sts, much ≤ st.m) :
    Flow as s g (aug much ms sts) := by
  refine ⟨by rw [aug_len]; exact F.len, fun j hj => ?_, fun v h1 h2 => ?_⟩
  · have hb := F.bd j hj
    rcases aug_nth (much := much) (n := as.length) (sts := sts) (ms := ms) F.len (fun st h => by obtain ⟨pl, o⟩ := way_orient w st h; exact ⟨o.k0, o.k1⟩) (way_nodup w) (j : Int) (by omega) with ⟨st, h, e, e2⟩ | e2
    · have r := (hr st h).most
      have m := hm st h
      rw [e] at r
      rw [e2]
      rcases r with ⟨d, r⟩ | ⟨d, r⟩ <;> rw [d] <;> omega
    · rw [e2]
      exact hb
  · rw [into_aug w F.len, F.cons v h1 h2, if_neg (fun e => h2 e.symm), if_neg (fun e => h1 e.symm)]
    rfl
def rooms (as : List Arc) : Int := (as.map fun a => a.r).sum
theorem into_le {v : Int} : ∀ {as : List Arc} {ms : List Int}, ms.length = as.length → (∀ p ∈ as.zip ms, 0 ≤ p.2 ∧ p.2 ≤ p.1.r) → into (as.zip ms) v ≤ rooms as
  | [], [], _, _ => Int.le_refl _
  | [], _ :: _, h, _ => by simp at h
  | _ :: _, [], h, _ => by simp at h
  | a :: as, m :: ms, hl, h => by
    have ih := into_le (v := v) (as := as) (ms := ms) (by simpa using hl) fun p hp => h p (List.mem_cons_of_mem _ hp)
    have h0 := h (a, m) List.mem_cons_self
    dsimp only at h0
    rw [List.zip_cons_cons, into_cons]
    unfold rooms at ih ⊢
    rw [List.map_cons, List.sum_cons]
    dsimp only
    split <;> split <;> omega
theorem flow_none {as : List Arc} {s g : Int} (hr : ∀ a ∈ as, 0 ≤ a.r) : Flow as s g (List.replicate as.length 0) := by
  refine ⟨List.length_replicate, fun j hj => ?_, fun v _ _ => ?_⟩
  · rw [nth_replicate]
    exact ⟨Int.le_refl _, hr _ (nth_mem (by omega) (by omega))⟩
  · clear hr
    induction as with
    | nil => rfl
    | cons a r ih => rw [List.length_cons, List.replicate_succ, List.zip_cons_cons, into_cons, ih]; simp
end SB
/-! what is reached, plain -/
namespace SB
abbrev Ent := Option (Int × Step)
structure Reach (P : Int) (as : List Arc) (ms : List Int) (s : Int) (idx : Int → Nat) (found : List (Int × Ent)) : Prop where
  root : look found s = some none
  only : ∀ c, look found c = some none → c = s
  par : ∀ c pl st, look found c = some (some (pl, st)) → st ∈ stepsOf as ms pl ∧ st.to = c ∧ (look found pl).isSome = true ∧ idx pl < idx c
  lt : ∀ c, (look found c).isSome = true → idx c < found.length
  nodup : (found.map (·.1)).Nodup
  rng : ∀ c ∈ found.map (·.1), 0 ≤ c ∧ c < P
theorem look_one {β : Type} {k c : Int} {b : β} : look [(c, b)] k = if c = k then some b else none := by
  rw [look_cons]
  rfl
theorem reach_one {P : Int} {as : List Arc} {ms : List Int} {s : Int} (h0 : 0 ≤ s) (h1 : s < P) : Reach P as ms s (fun _ => 0) [(s, none)] := by
  refine ⟨?_, fun c h => ?_, fun c pl st h => ?_, fun c _ => by simp, by simp, fun c hc => ?_⟩
  · rw [look_one, if_pos rfl]
  · rw [look_one] at h
    split at h
    · rename_i e; exact e.symm
    · cases h
  · rw [look_one] at h
    split at h
    · cases h
    · cases h
  · simp only [List.map_cons, List.map_nil, List.mem_singleton] at hc
    subst hc
    exact ⟨h0, h1⟩
theorem reach_add {P : Int} {as : List Arc} {ms : List Int} {s pl : Int} {idx : Int → Nat} {found : List (Int × Ent)} {st : Step} (R : Reach P as ms s idx found) (hn : look found st.to = none)
    (hp : (look found pl).isSome = true) (hs : st ∈ stepsOf as ms pl) (h0 : 0 ≤ st.to) (h1 : st.to < P) : Reach P as ms s (fun v => if v = st.to then found.length else idx v) (found ++ [(st.to, some (pl, st))]) := by
  have old : ∀ {c : Int}, (look found c).isSome = true → c ≠ st.to := fun h e => by rw [e, hn] at h; cases h
  refine ⟨look_app_old R.root, fun c h => ?_, fun c pl' st' h => ?_, fun c h => ?_, ?_, fun c hc => ?_⟩
  · by_cases e : st.to = c
    · subst e
      rw [look_app_new hn] at h
      cases h
    · rw [look_app_ne e] at h
      exact R.only c h
  · by_cases e : st.to = c
    · subst e
      rw [look_app_new hn] at h
      cases h
      refine ⟨hs, rfl, ?_, ?_⟩
      · obtain ⟨b, hb⟩ := Option.isSome_iff_exists.mp hp
        rw [look_app_old hb]
        rfl
      · rw [if_neg (old hp), if_pos rfl]
        exact R.lt _ hp
    · rw [look_app_ne e] at h
      obtain ⟨a, b, c1, d1⟩ := R.par c pl' st' h
      refine ⟨a, b, ?_, ?_⟩
      · obtain ⟨z, hz⟩ := Option.isSome_iff_exists.mp c1
        rw [look_app_old hz]
        rfl
      · rw [if_neg (old c1), if_neg (Ne.symm e)]
        exact d1
  · rw [List.length_append]
    by_cases e : c = st.to
    · rw [if_pos e]
      simp
    · rw [if_neg e]
      rw [look_app_ne (Ne.symm e)] at h
      have := R.lt c h
      simp
      omega
  · rw [List.map_append]
    refine List.nodup_append.mpr ⟨R.nodup, by simp, fun a ha b hb => ?_⟩
    simp only [List.map_cons, List.map_nil, List.mem_singleton] at hb
    subst hb
    exact fun e => look_none.mp hn (e ▸ ha)
  · rw [List.map_append, List.mem_append] at hc
    rcases hc with hc | hc
    · exact R.rng c hc
    · simp only [List.map_cons, List.map_nil, List.mem_singleton] at hc
      subst hc
      exact ⟨h0, h1⟩
theorem nodup_sub {α : Type} [DecidableEq α] : ∀ {ks l : List α}, ks.Nodup → ks ⊆ l → ks.length ≤ l.length
  | [], _, _, _ => Nat.zero_le _
  | k :: r, l, nd, h => by
    obtain ⟨h1, h2⟩ := List.nodup_cons.mp nd
    have hk : k ∈ l := h List.mem_cons_self
    have := nodup_sub (l := l.erase k) h2 fun x hx => (List.mem_erase_of_ne (fun e => h1 (by rw [← e]; exact hx))).mpr (h (List.mem_cons_of_mem _ hx))
    rw [List.length_erase_of_mem hk] at this
    have := List.length_pos_of_mem hk
    rw [List.length_cons]
    omega
theorem nodup_len {ks : List Int} {P : Int} (nd : ks.Nodup) (h : ∀ k ∈ ks, 0 ≤ k ∧ k < P) : ks.length ≤ P.toNat := by
  have h2 : (ks.map Int.toNat).Nodup := by
    rw [List.Nodup, List.pairwise_map]
    refine nd.imp_of_mem fun {a b} ha hb hab e => hab ?_
    have := h a ha
    have := h b hb
    omega
  have h3 : ks.map Int.toNat ⊆ List.range P.toNat := fun x hx => by
    obtain ⟨k, hk, rfl⟩ := List.mem_map.mp hx
    have := h k hk
    rw [List.mem_range]
    omega
  have := nodup_sub h2 h3
  rw [List.length_map, List.length_range] at this
  exact this
theorem reach_len {P : Int} {as : List Arc} {ms : List Int} {s : Int} {idx : Int → Nat} {found : List (Int × Ent)} (R : Reach P as ms s idx found) : found.length ≤ P.toNat := by
  have := nodup_len R.nodup R.rng
  rw [List.length_map] at this
  exact this
/-- back along what is found -/
inductive Back (found : List (Int × Ent)) : Int → List Step → Prop
  | nil {c : Int} : look found c = some none → Back found c []
  | cons {c pl : Int} {st : Step} {r : List Step} : look found c = some (some (pl, st)) → Back found pl r → Back found c (st :: r)
theorem back_ex {P : Int} {as : List Arc} {ms : List Int} {s : Int} {idx : Int → Nat} {found : List (Int × Ent)} (R : Reach P as ms s idx found) : ∀ (n : Nat) (c : Int), idx c < n → (look found c).isSome = true →
    ∃ sts, Back found c sts ∧ Way as s idx c sts ∧ (∀ st ∈ sts, Room' as ms st) ∧ sts.length ≤ idx c
  | 0, _, h, _ => absurd h (Nat.not_lt_zero _)
  | n + 1, c, hi, hc => by
    obtain ⟨b, hb⟩ := Option.isSome_iff_exists.mp hc
    cases b with
    | none =>
      have e := R.only c hb
      subst e
      exact ⟨[], .nil hb, .nil, fun st h => (by cases h), Nat.zero_le _⟩
    | some q =>
      obtain ⟨pl, st⟩ := q
      obtain ⟨h1, h2, h3, h4⟩ := R.par c pl st hb
      obtain ⟨r, k1, k2, k3, k4⟩ := back_ex R n pl (by omega) h3
      subst h2
      refine ⟨st :: r, .cons hb k1, .cons (stepsOf_ok h1).1 h4 k2, fun st' h => ?_, by rw [List.length_cons]; omega⟩
      rcases List.mem_cons.mp h with rfl | h
      · exact (stepsOf_ok h1).2
      · exact k3 st' h
def Closed (as : List Arc) (ms : List Int) (found : List (Int × Ent)) (left : List Int) : Prop :=
  ∀ pl, (look found pl).isSome = true → pl ∉ left → ∀ st ∈ stepsOf as ms pl, (look found st.to).isSome = true
/-- where the goal is not reached, the reached ones are a cut as great -/
theorem tight {P s g : Int} {as : List Arc} {ms : List Int} {idx : Int → Nat} {found : List (Int × Ent)} (F : Flow as s g ms) (ok : ∀ a ∈ as, ArcOk P a) (R : Reach P as ms s idx found) (C : Closed as ms found [])
    (hg : (look found g).isSome = false) (g0 : 0 ≤ g) (g1 : g < P) : into (as.zip ms) g = cutX (fun v => (look found v).isSome) as := by
  rw [← flow_across F ok (fun v => (look found v).isSome) (by rw [R.root]; rfl) hg g0 g1]
  refine across_tight F.len (zip_bd (C := fun a m => ((look found a.s).isSome = true → (look found a.t).isSome = false → m = a.r) ∧ ((look found a.t).isSome = true → (look found a.s).isSome = false → m = 0)) F.len fun j hj => ⟨fun h1 h2 => ?_, fun h1 h2 => ?_⟩)
  · have hb := F.bd j hj
    by_cases e : nth ms (j : Int) < (nth as (j : Int)).r
    · obtain ⟨st, hs, he⟩ := stepsOf_fwd hj e
      have := C _ h1 (by simp) st hs
      rw [he] at this
      rw [h2] at this
      cases this
    · omega
  · have hb := F.bd j hj
    by_cases e : 0 < nth ms (j : Int)
    · obtain ⟨st, hs, he⟩ := stepsOf_back hj e
      have := C _ h1 (by simp) st hs
      rw [he] at this
      rw [h2] at this
      cases this
    · omega
theorem flow_le {P s g : Int} {as : List Arc} {ms : List Int} (F : Flow as s g ms) (ok : ∀ a ∈ as, ArcOk P a) (X : Int → Bool) (hs : X s = true) (hg : X g = false) (g0 : 0 ≤ g) (g1 : g < P) : into (as.zip ms) g ≤ cutX X as := by
  rw [← flow_across F ok X hs hg g0 g1]
  exact across_le F.len (zip_bd (C := fun a m => 0 ≤ m ∧ m ≤ a.r) F.len F.bd)
/-- the answer of greatest -/
structure Great (P : Int) (as : List Arc) (s g : Int) (ms side : List Int) : Prop where
  flow : Flow as s g ms
  up : side.Pairwise (· < ·)
  rng : ∀ v ∈ side, 0 ≤ v ∧ v < P
  st : s ∈ side
  gl : g ∉ side
  size : into (as.zip ms) g = cutSize as side
  cl : ∀ v ∈ side, ∀ st ∈ stepsOf as ms v, st.to ∈ side
  mn : ∀ X : Int → Prop, X s → (∀ v, X v → ∀ st ∈ stepsOf as ms v, X st.to) → ∀ v ∈ side, X v
theorem reach_mn {P s : Int} {as : List Arc} {ms : List Int} {idx : Int → Nat} {found : List (Int × Ent)} (R : Reach P as ms s idx found) {X : Int → Prop} (h1 : X s) (h2 : ∀ v, X v → ∀ st ∈ stepsOf as ms v, X st.to) : ∀ (n : Nat) (v : Int), idx v < n → (look found v).isSome = true → X v
  | 0, _, h, _ => absurd h (Nat.not_lt_zero _)
  | n + 1, v, hi, hv => by
    obtain ⟨b, hb⟩ := Option.isSome_iff_exists.mp hv
    cases b with
    | none => rw [R.only v hb]; exact h1
    | some q =>
      obtain ⟨pl, st⟩ := q
      obtain ⟨g1, g2, g3, g4⟩ := R.par v pl st hb
      rw [← g2]
      exact h2 pl (reach_mn R h1 h2 n pl (by omega) g3) st g1
theorem pairwise_lt {ys : List Int} (h : ys.Pairwise (· ≤ ·)) (nd : ys.Nodup) : ys.Pairwise (· < ·) := by
  refine (h.and nd).imp fun {a b} h => ?_
  have := h.1
  have := h.2
  omega
theorem great_of {P s g : Int} {as : List Arc} {ms ys : List Int} {idx : Int → Nat} {found : List (Int × Ent)} (F : Flow as s g ms) (ok : ∀ a ∈ as, ArcOk P a) (R : Reach P as ms s idx found) (C : Closed as ms found [])
    (hg : (look found g).isSome = false) (g0 : 0 ≤ g) (g1 : g < P) (pm : ys.Perm (found.map (·.1))) (le : ys.Pairwise (· ≤ ·)) : Great P as s g ms ys := by
  have hX : ∀ v, (look found v).isSome = decide (v ∈ ys) := fun v => by
    rw [Bool.eq_iff_iff, look_isSome, decide_eq_true_iff, pm.mem_iff]
  refine ⟨F, pairwise_lt le (pm.nodup_iff.mpr R.nodup), fun v hv => R.rng v (pm.mem_iff.mp hv), ?_, ?_, ?_, fun v hv st hst => ?_, fun X h1 h2 v hv => ?_⟩
  · rw [pm.mem_iff, ← look_isSome, R.root]
    rfl
  · rw [pm.mem_iff, ← look_isSome, hg]
    exact Bool.false_ne_true
  · rw [tight F ok R C hg g0 g1, ← cutX_mem]
    unfold cutX
    simp only [hX]
  · have := C v (by rw [hX, decide_eq_true hv]) (by simp) st hst
    rw [hX] at this
    exact of_decide_eq_true this
  · exact reach_mn R h1 h2 _ v (Nat.lt_succ_self _) (by rw [hX, decide_eq_true hv])
theorem great_size {P s g : Int} {as : List Arc} {ms ms' side side' : List Int} (ok : ∀ a ∈ as, ArcOk P a) (g0 : 0 ≤ g) (g1 : g < P) (G : Great P as s g ms side) (G' : Great P as s g ms' side') : into (as.zip ms) g = into (as.zip ms') g := by
  refine Int.le_antisymm ?_ ?_
  · rw [G'.size, ← cutX_mem]
    exact flow_le G.flow ok _ (decide_eq_true G'.st) (decide_eq_false G'.gl) g0 g1
  · rw [G.size, ← cutX_mem]
    exact flow_le G'.flow ok _ (decide_eq_true G.st) (decide_eq_false G.gl) g0 g1
end SB
namespace SB
theorem closed_add {as : List Arc} {ms : List Int} {found : List (Int × Ent)} {left : List Int} {c : Int} {b : Ent} (C : Closed as ms found left) : Closed as ms (found ++ [(c, b)]) (left ++ [c]) := by
  intro pl hp hl st hs
  have hl' : pl ∉ left := fun h => hl (List.mem_append.mpr (.inl h))
  have hc : c ≠ pl := fun e => hl (List.mem_append.mpr (.inr (by rw [e]; exact List.mem_singleton.mpr rfl)))
  rw [look_app_ne hc] at hp
  obtain ⟨z, hz⟩ := Option.isSome_iff_exists.mp (C pl hp hl' st hs)
  rw [look_app_old hz]
  rfl
theorem some_add {found : List (Int × Ent)} {c v : Int} {b : Ent} (h : (look found v).isSome = true) : (look (found ++ [(c, b)]) v).isSome = true := by
  obtain ⟨z, hz⟩ := Option.isSome_iff_exists.mp h
  rw [look_app_old hz]
  rfl
theorem closed_one {as : List Arc} {ms : List Int} {s : Int} : Closed as ms [(s, none)] [s] := by
  intro pl hp hl
  rw [look_one] at hp
  split at hp
  · rename_i e
    exact absurd (List.mem_singleton.mpr e.symm) hl
  · cases hp
theorem stepsOf_rng {P : Int} {as : List Arc} {ms : List Int} {pl : Int} {st : Step} (ok : ∀ a ∈ as, ArcOk P a) (h : st ∈ stepsOf as ms pl) : 0 ≤ st.to ∧ st.to < P := by
  have o := (stepsOf_ok h).1
  have a := ok _ (nth_mem o.k0 o.k1)
  rcases o.ends with ⟨_, _, e⟩ | ⟨_, _, e⟩ <;> rw [← e]
  · exact ⟨a.t0, a.t1⟩
  · exact ⟨a.s0, a.s1⟩
end SB
namespace SB
structure GoodG (P : Int) (as : List Arc) (s g : Int) : Prop where
  look : LookOk P as
  ne : s ≠ g
  s0 : 0 ≤ s
  s1 : s < P
  g0 : 0 ≤ g
  g1 : g < P
  pos : ∀ a ∈ as, 0 ≤ a.r
theorem way_ne {as : List Arc} {s g : Int} {idx : Int → Nat} {sts : List Step} (h : Way as s idx g sts) (hne : s ≠ g) : 0 < sts.length := by
  cases h with
  | nil => exact absurd rfl hne
  | cons _ _ _ => simp
theorem aug_take {much : Int} {ms : List Int} {sts : List Step} {i : Nat} {st : Step} (h : sts[i]? = some st) : aug much ms (sts.take (i + 1)) = augOne much (aug much ms (sts.take i)) st := by
  unfold aug
  rw [List.take_add_one, h, List.foldl_append]
  rfl
end SB
namespace SB
theorem up_ext : ∀ {xs ys : List Int}, xs.Pairwise (· < ·) → ys.Pairwise (· < ·) → (∀ j, j ∈ xs ↔ j ∈ ys) → xs = ys
  | [], [], _, _, _ => rfl
  | [], y :: ys, _, _, h => absurd ((h y).mpr List.mem_cons_self) (by simp)
  | x :: xs, [], _, _, h => absurd ((h x).mp List.mem_cons_self) (by simp)
  | x :: xs, y :: ys, hx, hy, h => by
    obtain ⟨hx1, hx2⟩ := List.pairwise_cons.mp hx
    obtain ⟨hy1, hy2⟩ := List.pairwise_cons.mp hy
    have e : x = y := by
      rcases List.mem_cons.mp ((h x).mp List.mem_cons_self) with e | e
      · exact e
      · rcases List.mem_cons.mp ((h y).mpr List.mem_cons_self) with e2 | e2
        · exact e2.symm
        · have := hy1 x e
          have := hx1 y e2
          omega
    subst e
    rw [up_ext hx2 hy2 fun j => ⟨fun hj => ?_, fun hj => ?_⟩]
    · rcases List.mem_cons.mp ((h j).mp (List.mem_cons_of_mem _ hj)) with e | e
      · have := hx1 j hj
        omega
      · exact e
    · rcases List.mem_cons.mp ((h j).mpr (List.mem_cons_of_mem _ hj)) with e | e
      · have := hy1 j hj
        omega
      · exact e
theorem goal_ne {s r P : Int} (s0 : 0 ≤ s) (s1 : s < P) (r0 : 0 ≤ r) (r1 : r < P - 1) : s ≠ (s + 1 + r) % P := by
  by_cases h : s + 1 + r < P
  · rw [Int.emod_eq_of_lt (by omega) h]
    omega
  · have e : (s + 1 + r) % P = s + 1 + r - P := by
      have e1 : s + 1 + r = (s + 1 + r - P) + P * 1 := by omega
      rw [e1, Int.add_mul_emod_self_left, Int.emod_eq_of_lt (by omega) (by omega)]
      omega
    rw [e]
    omega
end SB
/-! giving rows their columns, plain -/
namespace SB
theorem nset_eq {α : Type} [Inhabited α] {L : List α} {i : Int} {v : α} (h0 : 0 ≤ i) (h : i < L.length) : nth (L.set i.toNat v) i = v := by
  have hl : i.toNat < (L.set i.toNat v).length := by rw [List.length_set]; omega
  unfold nth
  rw [List.getD_eq_getElem?_getD, List.getElem?_eq_getElem hl, List.getElem_set_self]
  rfl
theorem nset_ne {α : Type} [Inhabited α] {L : List α} {i j : Int} {v : α} (h : i.toNat ≠ j.toNat) : nth (L.set i.toNat v) j = nth L j := by
  unfold nth
  rw [List.getD_eq_getElem?_getD, List.getD_eq_getElem?_getD, List.getElem?_set_ne h]
def Bd (W j : Int) : Prop := 0 ≤ j ∧ j < W
theorem nset_at {α : Type} [Inhabited α] {L : List α} {W i j : Int} {v : α} (hl : (L.length : Int) = W) (hi : Bd W i) (hj : Bd W j) : nth (L.set i.toNat v) j = if i = j then v else nth L j := by
  obtain ⟨a, b⟩ := hi
  obtain ⟨a', b'⟩ := hj
  by_cases e : i = j
  · subst e
    rw [if_pos rfl]
    exact nset_eq a (by omega)
  · rw [if_neg e]
    exact nset_ne (by omega)
def co (c : List (List Int)) (i j : Int) : Int := nth (nth c i) j
def wide (c : List (List Int)) : Int := ((nth c 0).length : Nat)
structure TabOk (c : List (List Int)) : Prop where
  h0 : 0 < c.length
  le : (c.length : Int) ≤ wide c
  w8 : wide c ≤ 8
  rows : ∀ r ∈ c, (r.length : Int) = wide c
def gp (c : List (List Int)) (r q : List Int) (i j : Int) : Int := co c i j - nth r i - nth q j
/-- between two gifts: the first k rows have their columns -/
structure Half (c : List (List Int)) (k : Int) (r q : List Int) (o : List (Option Int)) : Prop where
  lr : r.length = c.length
  lq : (q.length : Int) = wide c
  lo : (o.length : Int) = wide c
  fair : ∀ i j, Bd k i → Bd (wide c) j → 0 ≤ gp c r q i j
  tight : ∀ i j, Bd (wide c) j → nth o j = some i → Bd k i ∧ gp c r q i j = 0
  inj : ∀ j j' i, Bd (wide c) j → Bd (wide c) j' → nth o j = some i → nth o j' = some i → j = j'
  all : ∀ i, Bd k i → ∃ j, Bd (wide c) j ∧ nth o j = some i
  neg : ∀ j, Bd (wide c) j → nth q j ≤ 0
  free : ∀ j, Bd (wide c) j → nth o j = none → nth q j = 0
/-- where a column's before leads -/
def Led (c : List (List Int)) (k : Int) (r q : List Int) (o bf : List (Option Int)) (l : List Int) (x e : Int) : Prop :=
  (nth bf x = none ∧ e = gp c r q k x) ∨ ∃ d ∈ l, ∃ i, nth bf x = some d ∧ nth o d = some i ∧ e = gp c r q i x
def Okc (c : List (List Int)) (k : Int) (r q : List Int) (o bf : List (Option Int)) : List Int → Prop
  | [] => True
  | x :: l => Okc c k r q o bf l ∧ x ∉ l ∧ Bd (wide c) x ∧ Led c k r q o bf l x 0
theorem Okc.nd {c : List (List Int)} {k : Int} {r q : List Int} {o bf : List (Option Int)} : ∀ {l : List Int}, Okc c k r q o bf l → l.Nodup
  | [], _ => List.nodup_nil
  | _ :: _, h => List.nodup_cons.mpr ⟨h.2.1, Okc.nd h.1⟩
theorem Okc.bd {c : List (List Int)} {k : Int} {r q : List Int} {o bf : List (Option Int)} : ∀ {l : List Int}, Okc c k r q o bf l → ∀ x ∈ l, Bd (wide c) x
  | [], _, x, h => (by cases h)
  | _ :: _, h, x, hx => by
    rcases List.mem_cons.mp hx with rfl | hx
    · exact h.2.2.1
    · exact Okc.bd h.1 x hx
theorem Okc.sub {c : List (List Int)} {k : Int} {r q : List Int} {o bf : List (Option Int)} : ∀ {a l : List Int}, Okc c k r q o bf (a ++ l) → Okc c k r q o bf l
  | [], _, h => h
  | _ :: _, _, h => Okc.sub h.1
theorem Okc.cong {c : List (List Int)} {k : Int} {r q r' q' : List Int} {o bf o' bf' : List (Option Int)} : ∀ {l : List Int}, Okc c k r q o bf l → (∀ x ∈ l, nth bf' x = nth bf x) → (∀ x ∈ l, nth o' x = nth o x) →
    (∀ x ∈ l, gp c r' q' k x = gp c r q k x) → (∀ x ∈ l, ∀ d ∈ l, ∀ i, nth o d = some i → gp c r' q' i x = gp c r q i x) → Okc c k r' q' o' bf' l
  | [], _, _, _, _, _ => trivial
  | x :: l, h, hb, ho, hk, hg => by
    obtain ⟨h1, h2, h3, h4⟩ := h
    refine ⟨Okc.cong h1 (fun y hy => hb y (List.mem_cons_of_mem _ hy)) (fun y hy => ho y (List.mem_cons_of_mem _ hy)) (fun y hy => hk y (List.mem_cons_of_mem _ hy)) (fun y hy d hd => hg y (List.mem_cons_of_mem _ hy) d (List.mem_cons_of_mem _ hd)), h2, h3, ?_⟩
    rcases h4 with ⟨a, b⟩ | ⟨d, hd, i, a, b, e⟩
    · exact .inl ⟨by rw [hb x (List.mem_cons_self ..)]; exact a, by rw [hk x (List.mem_cons_self ..)]; exact b⟩
    · exact .inr ⟨d, hd, i, by rw [hb x (List.mem_cons_self ..)]; exact a, by rw [ho d (List.mem_cons_of_mem _ hd)]; exact b, by rw [hg x (List.mem_cons_self ..) d (List.mem_cons_of_mem _ hd) i b]; exact e⟩
/-- while columns are handed on: the column x waits for its row -/
structure TurnI (c : List (List Int)) (k : Int) (r q : List Int) (o bf : List (Option Int)) (x : Int) (l : List Int) : Prop where
  lr : r.length = c.length
  lq : (q.length : Int) = wide c
  lo : (o.length : Int) = wide c
  lb : (bf.length : Int) = wide c
  fair : ∀ i j, Bd (k + 1) i → Bd (wide c) j → 0 ≤ gp c r q i j
  tight : ∀ i j, Bd (wide c) j → j ≠ x → nth o j = some i → Bd k i ∧ gp c r q i j = 0
  inj : ∀ j j' i, Bd (wide c) j → Bd (wide c) j' → j ≠ x → j' ≠ x → nth o j = some i → nth o j' = some i → j = j'
  all : ∀ i, Bd k i → ∃ j, Bd (wide c) j ∧ j ≠ x ∧ nth o j = some i
  neg : ∀ j, Bd (wide c) j → nth q j ≤ 0
  free : ∀ j, Bd (wide c) j → j ≠ x → nth o j = none → nth q j = 0
  ch : Okc c k r q o bf (x :: l)
theorem turn_end {c : List (List Int)} {k : Int} {r q : List Int} {o bf : List (Option Int)} {x : Int} {l : List Int} (k0 : 0 ≤ k) (T : TurnI c k r q o bf x l) (hb : nth bf x = none) : Half c (k + 1) r q (o.set x.toNat (some k)) := by
  have hx := T.ch.2.2.1
  have at' : ∀ j, Bd (wide c) j → nth (o.set x.toNat (some k)) j = if x = j then some k else nth o j := fun j hj => nset_at T.lo hx hj
  have hg : gp c r q k x = 0 := by
    rcases T.ch.2.2.2 with ⟨_, e⟩ | ⟨d, _, i, e, _⟩
    · exact e.symm
    · rw [hb] at e; cases e
  refine ⟨T.lr, T.lq, by rw [List.length_set]; exact T.lo, T.fair, ?_, ?_, ?_, T.neg, ?_⟩
  · intro i j hj h
    rw [at' j hj] at h
    by_cases e : x = j
    · rw [if_pos e] at h
      cases h
      subst e
      exact ⟨⟨k0, by omega⟩, hg⟩
    · rw [if_neg e] at h
      obtain ⟨⟨a, b⟩, b'⟩ := T.tight i j hj (fun z => e z.symm) h
      exact ⟨⟨a, by omega⟩, b'⟩
  · intro j j' i hj hj' h h'
    rw [at' j hj] at h
    rw [at' j' hj'] at h'
    by_cases e : x = j <;> by_cases e' : x = j'
    · omega
    · rw [if_pos e] at h
      rw [if_neg e'] at h'
      cases h
      have := (T.tight _ j' hj' (fun z => e' z.symm) h').1.2
      omega
    · rw [if_neg e] at h
      rw [if_pos e'] at h'
      cases h'
      have := (T.tight _ j hj (fun z => e z.symm) h).1.2
      omega
    · rw [if_neg e] at h
      rw [if_neg e'] at h'
      exact T.inj j j' i hj hj' (fun z => e z.symm) (fun z => e' z.symm) h h'
  · intro i hi
    by_cases e : i = k
    · exact ⟨x, hx, by rw [at' x hx, if_pos rfl, e]⟩
    · obtain ⟨j, hj, hne, h⟩ := T.all i ⟨hi.1, by have := hi.2; omega⟩
      exact ⟨j, hj, by rw [at' j hj, if_neg (fun z => hne z.symm)]; exact h⟩
  · intro j hj h
    rw [at' j hj] at h
    by_cases e : x = j
    · rw [if_pos e] at h; cases h
    · rw [if_neg e] at h
      exact T.free j hj (fun z => e z.symm) h
theorem turn_step {c : List (List Int)} {k : Int} {r q : List Int} {o bf : List (Option Int)} {x d : Int} {l : List Int} (T : TurnI c k r q o bf x l) (hb : nth bf x = some d) :
    Bd (wide c) d ∧ ∃ l', l'.length < l.length ∧ TurnI c k r q (o.set x.toNat (nth o d)) bf d l' := by
  have hx := T.ch.2.2.1
  have hxl := T.ch.2.1
  have at' : ∀ j, Bd (wide c) j → nth (o.set x.toNat (nth o d)) j = if x = j then nth o d else nth o j := fun j hj => nset_at T.lo hx hj
  rcases T.ch.2.2.2 with ⟨e, _⟩ | ⟨d', hd, i0, e, ho, hg⟩
  · rw [hb] at e; cases e
  · rw [hb] at e
    cases e
    have hdB := T.ch.1.bd d hd
    have hdx : d ≠ x := fun z => hxl (z ▸ hd)
    refine ⟨hdB, ?_⟩
    obtain ⟨a, l', e⟩ := List.append_of_mem hd
    have hs : Okc c k r q o bf (d :: l') := Okc.sub (a := a) (e ▸ T.ch.1)
    have hsub : ∀ y ∈ d :: l', y ∈ l := fun y hy => by rw [e]; exact List.mem_append_right _ hy
    refine ⟨l', by rw [e, List.length_append, List.length_cons]; omega, T.lr, T.lq, by rw [List.length_set]; exact T.lo, T.lb, T.fair, ?_, ?_, ?_, T.neg, ?_, ?_⟩
    · intro i j hj hne h
      rw [at' j hj] at h
      by_cases ej : x = j
      · rw [if_pos ej, ho] at h
        cases h
        subst ej
        exact ⟨(T.tight _ d hdB hdx ho).1, hg.symm⟩
      · rw [if_neg ej] at h
        exact T.tight i j hj (fun z => ej z.symm) h
    · intro j j' i hj hj' hne hne' h h'
      rw [at' j hj] at h
      rw [at' j' hj'] at h'
      by_cases ej : x = j <;> by_cases ej' : x = j'
      · omega
      · rw [if_pos ej] at h
        rw [if_neg ej'] at h'
        exact absurd (T.inj d j' i hdB hj' hdx (fun z => ej' z.symm) h h') (fun z => hne' z.symm)
      · rw [if_neg ej] at h
        rw [if_pos ej'] at h'
        exact absurd (T.inj d j i hdB hj hdx (fun z => ej z.symm) h' h) (fun z => hne z.symm)
      · rw [if_neg ej] at h
        rw [if_neg ej'] at h'
        exact T.inj j j' i hj hj' (fun z => ej z.symm) (fun z => ej' z.symm) h h'
    · intro i hi
      obtain ⟨j, hj, hne, h⟩ := T.all i hi
      by_cases ej : j = d
      · subst ej
        exact ⟨x, hx, fun z => hdx z.symm, by rw [at' x hx, if_pos rfl]; exact h⟩
      · exact ⟨j, hj, ej, by rw [at' j hj, if_neg (fun z => hne z.symm)]; exact h⟩
    · intro j hj hne h
      rw [at' j hj] at h
      by_cases ej : x = j
      · rw [if_pos ej, ho] at h; cases h
      · rw [if_neg ej] at h
        exact T.free j hj (fun z => ej z.symm) h
    · refine Okc.cong hs (fun _ _ => rfl) (fun y hy => ?_) (fun _ _ => rfl) (fun _ _ _ _ _ _ => rfl)
      have hyl := hsub y hy
      rw [at' y (T.ch.1.bd y hyl), if_neg (fun (z : x = y) => hxl (by rw [z]; exact hyl))]

/-- while one row seeks its column: ds are the columns looked at, the newest first; g tells that prices were raised -/
structure Mid (g : Prop) (c : List (List Int)) (k : Int) (r q : List Int) (o : List (Option Int)) (ls : List Int) (bf : List (Option Int)) (ds : List Int) : Prop where
  h : Half c k r q o
  ll : (ls.length : Int) = wide c
  lb : (bf.length : Int) = wide c
  fk : g → ∀ j, Bd (wide c) j → 0 ≤ gp c r q k j
  own : ∀ d ∈ ds, ∃ i, nth o d = some i
  lk : ∀ j, Bd (wide c) j → j ∉ ds → nth ls j ≤ gp c r q k j
  ld : ∀ j, Bd (wide c) j → j ∉ ds → ∀ d ∈ ds, ∀ i, nth o d = some i → nth ls j ≤ gp c r q i j
  led : ∀ j, Bd (wide c) j → j ∉ ds → Led c k r q o bf ds j (nth ls j)
  pos : g → ∀ j, Bd (wide c) j → j ∉ ds → 0 ≤ nth ls j
  ch : Okc c k r q o bf ds
theorem mid_first {c : List (List Int)} {k : Int} {r q : List Int} {o : List (Option Int)} {ls : List Int} {bf : List (Option Int)} (h : Half c k r q o) (ll : (ls.length : Int) = wide c) (hl : ∀ j, Bd (wide c) j → nth ls j = gp c r q k j)
    (lb : (bf.length : Int) = wide c) (hb : ∀ j, Bd (wide c) j → nth bf j = none) : Mid (([] : List Int) ≠ []) c k r q o ls bf [] :=
  ⟨h, ll, lb, fun z => absurd rfl z, fun d z => (by cases z), fun j hj _ => by rw [hl j hj]; exact Int.le_refl _, fun j _ _ d z => (by cases z), fun j hj _ => .inl ⟨hb j hj, hl j hj⟩, fun z => absurd rfl z, trivial⟩
/-- a price list, raised by much for the tree's rows -/
structure Raised (W much : Int) (X : Int → Prop) (a b : List Int) : Prop where
  len : b.length = a.length
  yes : ∀ i, Bd W i → X i → nth b i = nth a i + much
  no : ∀ i, Bd W i → ¬ X i → nth b i = nth a i
def Tree (k : Int) (o : List (Option Int)) (ds : List Int) (i : Int) : Prop := i = k ∨ ∃ d ∈ ds, nth o d = some i
theorem Half.bdH {c : List (List Int)} {k : Int} {r q : List Int} {o : List (Option Int)} (h : Half c k r q o) (hk : k < c.length) {i j : Int} (hj : Bd (wide c) j) (e : nth o j = some i) : Bd c.length i ∧ i < k := by
  obtain ⟨⟨a, b⟩, _⟩ := h.tight i j hj e
  exact ⟨⟨a, by omega⟩, b⟩
theorem raise_mid {g : Prop} {c : List (List Int)} {k : Int} {r q r' q' : List Int} {o : List (Option Int)} {ls ls' : List Int} {bf : List (Option Int)} {ds : List Int} {x : Int}
    (hk : Bd c.length k) (M : Mid g c k r q o ls bf ds) (hg : ds ≠ [] → g) (hx : Bd (wide c) x) (hn : x ∉ ds) (hm : ∀ j, Bd (wide c) j → j ∉ ds → nth ls x ≤ nth ls j)
    (hr : Raised c.length (nth ls x) (Tree k o ds) r r') (hq : Raised (wide c) (- nth ls x) (· ∈ ds) q q') (hl : Raised (wide c) (- nth ls x) (· ∉ ds) ls ls') : Mid True c k r' q' o ls' bf ds ∧ nth ls' x = 0 := by
  have dB := M.ch.bd
  have hk1 := hk.2
  -- the gaps
  have gk : ∀ j, Bd (wide c) j → j ∈ ds → gp c r' q' k j = gp c r q k j := fun j hj h => by
    unfold gp
    rw [hr.yes k hk (.inl rfl), hq.yes j hj h]
    omega
  have gk' : ∀ j, Bd (wide c) j → j ∉ ds → gp c r' q' k j = gp c r q k j - nth ls x := fun j hj h => by
    unfold gp
    rw [hr.yes k hk (.inl rfl), hq.no j hj h]
    omega
  have gd : ∀ d ∈ ds, ∀ i, nth o d = some i → ∀ j, Bd (wide c) j → j ∈ ds → gp c r' q' i j = gp c r q i j := fun d hd i e j hj h => by
    unfold gp
    rw [hr.yes i (M.h.bdH hk1 (dB d hd) e).1 (.inr ⟨d, hd, e⟩), hq.yes j hj h]
    omega
  have gd' : ∀ d ∈ ds, ∀ i, nth o d = some i → ∀ j, Bd (wide c) j → j ∉ ds → gp c r' q' i j = gp c r q i j - nth ls x := fun d hd i e j hj h => by
    unfold gp
    rw [hr.yes i (M.h.bdH hk1 (dB d hd) e).1 (.inr ⟨d, hd, e⟩), hq.no j hj h]
    omega
  have go : ∀ i, Bd k i → ¬ Tree k o ds i → ∀ j, Bd (wide c) j → j ∉ ds → gp c r' q' i j = gp c r q i j := fun i hi hT j hj h => by
    unfold gp
    rw [hr.no i ⟨hi.1, by have := hi.2; omega⟩ hT, hq.no j hj h]
  have go' : ∀ i, Bd k i → ¬ Tree k o ds i → ∀ j, Bd (wide c) j → j ∈ ds → gp c r' q' i j = gp c r q i j + nth ls x := fun i hi hT j hj h => by
    unfold gp
    rw [hr.no i ⟨hi.1, by have := hi.2; omega⟩ hT, hq.yes j hj h]
    omega
  have p0 : ds ≠ [] → 0 ≤ nth ls x := fun h => M.pos (hg h) x hx hn
  have ne : ∀ {d : Int}, d ∈ ds → ds ≠ [] := fun hd e => by rw [e] at hd; cases hd
  have ls0 : ∀ j, Bd (wide c) j → j ∉ ds → nth ls' j = nth ls j - nth ls x := fun j hj h => by
    rw [hl.yes j hj h]
    omega
  have hx0 : nth ls' x = 0 := by rw [ls0 x hx hn]; omega
  refine ⟨⟨⟨?_, ?_, M.h.lo, ?_, ?_, M.h.inj, M.h.all, ?_, ?_⟩, by rw [hl.len]; exact M.ll, M.lb, fun _ j hj => ?_, M.own, fun j hj h => ?_, fun j hj h d hd i e => ?_, fun j hj h => ?_, fun _ j hj h => ?_, ?_⟩, hx0⟩
  · rw [hr.len]; exact M.h.lr
  · rw [hq.len]; exact M.h.lq
  · intro i j hi hj
    have f := M.h.fair i j hi hj
    by_cases hT : Tree k o ds i
    · rcases hT with rfl | ⟨d, hd, e⟩
      · have := hi.2; omega
      · by_cases h : j ∈ ds
        · rw [gd d hd i e j hj h]; exact f
        · rw [gd' d hd i e j hj h]
          have := M.ld j hj h d hd i e
          have := hm j hj h
          omega
    · by_cases h : j ∈ ds
      · rw [go' i hi hT j hj h]
        have := p0 (ne h)
        omega
      · rw [go i hi hT j hj h]; exact f
  · intro i j hj e
    obtain ⟨hi, t⟩ := M.h.tight i j hj e
    refine ⟨hi, ?_⟩
    by_cases h : j ∈ ds
    · rw [gd j h i e j hj h]; exact t
    · rw [go i hi ?_ j hj h]
      · exact t
      · rintro (rfl | ⟨d, hd, e'⟩)
        · have := hi.2; omega
        · exact h (M.h.inj j d i hj (dB d hd) e e' ▸ hd)
  · intro j hj
    have n := M.h.neg j hj
    by_cases h : j ∈ ds
    · rw [hq.yes j hj h]
      have := p0 (ne h)
      omega
    · rw [hq.no j hj h]; exact n
  · intro j hj e
    by_cases h : j ∈ ds
    · obtain ⟨i, e'⟩ := M.own j h
      rw [e] at e'; cases e'
    · rw [hq.no j hj h]; exact M.h.free j hj e
  · by_cases h : j ∈ ds
    · rw [gk j hj h]; exact M.fk (hg (ne h)) j hj
    · rw [gk' j hj h]
      have := M.lk j hj h
      have := hm j hj h
      omega
  · rw [ls0 j hj h, gk' j hj h]
    have := M.lk j hj h
    omega
  · rw [ls0 j hj h, gd' d hd i e j hj h]
    have := M.ld j hj h d hd i e
    omega
  · rw [ls0 j hj h]
    rcases M.led j hj h with ⟨a, b⟩ | ⟨d, hd, i, a, b, e⟩
    · exact .inl ⟨a, by rw [gk' j hj h]; omega⟩
    · exact .inr ⟨d, hd, i, a, b, by rw [gd' d hd i b j hj h]; omega⟩
  · rw [ls0 j hj h]
    have := hm j hj h
    omega
  · exact M.ch.cong (fun _ _ => rfl) (fun _ _ => rfl) (fun y hy => gk y (dB y hy) hy) (fun y hy d hd i e => gd d hd i e y (dB y hy) hy)
theorem mid_turn {c : List (List Int)} {k : Int} {r q : List Int} {o : List (Option Int)} {ls : List Int} {bf : List (Option Int)} {ds : List Int} {x : Int}
    (M : Mid True c k r q o ls bf ds) (hx : Bd (wide c) x) (hn : x ∉ ds) (h0 : nth ls x = 0) (ho : nth o x = none) : TurnI c k r q o bf x ds := by
  refine ⟨M.h.lr, M.h.lq, M.h.lo, M.lb, ?_, fun i j hj _ e => M.h.tight i j hj e, fun j j' i hj hj' _ _ => M.h.inj j j' i hj hj', ?_, M.h.neg, fun j hj _ => M.h.free j hj, M.ch, hn, hx, ?_⟩
  · intro i j hi hj
    by_cases e : i = k
    · subst e; exact M.fk trivial j hj
    · exact M.h.fair i j ⟨hi.1, by have := hi.2; omega⟩ hj
  · intro i hi
    obtain ⟨j, hj, e⟩ := M.h.all i hi
    exact ⟨j, hj, (fun z => by rw [z, ho] at e; cases e), e⟩
  · have := M.led x hx hn
    rw [h0] at this
    exact this
/-- one column more is looked at: what its row's gaps make of least and before -/
structure Newer (c : List (List Int)) (r q : List Int) (ds : List Int) (i x : Int) (ls ls' : List Int) (bf bf' : List (Option Int)) : Prop where
  ll : ls'.length = ls.length
  lb : bf'.length = bf.length
  old : ∀ j, Bd (wide c) j → j ∈ ds → nth ls' j = nth ls j ∧ nth bf' j = nth bf j
  new : ∀ j, Bd (wide c) j → j ∉ ds → (gp c r q i j < nth ls j → nth ls' j = gp c r q i j ∧ nth bf' j = some x) ∧ (¬ gp c r q i j < nth ls j → nth ls' j = nth ls j ∧ nth bf' j = nth bf j)
theorem mid_next {c : List (List Int)} {k : Int} {r q : List Int} {o : List (Option Int)} {ls ls' : List Int} {bf bf' : List (Option Int)} {ds : List Int} {x i : Int}
    (M : Mid True c k r q o ls bf ds) (hx : Bd (wide c) x) (hn : x ∉ ds) (h0 : nth ls x = 0) (ho : nth o x = some i) (N : Newer c r q (x :: ds) i x ls ls' bf bf') : Mid True c k r q o ls' bf' (x :: ds) := by
  have dB := M.ch.bd
  have hi := (M.h.tight i x hx ho).1
  have nin : ∀ {j : Int}, j ∉ x :: ds → j ∉ ds := fun h z => h (List.mem_cons_of_mem _ z)
  have le : ∀ j, Bd (wide c) j → j ∉ x :: ds → nth ls' j ≤ nth ls j ∧ nth ls' j ≤ gp c r q i j := fun j hj h => by
    obtain ⟨a, b⟩ := N.new j hj h
    by_cases e : gp c r q i j < nth ls j
    · have := (a e).1; omega
    · have := (b e).1; omega
  have hL := M.led x hx hn
  rw [h0] at hL
  refine ⟨M.h, by rw [N.ll]; exact M.ll, by rw [N.lb]; exact M.lb, M.fk, ?_, ?_, ?_, ?_, ?_, ?_⟩
  · intro d hd
    rcases List.mem_cons.mp hd with rfl | hd
    · exact ⟨i, ho⟩
    · exact M.own d hd
  · intro j hj h
    have := M.lk j hj (nin h)
    have := (le j hj h).1
    omega
  · intro j hj h d hd i' e
    rcases List.mem_cons.mp hd with rfl | hd
    · rw [ho] at e
      cases e
      exact (le j hj h).2
    · have := M.ld j hj (nin h) d hd i' e
      have := (le j hj h).1
      omega
  · intro j hj h
    obtain ⟨a, b⟩ := N.new j hj h
    by_cases e : gp c r q i j < nth ls j
    · exact .inr ⟨x, List.mem_cons_self .., i, (a e).2, ho, (a e).1⟩
    · obtain ⟨b1, b2⟩ := b e
      rcases M.led j hj (nin h) with ⟨u, v⟩ | ⟨d, hd, i', u, v, w⟩
      · exact .inl ⟨by rw [b2]; exact u, by rw [b1]; exact v⟩
      · exact .inr ⟨d, List.mem_cons_of_mem _ hd, i', by rw [b2]; exact u, v, by rw [b1]; exact w⟩
  · intro _ j hj h
    obtain ⟨a, b⟩ := N.new j hj h
    by_cases e : gp c r q i j < nth ls j
    · rw [(a e).1]
      exact M.h.fair i j hi hj
    · rw [(b e).1]
      exact M.pos trivial j hj (nin h)
  · have h' : Okc c k r q o bf (x :: ds) := ⟨M.ch, hn, hx, hL⟩
    exact h'.cong (fun y hy => (N.old y (h'.bd y hy) hy).2) (fun _ _ => rfl) (fun _ _ => rfl) (fun _ _ _ _ _ _ => rfl)
/-- fewer columns are looked at than rows have theirs -/
theorem ds_len {g : Prop} {c : List (List Int)} {k : Int} {r q : List Int} {o : List (Option Int)} {ls : List Int} {bf : List (Option Int)} {ds : List Int} (M : Mid g c k r q o ls bf ds) : ds.length ≤ k.toNat := by
  have h : (ds.map fun d => (nth o d).getD 0).length ≤ k.toNat := by
    refine nodup_len ?_ ?_
    · rw [List.Nodup, List.pairwise_map]
      refine M.ch.nd.imp_of_mem fun {a b} ha hb hab e => hab ?_
      obtain ⟨i, ea⟩ := M.own a ha
      obtain ⟨i', eb⟩ := M.own b hb
      rw [ea, eb] at e
      have e' : i = i' := e
      subst e'
      exact M.h.inj a b i (M.ch.bd a ha) (M.ch.bd b hb) ea eb
    · intro z hz
      obtain ⟨d, hd, rfl⟩ := List.mem_map.mp hz
      obtain ⟨i, e⟩ := M.own d hd
      rw [e]
      exact (M.h.tight i d (M.ch.bd d hd) e).1
  rw [List.length_map] at h
  exact h
theorem free_ex {W : Int} {ds : List Int} (h : (ds.length : Int) < W) : ∃ j, Bd W j ∧ j ∉ ds := by
  refine Classical.byContradiction fun hc => ?_
  have hs : ((List.range W.toNat).map fun k : Nat => (k : Int)) ⊆ ds := fun x hx => by
    obtain ⟨k, hk, rfl⟩ := List.mem_map.mp hx
    rw [List.mem_range] at hk
    exact Classical.byContradiction fun hn => hc ⟨k, ⟨by omega, by omega⟩, hn⟩
  have nd : ((List.range W.toNat).map fun k : Nat => (k : Int)).Nodup := by
    rw [List.Nodup, List.pairwise_map]
    exact List.nodup_range.imp fun h e => h (by omega)
  have := nodup_sub nd hs
  rw [List.length_map, List.length_range] at this
  omega

/-! ### raising -/
def addAt (xs : List Int) (i d : Int) : List Int := xs.set i.toNat (nth xs i + d)
def ow (o : List (Option Int)) (d : Int) : Int := (nth o d).getD 0
theorem addAt_len {xs : List Int} {i d : Int} : (addAt xs i d).length = xs.length := List.length_set
theorem fold_len {d : Int} : ∀ {js xs : List Int}, (js.foldl (fun a j => addAt a j d) xs).length = xs.length
  | [], _ => rfl
  | _ :: js, _ => by rw [List.foldl_cons, fold_len, addAt_len]
theorem raised_fold {W d : Int} : ∀ {js xs : List Int}, (xs.length : Int) = W → js.Nodup → (∀ j ∈ js, Bd W j) → Raised W d (· ∈ js) xs (js.foldl (fun a j => addAt a j d) xs)
  | [], xs, _, _, _ => ⟨rfl, fun i _ h => (by cases h), fun _ _ _ => rfl⟩
  | j :: js, xs, hl, nd, hb => by
    obtain ⟨n1, n2⟩ := List.nodup_cons.mp nd
    have R := raised_fold (d := d) (js := js) (xs := addAt xs j d) (by rw [addAt_len]; exact hl) n2 (fun z hz => hb z (List.mem_cons_of_mem _ hz))
    have hj := hb j (List.mem_cons_self ..)
    have at' : ∀ i, Bd W i → nth (addAt xs j d) i = if j = i then nth xs j + d else nth xs i := fun i hi => nset_at hl hj hi
    refine ⟨fold_len, fun i hi h => ?_, fun i hi h => ?_⟩
    · rw [List.foldl_cons]
      by_cases e : i ∈ js
      · rw [R.yes i hi e, at' i hi, if_neg (fun (z : j = i) => n1 (by rw [z]; exact e))]
      · rcases List.mem_cons.mp h with rfl | h
        · rw [R.no _ hi e, at' _ hi, if_pos rfl]
        · exact absurd h e
    · rw [List.foldl_cons]
      have e : i ∉ js := fun z => h (List.mem_cons_of_mem _ z)
      rw [R.no i hi e, at' i hi, if_neg (fun (z : j = i) => h (by rw [z]; exact List.mem_cons_self ..))]
theorem Raised.imp {W d : Int} {X Y : Int → Prop} {a b : List Int} (R : Raised W d X a b) (h : ∀ i, Bd W i → (Y i ↔ X i)) : Raised W d Y a b :=
  ⟨R.len, fun i hi y => R.yes i hi ((h i hi).mp y), fun i hi y => R.no i hi fun z => y ((h i hi).mpr z)⟩
theorem raised_rows {g : Prop} {c : List (List Int)} {k d : Int} {r q : List Int} {o : List (Option Int)} {ls : List Int} {bf : List (Option Int)} {ds : List Int} (hk : Bd c.length k) (M : Mid g c k r q o ls bf ds) :
    Raised c.length d (Tree k o ds) r ((ds.reverse.map (ow o)).foldl (fun a j => addAt a j d) (addAt r k d)) := by
  have dB := M.ch.bd
  have how : ∀ x ∈ ds, nth o x = some (ow o x) ∧ Bd k (ow o x) := fun x hx => by
    obtain ⟨i, e⟩ := M.own x hx
    have : ow o x = i := by unfold ow; rw [e]; rfl
    rw [this]
    exact ⟨e, (M.h.tight i x (dB x hx) e).1⟩
  have hk2 := hk.2
  have R := raised_fold (W := c.length) (d := d) (js := k :: ds.reverse.map (ow o)) (xs := r) (by rw [M.h.lr]) ?_ ?_
  · rw [List.foldl_cons] at R
    refine R.imp fun i hi => ?_
    rw [List.mem_cons, List.mem_map]
    constructor
    · rintro (e | ⟨x, hx, e⟩)
      · exact .inl e
      · refine .inr ⟨x, List.mem_reverse.mpr hx, ?_⟩
        have := (how x hx).1
        rw [e] at this
        exact (Option.some.inj this).symm
    · rintro (e | ⟨x, hx, e⟩)
      · exact .inl e
      · have hx' := List.mem_reverse.mp hx
        exact .inr ⟨x, hx', by rw [(how x hx').1, e]⟩
  · refine List.nodup_cons.mpr ⟨fun h => ?_, ?_⟩
    · obtain ⟨x, hx, e⟩ := List.mem_map.mp h
      have := (how x (List.mem_reverse.mp hx)).2.2
      omega
    · rw [List.map_reverse]
      refine (List.reverse_perm _).nodup_iff.mpr ?_
      rw [List.Nodup, List.pairwise_map]
      refine M.ch.nd.imp_of_mem fun {a b} ha hb hab e => hab ?_
      exact M.h.inj a b _ (dB a ha) (dB b hb) (how a ha).1 (e ▸ (how b hb).1)
  · intro j hj
    rcases List.mem_cons.mp hj with rfl | hj
    · exact hk
    · obtain ⟨x, hx, rfl⟩ := List.mem_map.mp hj
      have := (how x (List.mem_reverse.mp hx)).2
      exact ⟨this.1, by have := this.2; omega⟩
theorem raised_cols {g : Prop} {c : List (List Int)} {k d : Int} {r q : List Int} {o : List (Option Int)} {ls : List Int} {bf : List (Option Int)} {ds : List Int} (M : Mid g c k r q o ls bf ds) :
    Raised (wide c) d (· ∈ ds) q (ds.reverse.foldl (fun a j => addAt a j d) q) :=
  (raised_fold M.h.lq ((List.reverse_perm _).nodup_iff.mpr M.ch.nd) fun j hj => M.ch.bd j (List.mem_reverse.mp hj)).imp fun i _ => by rw [List.mem_reverse]
/-! ### what is handed back -/
structure GiveOk (c : List (List Int)) (f r q : List Int) : Prop where
  lf : f.length = c.length
  lr : r.length = c.length
  lq : (q.length : Int) = wide c
  rng : ∀ j ∈ f, Bd (wide c) j
  nd : f.Nodup
  fair : ∀ i j, Bd c.length i → Bd (wide c) j → nth r i + nth q j ≤ co c i j
  tight : ∀ i, Bd c.length i → nth r i + nth q (nth f i) = co c i (nth f i)
  neg : ∀ p ∈ q, p ≤ 0
  free : ∀ j, Bd (wide c) j → j ∉ f → nth q j = 0
theorem mem_nth {α : Type} [Inhabited α] {xs : List α} {x : α} (h : x ∈ xs) : ∃ i : Int, Bd xs.length i ∧ nth xs i = x := by
  obtain ⟨i, hi, e⟩ := List.mem_iff_getElem.mp h
  exact ⟨i, ⟨by omega, by omega⟩, nth_nat (by rw [List.getElem?_eq_getElem hi, e])⟩
theorem give_of {c : List (List Int)} {f r q : List Int} {o : List (Option Int)} (h : Half c c.length r q o) (lf : f.length = c.length) (hf : ∀ i, Bd c.length i → Bd (wide c) (nth f i) ∧ nth o (nth f i) = some i) : GiveOk c f r q := by
  have hm : ∀ j ∈ f, ∃ i, Bd c.length i ∧ nth f i = j := fun j hj => by
    obtain ⟨i, hi, e⟩ := mem_nth hj
    rw [lf] at hi
    exact ⟨i, hi, e⟩
  refine ⟨lf, h.lr, h.lq, fun j hj => ?_, ?_, fun i j hi hj => ?_, fun i hi => ?_, fun p hp => ?_, fun j hj hn => ?_⟩
  · obtain ⟨i, hi, rfl⟩ := hm j hj
    exact (hf i hi).1
  · rw [List.Nodup, List.pairwise_iff_getElem]
    intro a b ha hb hab e
    have ea : nth f (a : Int) = f[a] := nth_nat (List.getElem?_eq_getElem ha)
    have eb : nth f (b : Int) = f[b] := nth_nat (List.getElem?_eq_getElem hb)
    have h1 := (hf (a : Int) ⟨by omega, by omega⟩).2
    have h2 := (hf (b : Int) ⟨by omega, by omega⟩).2
    rw [ea, e, ← eb, h2] at h1
    have := Option.some.inj h1
    omega
  · have := h.fair i j hi hj
    unfold gp at this
    omega
  · obtain ⟨a, b⟩ := hf i hi
    have := (h.tight i _ a b).2
    unfold gp at this
    omega
  · obtain ⟨i, hi, rfl⟩ := mem_nth hp
    rw [h.lq] at hi
    exact h.neg i hi
  · refine h.free j hj ?_
    cases e : nth o j with
    | none => rfl
    | some i =>
      have hi := (h.tight i j hj e).1
      obtain ⟨a, b⟩ := hf i hi
      have hmem : nth f i ∈ f := nth_mem hi.1 (by rw [lf]; exact hi.2)
      rw [h.inj j (nth f i) i hj a e b] at hn
      exact absurd hmem hn
/-! ### the cheapest of all ways -/
def costF (c : List (List Int)) : Int → List Int → Int
  | _, [] => 0
  | row, j :: f => co c row j + costF c (row + 1) f
structure Asg (c : List (List Int)) (row : Int) (used f : List Int) : Prop where
  len : (f.length : Int) = c.length - row
  bd : ∀ j ∈ f, Bd (wide c) j
  nd : f.Nodup
  no : ∀ j ∈ f, j ∉ used
structure IsBest (c : List (List Int)) (row : Int) (used : List Int) (m : Int) : Prop where
  ex : ∃ f, Asg c row used f ∧ costF c row f = m
  le : ∀ f, Asg c row used f → m ≤ costF c row f
theorem best_end {c : List (List Int)} {used : List Int} : IsBest c c.length used 0 := by
  have hn : ∀ f, Asg c c.length used f → f = [] := fun f A => List.eq_nil_of_length_eq_zero (by have := A.len; omega)
  exact ⟨⟨[], ⟨by simp, fun j h => (by cases h), List.nodup_nil, fun j h => (by cases h)⟩, rfl⟩, fun f A => by rw [hn f A]; exact Int.le_refl _⟩
/-- the first n columns tried -/
structure Tried (c : List (List Int)) (row : Int) (used : List Int) (n : Int) (o : Option Int) : Prop where
  non : o = none → ∀ j, Bd n j → j ∈ used
  ex : ∀ m, o = some m → ∃ f, Asg c row used f ∧ costF c row f = m
  le : ∀ m, o = some m → ∀ f, Asg c row used f → nth f 0 < n → m ≤ costF c row f
theorem tried_zero {c : List (List Int)} {row : Int} {used : List Int} : Tried c row used 0 none :=
  ⟨fun _ j h => by have := h.1; have := h.2; omega, fun m h => (by cases h), fun m h => (by cases h)⟩
theorem asg_cons {c : List (List Int)} {row j : Int} {used f : List Int} : Asg c row used (j :: f) ↔ Bd (wide c) j ∧ j ∉ used ∧ Asg c (row + 1) (used ++ [j]) f := by
  constructor
  · intro A
    obtain ⟨n1, n2⟩ := List.nodup_cons.mp A.nd
    refine ⟨A.bd j (List.mem_cons_self ..), A.no j (List.mem_cons_self ..), by have := A.len; rw [List.length_cons] at this; omega, fun z hz => A.bd z (List.mem_cons_of_mem _ hz), n2, fun z hz h => ?_⟩
    rcases List.mem_append.mp h with h | h
    · exact A.no z (List.mem_cons_of_mem _ hz) h
    · rw [List.mem_singleton] at h
      exact n1 (h ▸ hz)
  · rintro ⟨hb, hn, A⟩
    refine ⟨by have := A.len; rw [List.length_cons]; omega, fun z hz => ?_, List.nodup_cons.mpr ⟨fun h => A.no j h (by simp), A.nd⟩, fun z hz => ?_⟩
    · rcases List.mem_cons.mp hz with rfl | hz
      · exact hb
      · exact A.bd z hz
    · rcases List.mem_cons.mp hz with rfl | hz
      · exact hn
      · exact fun h => A.no z hz (List.mem_append_left _ h)
theorem asg_ne {c : List (List Int)} {row : Int} {used f : List Int} (A : Asg c row used f) (hr : row < c.length) : ∃ j f', f = j :: f' := by
  cases f with
  | nil => have := A.len; simp at this; omega
  | cons j f' => exact ⟨j, f', rfl⟩
theorem head0 {j : Int} {f : List Int} : nth (j :: f) 0 = j := rfl
theorem tried_skip {c : List (List Int)} {row n : Int} {used : List Int} {o : Option Int} (hr : row < c.length) (T : Tried c row used n o) (hn : n ∈ used) : Tried c row used (n + 1) o :=
  ⟨fun e j h => if z : j = n then z ▸ hn else T.non e j ⟨h.1, by have := h.2; omega⟩, T.ex, fun m e f A h => by
    obtain ⟨j, f', rfl⟩ := asg_ne A hr
    rw [head0] at h
    have : j ≠ n := fun z => A.no j (List.mem_cons_self ..) (z ▸ hn)
    exact T.le m e _ A (by rw [head0]; omega)⟩
theorem tried_take {c : List (List Int)} {row n m : Int} {used : List Int} {o : Option Int} (hr : row < c.length) (h0 : Bd (wide c) n) (T : Tried c row used n o) (hn : n ∉ used) (B : IsBest c (row + 1) (used ++ [n]) m)
    (ho : ∀ y, o = some y → co c row n + m < y) : Tried c row used (n + 1) (some (co c row n + m)) := by
  obtain ⟨f0, A0, e0⟩ := B.ex
  refine ⟨fun e => (by cases e), fun y e => ?_, fun y e f A h => ?_⟩
  · cases e
    exact ⟨n :: f0, asg_cons.mpr ⟨h0, hn, A0⟩, by rw [costF, e0]⟩
  · cases e
    obtain ⟨j, f', rfl⟩ := asg_ne A hr
    rw [head0] at h
    by_cases z : j = n
    · subst z
      rw [costF]
      have := B.le f' (asg_cons.mp A).2.2
      omega
    · cases o with
      | none => exact absurd (T.non rfl j ⟨((asg_cons.mp A).1).1, by omega⟩) (asg_cons.mp A).2.1
      | some y =>
        have := ho y rfl
        have := T.le y rfl _ A (by rw [head0]; omega)
        omega
theorem tried_keep {c : List (List Int)} {row n m y : Int} {used : List Int} (hr : row < c.length) (T : Tried c row used n (some y)) (B : IsBest c (row + 1) (used ++ [n]) m) (ho : ¬ co c row n + m < y) : Tried c row used (n + 1) (some y) := by
  refine ⟨fun e => (by cases e), T.ex, fun y' e f A h => ?_⟩
  cases e
  obtain ⟨j, f', rfl⟩ := asg_ne A hr
  rw [head0] at h
  by_cases z : j = n
  · subst z
    rw [costF]
    have := B.le f' (asg_cons.mp A).2.2
    omega
  · exact T.le y rfl _ A (by rw [head0]; omega)
theorem tried_end {c : List (List Int)} {row : Int} {used : List Int} {o : Option Int} (hr : row < c.length) (hu : (used.length : Int) < wide c) (T : Tried c row used (wide c) o) : ∃ m, o = some m ∧ IsBest c row used m := by
  cases o with
  | none =>
    obtain ⟨j, hj, hn⟩ := free_ex hu
    exact absurd (T.non rfl j hj) hn
  | some m =>
    refine ⟨m, rfl, T.ex m rfl, fun f A => T.le m rfl f A ?_⟩
    obtain ⟨j, f', rfl⟩ := asg_ne A hr
    exact ((asg_cons.mp A).1).2
/-! ### the prices show that it is cheapest -/
theorem costF_sum {c : List (List Int)} : ∀ {f : List Int} {row : Int}, costF c row f = ((List.range f.length).map fun k : Nat => co c (row + k) (nth f (k : Int))).sum
  | [], _ => rfl
  | j :: f, row => by
    rw [costF, costF_sum, List.length_cons, List.range_succ_eq_map, List.map_cons, List.map_map, List.sum_cons]
    congr 1
    · show _ = co c (row + 0) j
      rw [Int.add_zero]
    · congr 1
      refine List.map_congr_left fun k _ => ?_
      have e : nth (j :: f) (((k + 1 : Nat)) : Int) = nth f (k : Int) := rfl
      show _ = co c (row + ((k + 1 : Nat) : Int)) (nth (j :: f) (((k + 1 : Nat)) : Int))
      rw [e]
      congr 1
      omega
def rowsF (r : List Int) : Int → Nat → Int
  | _, 0 => 0
  | row, n + 1 => nth r row + rowsF r (row + 1) n
theorem cost_ge {c : List (List Int)} {r q : List Int} (fair : ∀ i j, Bd c.length i → Bd (wide c) j → nth r i + nth q j ≤ co c i j) : ∀ {f : List Int} {row : Int}, 0 ≤ row → row + f.length ≤ c.length → (∀ j ∈ f, Bd (wide c) j) → rowsF r row f.length + (f.map (nth q)).sum ≤ costF c row f
  | [], _, _, _, _ => by simp [rowsF, costF]
  | j :: f, row, h0, h1, hb => by
    rw [List.length_cons] at h1
    have := cost_ge fair (f := f) (row := row + 1) (by omega) (by omega) (fun z hz => hb z (List.mem_cons_of_mem _ hz))
    have := fair row j ⟨h0, by omega⟩ (hb j (List.mem_cons_self ..))
    rw [List.length_cons, rowsF, costF, List.map_cons, List.sum_cons]
    omega
theorem cost_eq {c : List (List Int)} {r q : List Int} : ∀ {f : List Int} {row : Int}, (∀ k : Nat, k < f.length → nth r (row + k) + nth q (nth f (k : Int)) = co c (row + k) (nth f (k : Int))) → costF c row f = rowsF r row f.length + (f.map (nth q)).sum
  | [], _, _ => by simp [rowsF, costF]
  | j :: f, row, h => by
    have h1 := cost_eq (c := c) (r := r) (q := q) (f := f) (row := row + 1) (fun k hk => by
      have := h (k + 1) (by rw [List.length_cons]; omega)
      have e : nth (j :: f) (((k + 1 : Nat)) : Int) = nth f (k : Int) := rfl
      rw [e] at this
      have e2 : row + 1 + (k : Int) = row + ((k + 1 : Nat) : Int) := by omega
      rw [e2]
      exact this)
    have h2 := h 0 (by rw [List.length_cons]; omega)
    have e : nth (j :: f) ((0 : Nat) : Int) = j := rfl
    have e2 : row + ((0 : Nat) : Int) = row := by omega
    rw [e, e2] at h2
    rw [List.length_cons, rowsF, costF, List.map_cons, List.sum_cons, h1]
    omega
theorem sum_perm {a b : List Int} (h : a.Perm b) : a.sum = b.sum := by
  induction h with
  | nil => rfl
  | cons x _ ih => rw [List.sum_cons, List.sum_cons, ih]
  | swap x y l => rw [List.sum_cons, List.sum_cons, List.sum_cons, List.sum_cons]; omega
  | trans _ _ h1 h2 => rw [h1, h2]
theorem sum_neg {q : Int → Int} : ∀ {g : List Int}, (∀ j ∈ g, q j ≤ 0) → (g.map q).sum ≤ 0
  | [], _ => Int.le_refl _
  | j :: g, h => by
    have := sum_neg (g := g) fun z hz => h z (List.mem_cons_of_mem _ hz)
    have := h j (List.mem_cons_self ..)
    rw [List.map_cons, List.sum_cons]
    omega
theorem sum_ge {q : Int → Int} : ∀ {f g : List Int}, f.Nodup → (∀ j ∈ g, q j ≤ 0) → (∀ j ∈ f, j ∉ g → q j = 0) → (g.map q).sum ≤ (f.map q).sum
  | [], g, _, h, _ => sum_neg h
  | j :: f, g, nd, h, h0 => by
    obtain ⟨n1, n2⟩ := List.nodup_cons.mp nd
    by_cases e : j ∈ g
    · have p := (List.perm_cons_erase e).map q
      rw [sum_perm p, List.map_cons, List.sum_cons, List.map_cons, List.sum_cons]
      have := sum_ge (f := f) (g := g.erase j) n2 (fun z hz => h z (List.mem_of_mem_erase hz)) (fun z hz hn => h0 z (List.mem_cons_of_mem _ hz) fun hg => hn ((List.mem_erase_of_ne (fun (w : z = j) => n1 (by rw [← w]; exact hz))).mpr hg))
      omega
    · rw [List.map_cons, List.sum_cons, h0 j (List.mem_cons_self ..) e]
      have := sum_ge (f := f) (g := g) n2 h (fun z hz => h0 z (List.mem_cons_of_mem _ hz))
      omega
theorem give_best {c : List (List Int)} {f r q : List Int} {m : Int} (G : GiveOk c f r q) (B : IsBest c 0 [] m) : ((List.range c.length).map fun k : Nat => co c (k : Int) (nth f (k : Int))).sum = m := by
  have hq : ∀ j ∈ f, nth q j ≤ 0 := fun j hj => by
    have hb := G.rng j hj
    exact G.neg _ (nth_mem hb.1 (by rw [G.lq]; exact hb.2))
  have e1 : costF c 0 f = ((List.range c.length).map fun k : Nat => co c (k : Int) (nth f (k : Int))).sum := by
    rw [costF_sum, G.lf]
    congr 1
    refine List.map_congr_left fun k _ => ?_
    rw [Int.zero_add]
  have A : Asg c 0 [] f := ⟨by rw [G.lf]; omega, G.rng, G.nd, fun j _ h => (by cases h)⟩
  have e2 := cost_eq (c := c) (r := r) (q := q) (f := f) (row := 0) (fun k hk => by
    rw [Int.zero_add]
    exact G.tight k ⟨by omega, by rw [G.lf] at hk; omega⟩)
  obtain ⟨g, Ag, eg⟩ := B.ex
  have lg : g.length = c.length := by have := Ag.len; omega
  have e3 := cost_ge (c := c) (r := r) (q := q) G.fair (f := g) (row := 0) (by omega) (by omega) Ag.bd
  have e4 := sum_ge (q := nth q) (f := g) (g := f) Ag.nd hq (fun j hj hn => G.free j (Ag.bd j hj) hn)
  have := B.le f A
  rw [G.lf] at e2
  rw [lg] at e3
  rw [← e1]
  omega
end SB
/-! tables as data -/
namespace SB
open PySem PySem.Spec PyProof.Rows L2
abbrev rowD (r : List Int) : PyData := .list (r.map PyData.int)
abbrev tabD (c : List (List Int)) : PyData := .list (c.map rowD)
theorem shp_row (r : List Int) : Shp 62 (rowD r) := (shp_list (n := 0) fun d hd => by
  obtain ⟨i, _, rfl⟩ := List.mem_map.mp hd
  exact shp_int _).mono (by decide)
theorem shp_tab (c : List (List Int)) : Shp 63 (tabD c) := shp_list fun d hd => by
  obtain ⟨i, _, rfl⟩ := List.mem_map.mp hd
  exact shp_row _
/-- the fields of a giver -/
abbrev gFs (x : V) (W : Int) (r q o : Addr) : List (Str × V) := [("costs", x), ("wide", .int W), ("rows", .ref r), ("columns", .ref q), ("owner", .ref o)]
section
variable {K : PySem.W.Frag} {S H : Hp} {O : List (Addr × HO)} {Q : VK} {C p dx r q o : Addr} {x : V} {W : Int}
theorem gvC (n : Nat) (h1 : Wd K S H O) (h : O[n]? = some (p, .ins C dx (gFs x W r q o))) (c : Cls K C) (na : NoAttr K C "costs") (z : Q x H) : FldR K "costs" Q (.ref p) H := x_fldrO n h1 h c na (by rfl) z
theorem gvW (n : Nat) (h1 : Wd K S H O) (h : O[n]? = some (p, .ins C dx (gFs x W r q o))) (c : Cls K C) (na : NoAttr K C "wide") (z : Q (.int W) H) : FldR K "wide" Q (.ref p) H := x_fldrO n h1 h c na (by rfl) z
theorem gvR (n : Nat) (h1 : Wd K S H O) (h : O[n]? = some (p, .ins C dx (gFs x W r q o))) (c : Cls K C) (na : NoAttr K C "rows") (z : Q (.ref r) H) : FldR K "rows" Q (.ref p) H := x_fldrO n h1 h c na (by rfl) z
theorem gvQ (n : Nat) (h1 : Wd K S H O) (h : O[n]? = some (p, .ins C dx (gFs x W r q o))) (c : Cls K C) (na : NoAttr K C "columns") (z : Q (.ref q) H) : FldR K "columns" Q (.ref p) H := x_fldrO n h1 h c na (by rfl) z
theorem gvO (n : Nat) (h1 : Wd K S H O) (h : O[n]? = some (p, .ins C dx (gFs x W r q o))) (c : Cls K C) (na : NoAttr K C "owner") (z : Q (.ref o) H) : FldR K "owner" Q (.ref p) H := x_fldrO n h1 h c na (by rfl) z
end
section
variable {K : PySem.W.Frag} {S H : Hp} {O : List (Addr × HO)} {Q : VK} {x : V}
/-- a row of a table -/
theorem x_rowT {c : List (List Int)} {i : Int} (W : Wd K S H O) (h : Dp K S x (tabD c)) (h0 : 0 ≤ i) (h1 : i < c.length) (k : ∀ u, Dp K S u (rowD (nth c i)) → Q u H) : rIx K x (.int i) H Q :=
  x_ixL W h (atI_map h0 h1) (kn_lst fun u hu => k u hu)
/-- an item of a row -/
theorem x_itR {r : List Int} {i : Int} (W : Wd K S H O) (h : Dp K S x (rowD r)) (h0 : 0 ≤ i) (h1 : i < r.length) (k : Q (.int (nth r i)) H) : rIx K x (.int i) H Q :=
  x_ixL W h (atI_map h0 h1) (kn_int k)
end

/-! ### where an int stands among None and ints -/
theorem idxa {X : Cx} {K : PySem.W.Frag} (e : X.K = K) : MtR X "list.index" (rIndex K) := e ▸ mt_index
theorem flda {X : Cx} {K : PySem.W.Frag} {e : Expr} {ta : TE} {f : Str} {pos : Pos} (ek : X.K = K) (he : PE X e ta) (hb : attributeBase e f X.env (eval e X.env) = eval e X.env) : PE X (.Attribute e f pos) (tFld K ta f) := ek ▸ pe_fld he hb
theorem bma {X : Cx} {K : PySem.W.Frag} {o e : Expr} {es : List Expr} {to : TE} {t : TA} {name : Str} {apos cpos : Pos} {T id : String} {r : V → List V → Hp → VK → Prop} (ek : X.K = K) (pa : PlainAttrs T) (slot : Slot T name id) (hty : typeOf (.builtin id) = pure (.type "method_descriptor")) (hm : MtR X id r) (ho : PE X o to) (ha : PA X (e :: es) t)
    (hbase : attributeBase o name X.env (eval o X.env) = eval o X.env := by rfl)
    (hfew : ((backTo cpos (starEach (e :: es) X.env)).all (fun x => !x.1) && (backToKw cpos (keywordEach [] X.env)).all (fun x => x.1.isSome)
      && decide ((e :: es).length + ([] : List Keyword).length + (if ([] : List Keyword).isEmpty then 0 else 1) < 30)) = true := by rfl)
    (hline : (apos.endLine == cpos.line) = true := by rfl) (hs : starEach (e :: es) X.env = (false, eval e X.env) :: starEach es X.env := by rfl) (hplain : (backTo cpos (starEach es X.env)).any (·.1) = false := by rfl) :
    PE X (.Call (.Attribute o name apos) (e :: es) [] cpos) (tBM K T r to t) := ek ▸ pe_bm pa slot hty hm ho ha hbase hfew hline hs hplain
theorem flat_o (os : List (Option Int)) : (os.map oV).all flatV = true := by
  rw [List.all_eq_true]
  intro z hz
  obtain ⟨o, _, rfl⟩ := List.mem_map.mp hz
  cases o <;> rfl
theorem x_idxO {K : PySem.W.Frag} {S H : Hp} {O : List (Addr × HO)} {Q : VK} {os : List (Option Int)} {i j : Int} {p : Addr} (n : Nat) (W : Wd K S H O) (h : O[n]? = some (p, .lst (os.map oV))) (hj : Bd os.length j) (e : nth os j = some i)
    (u : ∀ j', Bd os.length j' → nth os j' = some i → j' = j) (k : Q (.int j) H) : rIndex K (.ref p) [.int i] H Q := by
  obtain ⟨j0, j1⟩ := hj
  have g := nth_get j0 j1
  rw [e] at g
  refine ⟨p, _, .int i, j.toNat, .int i, rfl, rfl, .of (W.at n h), rfl, flat_o os, by rw [List.getElem?_map, g]; rfl, by simp [eqV], fun m z hm hz => ?_, by rw [Int.toNat_of_nonneg j0]; exact k⟩
  rw [List.getElem?_map] at hz
  cases em : os[m]? with
  | none => rw [em] at hz; cases hz
  | some o =>
    rw [em] at hz
    cases hz
    cases o with
    | none => rfl
    | some i' =>
      show eqV (.int i') (.int i) = false
      have hne : i' ≠ i := by
        rintro rfl
        have hlt : m < os.length := (List.getElem?_eq_some_iff.mp em).1
        have := u (m : Int) ⟨by omega, by omega⟩ (nth_nat em)
        omega
      simp [eqV, hne]
abbrev givD (f r q : List Int) : PyData := .tuple [rowD f, rowD r, rowD q]
/-- all prices fair, and no column's above nought -/
def fairB (c : List (List Int)) (r q : List Int) : Bool := ((List.range c.length).all fun i => (List.range (wide c).toNat).all fun j => decide (nth r (i : Int) + nth q (j : Int) ≤ co c (i : Int) (j : Int))) && q.all fun p => decide (p ≤ 0)
theorem fairB_no {c : List (List Int)} {r q : List Int} {i j : Nat} (hi : i < c.length) (hj : (j : Int) < wide c) (h : ¬ nth r (i : Int) + nth q (j : Int) ≤ co c (i : Int) (j : Int)) : fairB c r q = false := by
  unfold fairB
  rw [Bool.and_eq_false_iff]
  left
  rw [Bool.eq_false_iff]
  intro z
  rw [List.all_eq_true] at z
  have z1 := z i (List.mem_range.mpr hi)
  rw [List.all_eq_true] at z1
  have z2 := z1 j (List.mem_range.mpr (by omega))
  exact h (of_decide_eq_true z2)
theorem fairB_all {c : List (List Int)} {r q : List Int} (h : ∀ i : Nat, i < c.length → ∀ j : Nat, (j : Int) < wide c → nth r (i : Int) + nth q (j : Int) ≤ co c (i : Int) (j : Int)) : fairB c r q = q.all fun p => decide (p ≤ 0) := by
  unfold fairB
  rw [show ((List.range c.length).all fun i => (List.range (wide c).toNat).all fun j => decide (nth r (i : Int) + nth q (j : Int) ≤ co c (i : Int) (j : Int))) = true from ?_, Bool.true_and]
  rw [List.all_eq_true]
  intro i hi
  rw [List.all_eq_true]
  intro j hj
  exact decide_eq_true (h i (List.mem_range.mp hi) j (by have := List.mem_range.mp hj; omega))
theorem give_fair {c : List (List Int)} {f r q : List Int} (G : GiveOk c f r q) : fairB c r q = true := by
  rw [fairB_all fun i hi j hj => G.fair i j ⟨by omega, by omega⟩ ⟨by omega, hj⟩, List.all_eq_true]
  exact fun p hp => decide_eq_true (G.neg p hp)

/-! ### a comprehension over a tuple -/
def LcT (K : PySem.W.Frag) (g : TG) (tt : TT) (te : TE) (vs : List Nat) (σ : L2.St) (Q : VK) (x : V) (H : Hp) : Prop := ∃ a, x = .ref a ∧ (∃ xs, SqT K H a xs) ∧ ∀ R, H R = none → ∃ W : Nat → Nat → Hp → Prop, (∃ m, W 0 m (upd H R (.lst []))) ∧ ∀ i m H, W i m H →
  ((Itt K a).stop i H ∧ Q (.ref R) H) ∨ ((Itt K a).go i H ∧ ∃ Nx : Hp → Prop, (∀ H', Nx H' → ∃ m', m' < m ∧ W (i + 1) m' H') ∧ ∀ x H', (Itt K a).yld i H x H' → g x (wipe σ vs) H' fun σ2 H2 => wipe σ2 vs = wipe σ vs ∧ tt σ2 H2 fun b H3 =>
    if b = true then te σ2 H3 fun y H4 => ∃ acc, H4 R = some (.lst acc) ∧ acc.length < sizeLine ∧ Nx (upd H4 R (.lst (acc ++ [y]))) else Nx H3)
section
variable {K : PySem.W.Frag} {S H : Hp} {O : List (Addr × HO)} {σ : L2.St} {Q : VK} {x : V} {tt : TT} {g : TG} {te : TE} {vs : List Nat} {tl : TE}
theorem x_lct (h : tl σ H fun x H1 => LcT K g tt te vs σ Q x H1) : tLc (iTup K tl) g tt te vs σ H Q := h
theorem lct_map {α β : Type} {xs : List α} {f : α → PyData} (e : β → PyData) (G : α → β) (W : Wd K S H O) (hv : Dp K S x (.tuple (xs.map f))) (hlen : xs.length ≤ 1000000)
    (hs : ∀ z S' H' R acc N, z ∈ xs → Wd K S' H' ((R, .lst acc) :: O) → Same S S' → LcE K S' O R acc (some (e (G z))) N → Kn K S' (f z) fun u => LcB g tt te vs σ R N u H')
    (k : ∀ S' H' v, Wd K S' H' O → Same S S' → Dp K S' v (.list ((xs.map G).map e)) → Q v H') : LcT K g tt te vs σ Q x H := by
  obtain ⟨a, us, rfl, hq', ha⟩ := dp_tup_ex hv
  have hl : us.length = xs.length := by rw [dpAll_len ha, List.length_map]
  refine ⟨a, rfl, ⟨us, W.tup hq'⟩, fun R hR => lc_tup (K := K) (a := a) (xs := us) (Qd := fun H' => Q (.ref R) H') (LcP K xs (fun z => some (e (G z))) S O R) ⟨S, [], W.alloc hR, Same.refl S, by simp; exact .nil⟩ (fun i H' _ ⟨S', acc, W', hS, hA⟩ => W'.tup (same_t hS hq')) (fun i y H' hy ⟨S', acc, W', hS, hA⟩ => ?_) (fun H' ⟨S', acc, W', hS, hA⟩ => ?_)⟩
  · obtain ⟨dd, hd1, hd2⟩ := dpAll_get' ha hy
    rw [List.getElem?_map] at hd1
    cases e' : xs[i]? with
    | none => rw [e'] at hd1; cases hd1
    | some z =>
      rw [e'] at hd1
      cases hd1
      exact (hs z S' H' R acc (LcP K xs (fun z => some (e (G z))) S O R (i + 1)) (List.mem_of_getElem? e') W' hS (lcE_of hlen e' hS hA)).of y (dp_mono hS hd2)
  · rw [hl, List.take_length] at hA
    refine k _ H' _ (W'.give 0 rfl) (hS.trans (same_new (W'.atS 0 rfl))) ?_
    rw [fm_map] at hA
    rw [List.map_map]
    exact dp_give (W'.atS 0 rfl) hA
end
end SB
namespace SB
open PySem PySem.Spec PyProof.Rows L2
abbrev veT : List Value := [.type "ValueError", .type "Exception", .type "BaseException", .type "object"]
/-! ### the text by places -/
def top (i : Nat) : Stmt := PySem.Challenge.pw_surebest_k50_whole_given.main.body.getD i (.Pass ⟨0, 0, 0, 0⟩)
abbrev s_look_table : Stmt := top 5
abbrev s_given_columns : Stmt := top 7
abbrev s_total : Stmt := top 8
abbrev s_are_prices : Stmt := top 9
abbrev s_law_cell : Stmt := top 11
abbrev s_law_mix : Stmt := top 12
abbrev s_law_whole : Stmt := top 13
abbrev s_law_wholes : Stmt := top 14
abbrev s_law_number : Stmt := top 15
abbrev s_law_cheapest : Stmt := top 18
abbrev s_law_refused : Stmt := top 19
abbrev s_law_fair : Stmt := top 20
abbrev s_law : Stmt := top 21
abbrev s_Giver_init : Stmt := inClass (top 6) 0
abbrev s_Giver_gap : Stmt := inClass (top 6) 1
abbrev s_Giver_least_open : Stmt := inClass (top 6) 2
abbrev s_Giver_raise_by : Stmt := inClass (top 6) 3
abbrev s_Giver_give : Stmt := inClass (top 6) 4
abbrev s_Giver_turn : Stmt := inClass (top 6) 5
theorem sc_look_table : FnScope ["costs", "row"] ["costs"] (defScope s_look_table) := ⟨rfl, rfl, rfl, by decide +kernel, rfl, by decide +kernel, by decide +kernel⟩
theorem sc_given_columns : FnScope ["costs", "giver", "row", "found"] ["costs"] (defScope s_given_columns) := ⟨rfl, rfl, rfl, by decide +kernel, rfl, by decide +kernel, by decide +kernel⟩
theorem sc_total : FnScope ["costs", "found", "k"] ["costs", "found"] (defScope s_total) := ⟨rfl, rfl, rfl, by decide +kernel, rfl, by decide +kernel, by decide +kernel⟩
theorem sc_are_prices : FnScope ["costs", "rows", "columns", "k", "j", "price"] ["costs", "rows", "columns"] (defScope s_are_prices) := ⟨rfl, rfl, rfl, by decide +kernel, rfl, by decide +kernel, by decide +kernel⟩
theorem sc_law_cell : FnScope ["_law_script", "_law_k"] ["_law_script", "_law_k"] (defScope s_law_cell) := ⟨rfl, rfl, rfl, by decide +kernel, rfl, by decide +kernel, by decide +kernel⟩
theorem sc_law_mix : FnScope ["_law_script", "_law_k", "_law_number_here"] ["_law_script", "_law_k"] (defScope s_law_mix) := ⟨rfl, rfl, rfl, by decide +kernel, rfl, by decide +kernel, by decide +kernel⟩
theorem sc_law_whole : FnScope ["_law_found"] ["_law_found"] (defScope s_law_whole) := ⟨rfl, rfl, rfl, by decide +kernel, rfl, by decide +kernel, by decide +kernel⟩
theorem sc_law_wholes : FnScope ["_law_found", "_law_one"] ["_law_found"] (defScope s_law_wholes) := ⟨rfl, rfl, rfl, by decide +kernel, rfl, by decide +kernel, by decide +kernel⟩
theorem sc_law_number : FnScope ["_law_number_here", "_law_some"] ["_law_number_here"] (defScope s_law_number) := ⟨rfl, rfl, rfl, by decide +kernel, rfl, by decide +kernel, by decide +kernel⟩
theorem sc_law_cheapest : FnScope ["_law_costs", "_law_row", "_law_used", "_law_found", "_law_column", "_law_rest"] ["_law_costs", "_law_row", "_law_used"] (defScope s_law_cheapest) := ⟨rfl, rfl, rfl, by decide +kernel, rfl, by decide +kernel, by decide +kernel⟩
theorem sc_law_refused : FnScope ["_law_costs", "_law_refused_here", "e"] ["_law_costs"] (defScope s_law_refused) := ⟨rfl, rfl, rfl, by decide +kernel, rfl, by decide +kernel, by decide +kernel⟩
theorem sc_law_fair : FnScope ["_law_costs", "_law_rows", "_law_columns", "_law_k", "_law_j", "_law_price"] ["_law_costs", "_law_rows", "_law_columns"] (defScope s_law_fair) := ⟨rfl, rfl, rfl, by decide +kernel, rfl, by decide +kernel, by decide +kernel⟩
theorem sc_law : FnScope ["_law_script", "_law_high", "_law_wide", "_law_costs", "_law_k", "_law_wrong", "_law_handed", "_law_found", "_law_least", "_law_prices", "_law_some", "_law_answer", "_law_j", "_law_row", "_law_column"] ["_law_script"] (defScope s_law) := ⟨rfl, rfl, rfl, by decide +kernel, rfl, by decide +kernel, by decide +kernel⟩
theorem sc_Giver_init : FnScope ["self", "costs"] ["self", "costs"] (defScope s_Giver_init) := ⟨rfl, rfl, rfl, by decide +kernel, rfl, by decide +kernel, by decide +kernel⟩
theorem sc_Giver_gap : FnScope ["self", "row", "column"] ["self", "row", "column"] (defScope s_Giver_gap) := ⟨rfl, rfl, rfl, by decide +kernel, rfl, by decide +kernel, by decide +kernel⟩
theorem sc_Giver_least_open : FnScope ["self", "least", "done", "found", "column"] ["self", "least", "done"] (defScope s_Giver_least_open) := ⟨rfl, rfl, rfl, by decide +kernel, rfl, by decide +kernel, by decide +kernel⟩
theorem sc_Giver_raise_by : FnScope ["self", "much", "row", "done", "least", "column"] ["self", "much", "row", "done", "least"] (defScope s_Giver_raise_by) := ⟨rfl, rfl, rfl, by decide +kernel, rfl, by decide +kernel, by decide +kernel⟩
theorem sc_Giver_give : FnScope ["self", "row", "least", "before", "done", "column", "other", "k"] ["self", "row"] (defScope s_Giver_give) := ⟨rfl, rfl, rfl, by decide +kernel, rfl, by decide +kernel, by decide +kernel⟩
theorem sc_Giver_turn : FnScope ["self", "row", "column", "before"] ["self", "row", "column", "before"] (defScope s_Giver_turn) := ⟨rfl, rfl, rfl, by decide +kernel, rfl, by decide +kernel, by decide +kernel⟩
/-! ### where all stands, and what the top has left -/
structure Ad where
  (a_look_table a_given_columns a_total a_are_prices a_law_cell a_law_mix a_law_whole a_law_wholes a_law_number a_law_cheapest a_law_refused a_law_fair a_law a_Giver_init a_Giver_gap a_Giver_least_open a_Giver_raise_by a_Giver_give a_Giver_turn c_Giver c_BestError c_NoTable : Addr)
  (f_look_table f_given_columns f_total f_are_prices f_law_cell f_law_mix f_law_whole f_law_wholes f_law_number f_law_cheapest f_law_refused f_law_fair f_law f_Giver_init f_Giver_gap f_Giver_least_open f_Giver_raise_by f_Giver_give f_Giver_turn : FuncData)
  (t_MOST_COLUMNS : Tok)
structure Txt (K : PySem.W.Frag) (mg : Str → Option Value) (d : Ad) : Prop where
  F_look_table : Fun K "look_table" "look_table" s_look_table d.a_look_table d.f_look_table
  p_look_table : Binds K d.f_look_table ["costs"] []
  g_look_table : mg "look_table" = some (.ref d.a_look_table)
  k_look_table : PySem.W.keepIn K (.ref d.a_look_table) = true
  F_given_columns : Fun K "given_columns" "given_columns" s_given_columns d.a_given_columns d.f_given_columns
  p_given_columns : Binds K d.f_given_columns ["costs"] []
  g_given_columns : mg "given_columns" = some (.ref d.a_given_columns)
  k_given_columns : PySem.W.keepIn K (.ref d.a_given_columns) = true
  F_total : Fun K "total" "total" s_total d.a_total d.f_total
  p_total : Binds K d.f_total ["costs", "found"] []
  g_total : mg "total" = some (.ref d.a_total)
  k_total : PySem.W.keepIn K (.ref d.a_total) = true
  F_are_prices : Fun K "are_prices" "are_prices" s_are_prices d.a_are_prices d.f_are_prices
  p_are_prices : Binds K d.f_are_prices ["costs", "rows", "columns"] []
  g_are_prices : mg "are_prices" = some (.ref d.a_are_prices)
  k_are_prices : PySem.W.keepIn K (.ref d.a_are_prices) = true
  F_law_cell : Fun K "_law_cell" "_law_cell" s_law_cell d.a_law_cell d.f_law_cell
  p_law_cell : Binds K d.f_law_cell ["_law_script", "_law_k"] []
  g_law_cell : mg "_law_cell" = some (.ref d.a_law_cell)
  k_law_cell : PySem.W.keepIn K (.ref d.a_law_cell) = true
  F_law_mix : Fun K "_law_mix" "_law_mix" s_law_mix d.a_law_mix d.f_law_mix
  p_law_mix : Binds K d.f_law_mix ["_law_script", "_law_k"] []
  g_law_mix : mg "_law_mix" = some (.ref d.a_law_mix)
  k_law_mix : PySem.W.keepIn K (.ref d.a_law_mix) = true
  F_law_whole : Fun K "_law_whole" "_law_whole" s_law_whole d.a_law_whole d.f_law_whole
  p_law_whole : Binds K d.f_law_whole ["_law_found"] []
  g_law_whole : mg "_law_whole" = some (.ref d.a_law_whole)
  k_law_whole : PySem.W.keepIn K (.ref d.a_law_whole) = true
  F_law_wholes : Fun K "_law_wholes" "_law_wholes" s_law_wholes d.a_law_wholes d.f_law_wholes
  p_law_wholes : Binds K d.f_law_wholes ["_law_found"] []
  g_law_wholes : mg "_law_wholes" = some (.ref d.a_law_wholes)
  k_law_wholes : PySem.W.keepIn K (.ref d.a_law_wholes) = true
  F_law_number : Fun K "_law_number" "_law_number" s_law_number d.a_law_number d.f_law_number
  p_law_number : Binds K d.f_law_number ["_law_number_here"] []
  g_law_number : mg "_law_number" = some (.ref d.a_law_number)
  k_law_number : PySem.W.keepIn K (.ref d.a_law_number) = true
  F_law_cheapest : Fun K "_law_cheapest" "_law_cheapest" s_law_cheapest d.a_law_cheapest d.f_law_cheapest
  p_law_cheapest : Binds K d.f_law_cheapest ["_law_costs", "_law_row", "_law_used"] []
  g_law_cheapest : mg "_law_cheapest" = some (.ref d.a_law_cheapest)
  k_law_cheapest : PySem.W.keepIn K (.ref d.a_law_cheapest) = true
  F_law_refused : Fun K "_law_refused" "_law_refused" s_law_refused d.a_law_refused d.f_law_refused
  p_law_refused : Binds K d.f_law_refused ["_law_costs"] []
  g_law_refused : mg "_law_refused" = some (.ref d.a_law_refused)
  k_law_refused : PySem.W.keepIn K (.ref d.a_law_refused) = true
  F_law_fair : Fun K "_law_fair" "_law_fair" s_law_fair d.a_law_fair d.f_law_fair
  p_law_fair : Binds K d.f_law_fair ["_law_costs", "_law_rows", "_law_columns"] []
  g_law_fair : mg "_law_fair" = some (.ref d.a_law_fair)
  k_law_fair : PySem.W.keepIn K (.ref d.a_law_fair) = true
  F_law : Fun K "law" "law" s_law d.a_law d.f_law
  p_law : Binds K d.f_law ["_law_script"] []
  g_law : mg "law" = some (.ref d.a_law)
  k_law : PySem.W.keepIn K (.ref d.a_law) = true
  F_Giver_init : Fun K "__init__" "Giver.__init__" s_Giver_init d.a_Giver_init d.f_Giver_init
  p_Giver_init : Binds K d.f_Giver_init ["self", "costs"] []
  F_Giver_gap : Fun K "gap" "Giver.gap" s_Giver_gap d.a_Giver_gap d.f_Giver_gap
  p_Giver_gap : Binds K d.f_Giver_gap ["self", "row", "column"] []
  h_Giver_gap : Meth K d.c_Giver "gap" d.a_Giver_gap
  F_Giver_least_open : Fun K "least_open" "Giver.least_open" s_Giver_least_open d.a_Giver_least_open d.f_Giver_least_open
  p_Giver_least_open : Binds K d.f_Giver_least_open ["self", "least", "done"] []
  h_Giver_least_open : Meth K d.c_Giver "least_open" d.a_Giver_least_open
  F_Giver_raise_by : Fun K "raise_by" "Giver.raise_by" s_Giver_raise_by d.a_Giver_raise_by d.f_Giver_raise_by
  p_Giver_raise_by : Binds K d.f_Giver_raise_by ["self", "much", "row", "done", "least"] []
  h_Giver_raise_by : Meth K d.c_Giver "raise_by" d.a_Giver_raise_by
  F_Giver_give : Fun K "give" "Giver.give" s_Giver_give d.a_Giver_give d.f_Giver_give
  p_Giver_give : Binds K d.f_Giver_give ["self", "row"] []
  h_Giver_give : Meth K d.c_Giver "give" d.a_Giver_give
  F_Giver_turn : Fun K "turn" "Giver.turn" s_Giver_turn d.a_Giver_turn d.f_Giver_turn
  p_Giver_turn : Binds K d.f_Giver_turn ["self", "row", "column", "before"] []
  h_Giver_turn : Meth K d.c_Giver "turn" d.a_Giver_turn
  g_Giver : mg "Giver" = some (.ref d.c_Giver)
  c_Giver : Cls K d.c_Giver
  m_Giver : Mk K d.c_Giver d.a_Giver_init
  n_Giver_costs : NoAttr K d.c_Giver "costs"
  n_Giver_wide : NoAttr K d.c_Giver "wide"
  n_Giver_rows : NoAttr K d.c_Giver "rows"
  n_Giver_columns : NoAttr K d.c_Giver "columns"
  n_Giver_owner : NoAttr K d.c_Giver "owner"
  g_BestError : mg "BestError" = some (.ref d.c_BestError)
  k_BestError : PySem.W.keepIn K (.ref d.c_BestError) = true
  x_BestError : PySem.W.excIn K d.c_BestError veT "ValueError.__new__" = true
  s_BestError : PySem.W.subIn K (.ref d.c_BestError) (.type "BaseException") = some true
  t_BestError : PySem.W.typeIn K (.ref d.c_BestError) = some (.type "type")
  i_BestError : PySem.W.isClsIn K d.c_BestError = true
  g_NoTable : mg "NoTable" = some (.ref d.c_NoTable)
  k_NoTable : PySem.W.keepIn K (.ref d.c_NoTable) = true
  x_NoTable : PySem.W.excIn K d.c_NoTable veT "ValueError.__new__" = true
  s_NoTable : PySem.W.subIn K (.ref d.c_NoTable) (.type "BaseException") = some true
  t_NoTable : PySem.W.typeIn K (.ref d.c_NoTable) = some (.type "type")
  i_NoTable : PySem.W.isClsIn K d.c_NoTable = true
  e_NoTable_BestError : PySem.W.exmOne K (.ref d.c_NoTable) (.ref d.c_BestError) = some true
  y_NoTable : ExcC K d.c_NoTable
  q_NoTable_NoTable : PySem.W.kitOne K (.ref d.c_NoTable) (.ref d.c_NoTable) = some true
  q_NoTable_ValueError : PySem.W.kitOne K (.ref d.c_NoTable) (.type "ValueError") = some true
  g_MOST_COLUMNS : mg "MOST_COLUMNS" = some (.int 8 d.t_MOST_COLUMNS)
  b_ValueError : mg "ValueError" = none
  b_all : mg "all" = none
  b_any : mg "any" = none
  b_bool : mg "bool" = none
  b_int : mg "int" = none
  b_isinstance : mg "isinstance" = none
  b_len : mg "len" = none
  b_list : mg "list" = none
  b_range : mg "range" = none
  b_set : mg "set" = none
  b_sum : mg "sum" = none
  b_tuple : mg "tuple" = none
end SB
namespace SB
open PySem PySem.Spec PyProof.Rows L2
local macro_rules | `(tactic| walk_at "same") => `(tactic| first
  | exact Same.refl _
  | assumption
  | (refine Same.trans ?_ (by assumption); walk_at "same"))
local macro_rules | `(tactic| walk_at "is") => `(tactic| first
  | assumption
  | exact Dp.int _
  | exact Dp.bl _
  | exact Dp.non
  | exact Dp.str _
  | (refine' dp_mono ?_ (by assumption); walk_at "same"))
local macro_rules | `(tactic| walk_at "dpa") => `(tactic| first
  | exact DpAll.nil
  | (refine' DpAll.cons ?h1 ?h2; (case h1 => walk_at "is"); (case h2 => walk_at "dpa"))
  | exact dpAll_ints _
  | exact dpAll_bools _
  | assumption
  | (refine' dpAll_mono ?_ (by assumption); walk_at "same"))
local macro_rules | `(tactic| walk_at "bd") => `(tactic| first | omega | assumption | (simp only [List.length_map, List.length_range, List.length_replicate] at *; omega))
local macro_rules | `(tactic| walk_at "ati") => `(tactic| first
  | rfl
  | exact atI_map (by walk_at "bd") (by walk_at "bd"))
local macro_rules | `(tactic| walk_at "kn") => `(tactic| first
  | (with_reducible refine kn_int ?_)
  | (with_reducible refine kn_bl ?_)
  | (with_reducible refine kn_non ?_)
  | (with_reducible refine kn_str ?_)
  | ((with_reducible refine kn_tup ?_); intro u hu)
  | ((with_reducible refine kn_lst ?_); intro u hu))
local macro_rules | `(tactic| walk_at "wm") => `(tactic| first
  | exact .inl ⟨by decide, by decide⟩
  | exact .inr ⟨by decide, by decide⟩)
local macro_rules | `(tactic| walk_at "st") => `(tactic| first
  | ((with_reducible refine' x_var ?h ?_); (case h => with_unfolding_all rfl))
  | (with_reducible refine x_c ?_)
  | (with_reducible refine x_op ?_)
  | (with_reducible refine x_I0 ?_)
  | (with_reducible refine x_cons ?_)
  | (with_reducible refine x_nil ?_)
  | (with_reducible refine x_seq ?_)
  | (with_reducible refine x_asg ?_)
  | (with_reducible refine x_gname ?_)
  | (with_reducible refine x_test ?_)
  | (with_reducible refine x_tB ?_)
  | (with_reducible refine x_k ?_)
  | (with_reducible refine x_kx ?_)
  | (with_reducible refine x_if ?_)
  | (with_reducible refine x_ret ?_)
  | (with_reducible refine x_next ?_)
  | (with_reducible refine x_iteT ?_)
  | (with_reducible refine x_iteF ?_)
  | (with_reducible refine x_nT ?_)
  | (with_reducible refine x_dNN ?_)
  | (with_reducible refine x_dNI ?_)
  | (with_reducible refine x_dNR ?_)
  | (with_reducible refine x_nNN ?_)
  | (with_reducible refine x_nNI ?_)
  | (with_reducible refine x_nNR ?_)
  | (with_reducible refine x_nF ?_)
  | (with_reducible refine x_eqI ?_)
  | (with_reducible refine x_neI ?_)
  | (with_reducible refine x_eqB ?_)
  | (with_reducible refine x_eqS ?_)
  | (with_reducible refine x_neS ?_)
  | (with_reducible refine x_isB ?_)
  | (with_reducible refine x_notB ?_)
  | (with_reducible refine x_neB ?_)
  | (with_reducible refine x_cb ?_)
  | (with_reducible refine x_call0 ?_)
  | (with_reducible refine x_callS ?_)
  | ((with_reducible refine x_I (C := CMul) ?h ?_); (case h => walk_at "wm"))
  | ((with_reducible refine x_I (C := CDiv) ?h ?_); (case h => exact ⟨by decide, by decide⟩))
  | ((with_reducible refine x_I (C := CPow) ?h ?_); (case h => exact ⟨by decide, by decide, by decide⟩))
  | ((with_reducible refine x_I ?h ?_); (case h => walk_at "side"))
  | (with_reducible refine x_U ?_)
  | (with_reducible refine x_un ?_)
  | (with_reducible refine x_and ?_)
  | (with_reducible refine x_or ?_)
  | (with_reducible refine x_not ?_)
  | (with_reducible refine x_andV ?_)
  | (with_reducible refine x_orV ?_)
  | (with_reducible refine x_notV ?_)
  | (with_reducible refine x_ifE ?_)
  | (with_reducible refine x_chain ?_)
  | (with_reducible refine x_ttup ?_)
  | (with_reducible refine x_tlst ?_)
  | (with_reducible refine x_gsub ?_)
  | (with_reducible refine x_drop ?_)
  | (with_reducible refine x_retN ?_)
  | (with_reducible refine x_brk ?_)
  | (with_reducible refine x_fld ?_)
  | (with_reducible refine x_fldr ?_)
  | (with_reducible refine x_meth ?_)
  | (with_reducible refine x_gnil ?_)
  | (with_reducible refine x_for ?_)
  | (with_reducible refine x_forr ?_)
  | (with_reducible refine x_forz ?_)
  | (with_reducible refine x_fort ?_)
  | (with_reducible refine x_lcl ?_)
  | (with_reducible refine x_lcr ?_)
  | (with_reducible refine x_lcz ?_)
  | (with_reducible refine x_lcen ?_)
  | (with_reducible refine x_lcb ?_ (by with_unfolding_all rfl))
  | (with_reducible refine x_yes ?_)
  | (with_reducible refine x_bm ?_)
  | (with_reducible refine x_bm0 ?_)
  | (with_reducible refine x_bmo 0 (by assumption) rfl ?_)
  | (with_reducible refine x_bmo 1 (by assumption) rfl ?_)
  | (with_reducible refine x_bmo 2 (by assumption) rfl ?_)
  | (with_reducible refine x_gcons ?_)
  | (with_reducible refine x_isN ?_)
  | (with_reducible refine x_notN ?_)
  | (with_reducible refine x_abs ?_)
  | (with_reducible refine x_max2 ?_)
  | (with_reducible refine x_intB ?_)
  | (with_reducible refine' x_all (by assumption) (by walk_at "is") ?_)
  | (with_reducible refine' x_any (by assumption) (by walk_at "is") ?_)
  | (with_reducible refine' x_sum (by assumption) (by walk_at "is") ?_)
  | ((with_reducible refine' x_listS (by assumption) (by walk_at "is") ?_); intro S' H' v W' hS hv)
  | (with_reducible refine x_isX (by assumption) (by assumption) ?_)
  | (with_reducible refine x_isXT (by assumption) (by assumption) ?_)
  | (with_reducible refine x_isiI kb_int_int ?_)
  | (with_reducible refine x_isiI kb_int_bool ?_)
  | (with_reducible refine x_isiB kb_bool_bool ?_)
  | (with_reducible refine x_isiB kb_bool_int ?_)
  | (with_reducible refine' x_isiL (by assumption) (by walk_at "is") kb_list_list ?_)
  | (with_reducible refine' x_isiT (by assumption) (by walk_at "is") kb_tuple_tuple ?_)
  | (with_reducible refine x_isiN kb_NoneType_int ?_)
  | (with_reducible refine' x_isiT (by assumption) (by walk_at "is") kb_tuple_list ?_)
  | (with_reducible refine' x_isiL (by assumption) (by walk_at "is") kb_list_tuple ?_)
  | (with_reducible refine x_isiS kb_str_int ?_)
  | (with_reducible refine' x_isiT (by assumption) (by walk_at "is") kb_tuple_int ?_)
  | (with_reducible refine' x_isiL (by assumption) (by walk_at "is") kb_list_int ?_)
  | ((with_reducible refine' x_ixT (by assumption) (by walk_at "is") ?h ?_); (case h => walk_at "ati"); (walk_at "kn"))
  | ((with_reducible refine' x_ixL (by assumption) (by walk_at "is") ?h ?_); (case h => walk_at "ati"); (walk_at "kn"))
  | ((with_reducible refine x_ixM 0 (by assumption) rfl ?h0 ?h1 ?_); (case h0 => walk_at "bd"); (case h1 => walk_at "bd"))
  | ((with_reducible refine x_ixM 1 (by assumption) rfl ?h0 ?h1 ?_); (case h0 => walk_at "bd"); (case h1 => walk_at "bd"))
  | ((with_reducible refine x_ixM1 (by assumption) (by assumption) ?h0 ?h1 ?_); (case h0 => walk_at "bd"); (case h1 => walk_at "bd"))
  | ((with_reducible refine x_ixM2 (by assumption) (by assumption) ?h0 ?h1 ?_); (case h0 => walk_at "bd"); (case h1 => walk_at "bd"))
  | ((with_reducible refine x_ixM0 (by assumption) (by assumption) ?h0 ?h1 ?_); (case h0 => walk_at "bd"); (case h1 => walk_at "bd"))
  | (with_reducible refine wsA 2 (by assumption) rfl (by assumption) (by assumption) ?_)
  | (with_reducible refine wsL 2 (by assumption) rfl (by assumption) (by assumption) ?_)
  | (with_reducible refine wsM 2 (by assumption) rfl (by assumption) (by assumption) ?_)
  | (with_reducible refine wsA 3 (by assumption) rfl (by assumption) (by assumption) ?_)
  | (with_reducible refine wsL 3 (by assumption) rfl (by assumption) (by assumption) ?_)
  | (with_reducible refine wsM 3 (by assumption) rfl (by assumption) (by assumption) ?_)
  | (with_reducible refine x_sl ?_)
  | (with_reducible refine x_poN ?_)
  | (with_reducible refine x_poS ?_)
  | (with_reducible refine x_poI ?_)
  | (with_reducible refine x_get ?_)
  | (with_reducible refine x_lrg ?_)
  | (with_reducible refine x_din ?_)
  | (with_reducible refine x_dnin ?_)
  | (with_reducible refine x_dget ?_)
  | (with_reducible refine x_dput ?_)
  | (with_reducible refine x_lenO 0 (by assumption) rfl ?_)
  | (with_reducible refine x_lenO 1 (by assumption) rfl ?_)
  | (with_reducible refine' x_lenT (by assumption) (by walk_at "is") ?_)
  | (with_reducible refine' x_len (by assumption) (by walk_at "is") ?_)
  | (with_reducible refine x_tr ?_)
  | (with_reducible refine x_truB ?_)
  | (with_reducible refine x_truO 0 (by assumption) rfl ?_)
  | (with_reducible refine' x_truL (by assumption) (by walk_at "is") ?_)
  | ((with_reducible refine' x_tup (by assumption) (by walk_at "dpa") (by simp) ?_); intro S' H' v W' hS hv))
local macro_rules | `(tactic| walk_at "go") => `(tactic| repeat (walk_at "st"))
local macro_rules | `(tactic| walk_at "stop") => `(tactic| ((fail_if_success (with_reducible refine x_if ?_)); (fail_if_success (with_reducible refine x_andV ?_)); (fail_if_success (with_reducible refine x_orV ?_)); (fail_if_success (with_reducible refine x_ifE ?_))))
local macro_rules | `(tactic| walk_at "g") => `(tactic| repeat (walk_at "stop"; walk_at "st"))
local macro_rules | `(tactic| walk_at "side") => `(tactic| first | omega | assumption | exact cdivw_any (by assumption) | decide)
local macro_rules | `(tactic| walk_at "own") => `(tactic| ((with_reducible refine x_own (by assumption) (by simp) ?_); intro p H' W'))
local macro_rules | `(tactic| walk_at "lst") => `(tactic| ((with_reducible refine' x_lst (by assumption) (by walk_at "dpa") (by simp) ?_); intro S' H' v W' hS hv))
local macro_rules | `(tactic| walk_at "ly") => `(tactic| exact lce_y (by assumption) (by assumption) (by walk_at "same") (by walk_at "is") rfl)
local macro_rules | `(tactic| walk_at "ln") => `(tactic| exact lce_n (by assumption) (by assumption) (by walk_at "same") rfl)
local macro_rules | `(tactic| walk_at "lyp") => `(tactic| exact lce_y (by assumption) (by assumption) (by walk_at "same") (by walk_at "is") (if_pos (by assumption)))
local macro_rules | `(tactic| walk_at "lnp") => `(tactic| exact lce_n (by assumption) (by assumption) (by walk_at "same") (if_neg (ne_true (by assumption))))
section
variable {P : Program} {w : World} {K : PySem.W.Frag} {mg : Str → Option Value} {base : Heap} {d : Ad}
inductive Sp_look_table (K : PySem.W.Frag) (C : Addr) : List V → Hp → VK → XK → Prop
  | mk {S : Hp} {O : List (Addr × HO)} {c : List (List Int)} {x : V} {H : Hp} {Q : VK} {E : XK} (W : Wd K S H O) (h1 : Dp K S x (tabD c)) (hl : c.length ≤ 1000)
    (e : ¬ TabOk c → ∀ S' H', Wd K S' H' O → Same S S' → E (.ref C) none H') (k : TabOk c → ∀ S' H', Wd K S' H' O → Same S S' → Q .non H') : Sp_look_table K C [x] H Q E
theorem ok_look_table (T : Txt K mg d) : FnOk P w K mg base (L2.CX P w) 3 d.a_look_table d.f_look_table ["costs"] (Sp_look_table K d.c_NoTable) := by
  refine T.F_look_table.okX sc_look_table (fun vs H Q E h => ?_) (fun cdv A outer s H vs Q E hr h => ?_)
  · cases h; rfl
  · have hu := hu_of hr
    obtain ⟨W, h1, hl, e, k⟩ := h
    rename_i S O c x
    refine ⟨_, (pss_cons (ps_if (PW.pt (pw_or (pt_not (trutha (K := K) (by rfl) (pv 0) (by intro _; rfl))) (pw_or1 (pt_not (pt_chain op_le op_le (pe_callB (lena (K := K) (by rfl)) (by rfl) T.b_len (by decide +kernel) (pa_cons (pv 0) pa_nil)) (pe_callB (lena (K := K) (by rfl)) (by rfl) T.b_len (by decide +kernel) (pa_cons (pe_ix (ixa (K := K) (by rfl)) (pv 0) pe_int (fun _ _ => rfl)) pa_nil)) (pe_globI (by rfl) T.g_MOST_COLUMNS)))))) (pss_one (ps_raise rfl (takes_of rfl rfl rfl rfl) (pmk_own PySem.F.excBase_ValueError T.x_NoTable T.g_NoTable T.k_NoTable (raises_own T.s_NoTable T.t_NoTable) (by exact rfl)))) pss_nil)
      (pss_one (ps_if (pt_val (pe_callB (anya (K := K) (by rfl) rfl) (by rfl) T.b_any (by decide +kernel) (pa_cons (pe_lc (own := [("row", 1)]) rfl sc_look_table.nd (pi_list (pv 0)) (blkOk_by (by first | decide +kernel | exact Eq.refl true)) (fun _ _ _ _ _ => pg_name (i := 1) sc_look_table.nd rfl (by first | exact Or.inl rfl | exact Or.inr rfl)) (fun _ _ _ _ _ => pts_nil) (fun _ _ _ _ _ => (pe_cmpR op_ne (pe_callB (lena (K := K) (by rfl)) (by rfl) T.b_len (by decide +kernel) (pa_cons (pv 1) pa_nil)) (pe_callB (lena (K := K) (by rfl)) (by rfl) T.b_len (by decide +kernel) (pa_cons (pe_ix (ixa (K := K) (by rfl)) (pv 0) pe_int (fun _ _ => rfl)) pa_nil)) (nomark _)))) pa_nil))) (pss_one (ps_raise rfl (takes_of rfl rfl rfl rfl) (pmk_own PySem.F.excBase_ValueError T.x_NoTable T.g_NoTable T.k_NoTable (raises_own T.s_NoTable T.t_NoTable) (by exact rfl)))) pss_nil))), ?_⟩
    try dsimp only [cxK, cxw, cxprog]
    have no : ∀ {z : Prop}, (TabOk c → z) → ¬ z → ∀ {S' H' : Hp}, Wd K S' H' O → Same S S' → E (.ref d.c_NoTable) none H' := fun {z} h n {S' H'} W hS => e (fun l => n (h l)) S' H' W hS
    walk_at "go"
    by_cases h0 : 0 < c.length
    rotate_left
    · have hc : c = [] := List.eq_nil_of_length_eq_zero (by omega)
      subst hc
      refine x_sure (by rfl) ?_
      walk_at "go"
      exact no (fun l => l.h0) h0 W (Same.refl _)
    have hne : (!(!(c.map rowD).isEmpty)) = false := by
      cases c with
      | nil => simp at h0
      | cons a r => rfl
    refine x_no hne ?_
    walk_at "go"
    have lw : (((nth c 0).map PyData.int).length : Int) = wide c := by rw [List.length_map]; rfl
    have lc : ((c.map rowD).length : Int) = c.length := by rw [List.length_map]
    rw [lw, lc]
    refine x_iteD (fun h2 => ?_) (fun h2 => ?_)
    rotate_left
    · walk_at "go"
      exact no (fun l => l.le) h2 W (Same.refl _)
    walk_at "go"
    refine x_iteND (fun h3 => no (fun l => l.w8) h3 W (Same.refl _)) (fun h3 => ?_)
    walk_at "go"
    refine lc_map PyData.bool (fun r : List Int => !decide ((r.length : Int) = wide c)) W h1 (by omega) (fun r S' H' R acc N hr W' hS E => kn_lst fun u hu => ?_) (fun S1 H1 v1 W1 hS1 hv1 => ?_)
    · have hx' : Dp K S' x (tabD c) := by walk_at "is"
      walk_at "go"
      rw [lw, List.length_map]
      walk_at "ly"
    walk_at "go"
    refine x_ite (fun hb => ?_) (fun hb => ?_)
    · walk_at "go"
      refine no (fun l => l.rows) (fun hl => ?_) W1 hS1
      rw [List.any_map, List.any_eq_true] at hb
      obtain ⟨r, hr, hb⟩ := hb
      simp only [Function.comp, id, Bool.not_eq_true', decide_eq_false_iff_not] at hb
      exact hb (hl r hr)
    · walk_at "go"
      refine k ⟨h0, h2, h3, fun r hr => ?_⟩ S1 H1 W1 hS1
      rw [List.any_map, List.any_eq_false] at hb
      have := hb r hr
      simp only [Function.comp, id, Bool.not_eq_true', decide_eq_false_iff_not, Classical.not_not] at this
      exact this
end
section
variable {P : Program} {w : World} {K : PySem.W.Frag} {mg : Str → Option Value} {base : Heap} {d : Ad}
inductive Sp_Giver_init (K : PySem.W.Frag) (C : Addr) : List V → Hp → VK → XK → Prop
  | mk {S : Hp} {O : List (Addr × HO)} {p dx : Addr} {c : List (List Int)} {x : V} {H : Hp} {Q : VK} {E : XK} (W : Wd K S H ((p, .ins C dx []) :: (dx, .own p) :: O)) (h1 : Dp K S x (tabD c)) (t : TabOk c)
    (k : ∀ S' H' r q o, Wd K S' H' ((o, .lst ((List.replicate (wide c).toNat (none : Option Int)).map oV)) :: (q, .lst ((List.replicate (wide c).toNat (0 : Int)).map V.int)) :: (r, .lst ((List.replicate c.length (0 : Int)).map V.int)) :: (p, .ins C dx (gFs x (wide c) r q o)) :: (dx, .own p) :: O) → Same S S' → Q .non H') :
    Sp_Giver_init K C [.ref p, x] H Q E
theorem ok_Giver_init (T : Txt K mg d) : FnOk P w K mg base CX0 1 d.a_Giver_init d.f_Giver_init ["self", "costs"] (Sp_Giver_init K d.c_Giver) := by
  refine T.F_Giver_init.ok sc_Giver_init (fun vs H Q E h => ?_) (fun cdv A outer s H vs Q E hr h => ?_)
  · cases h; rfl
  · have hu := hu_of hr
    obtain ⟨W, h1, t, k⟩ := h
    rename_i S O p dx c x
    refine ⟨_, (pss_cons (ps_fld (pv 0) (pv 1) rfl)
      (pss_cons (ps_fld (pv 0) (pe_callB (lena (K := K) (by rfl)) (by rfl) T.b_len (by decide +kernel) (pa_cons (pe_ix (ixa (K := K) (by rfl)) (pv 1) pe_int (fun _ _ => rfl)) pa_nil)) rfl)
      (pss_cons (ps_fld (pv 0) (pe_op op_rep (pe_lst (pa_cons pe_int pa_nil)) (pe_callB (lena (K := K) (by rfl)) (by rfl) T.b_len (by decide +kernel) (pa_cons (pv 1) pa_nil))) rfl)
      (pss_cons (ps_fld (pv 0) (pe_op op_rep (pe_lst (pa_cons pe_int pa_nil)) (pe_fld (pv 0) rfl)) rfl)
      (pss_one (ps_fld (pv 0) (pe_op op_rep (pe_lst (pa_cons pe_non pa_nil)) (pe_fld (pv 0) rfl)) rfl)))))), ?_⟩
    try dsimp only [cxK, cxw, cxprog]
    have t0 := t.h0
    have t1 := t.le
    have t8 := t.w8
    walk_at "go"
    refine x_fldO 0 W rfl T.c_Giver T.n_Giver_costs (by decide) (fun H1 W1 => ?_)
    walk_at "go"
    have ew : (((nth c 0).map PyData.int).length : Int) = wide c := by rw [List.length_map]; rfl
    rw [ew]
    have e1 : putF (Str.ofString "wide") (.int (wide c)) (putF (Str.ofString "costs") x []) = ([("costs", x), ("wide", .int (wide c))] : List (Str × V)) := putF_at (f := Str.ofString "wide") (g := Str.ofString "costs") (by decide)
    refine x_fldO 0 W1 rfl T.c_Giver T.n_Giver_wide (by simp [putF]) (fun H2 W2 => ?_)
    rw [e1] at W2
    walk_at "go"
    refine x_own W2 (by simp) (fun q2 H3 W3 => ?_)
    walk_at "go"
    rw [List.length_map]
    refine x_repI W3 (by omega) (by omega) (fun S4 H4 r W4 hS4 => ?_)
    rw [Int.toNat_natCast] at W4
    walk_at "go"
    have e2 : putF (Str.ofString "rows") (.ref r) ([("costs", x), ("wide", .int (wide c))] : List (Str × V)) = ([("costs", x), ("wide", .int (wide c)), ("rows", .ref r)] : List (Str × V)) := (putF_at (f := Str.ofString "rows") (g := Str.ofString "costs") (by decide)).trans (by rw [putF_at (f := Str.ofString "rows") (g := Str.ofString "wide") (by decide)]; rfl)
    refine x_fldO 1 W4 rfl T.c_Giver T.n_Giver_rows (by simp) (fun H5 W5 => ?_)
    rw [e2] at W5
    walk_at "go"
    refine x_own W5 (by simp) (fun q3 H6 W6 => ?_)
    walk_at "go"
    refine x_fldrO (v := .int (wide c)) 2 W6 rfl T.c_Giver T.n_Giver_wide (by rfl) ?_
    walk_at "go"
    refine x_repI W6 (by omega) (by omega) (fun S7 H7 q W7 hS7 => ?_)
    walk_at "go"
    have e3 : putF (Str.ofString "columns") (.ref q) ([("costs", x), ("wide", .int (wide c)), ("rows", .ref r)] : List (Str × V)) = ([("costs", x), ("wide", .int (wide c)), ("rows", .ref r), ("columns", .ref q)] : List (Str × V)) := (putF_at (f := Str.ofString "columns") (g := Str.ofString "costs") (by decide)).trans (by rw [putF_at (f := Str.ofString "columns") (g := Str.ofString "wide") (by decide), putF_at (f := Str.ofString "columns") (g := Str.ofString "rows") (by decide)]; rfl)
    refine x_fldO 2 W7 rfl T.c_Giver T.n_Giver_columns (by simp) (fun H8 W8 => ?_)
    rw [e3] at W8
    walk_at "go"
    refine x_own W8 (by simp) (fun q4 H9 W9 => ?_)
    walk_at "go"
    refine x_fldrO (v := .int (wide c)) 3 W9 rfl T.c_Giver T.n_Giver_wide (by rfl) ?_
    walk_at "go"
    refine x_rep W9 (by omega) (by omega) (fun S10 H10 o W10 hS10 => ?_)
    walk_at "go"
    have e4 : putF (Str.ofString "owner") (.ref o) ([("costs", x), ("wide", .int (wide c)), ("rows", .ref r), ("columns", .ref q)] : List (Str × V)) = gFs x (wide c) r q o := (putF_at (f := Str.ofString "owner") (g := Str.ofString "costs") (by decide)).trans (by rw [putF_at (f := Str.ofString "owner") (g := Str.ofString "wide") (by decide), putF_at (f := Str.ofString "owner") (g := Str.ofString "rows") (by decide), putF_at (f := Str.ofString "owner") (g := Str.ofString "columns") (by decide)]; rfl)
    refine x_fldO 3 W10 rfl T.c_Giver T.n_Giver_owner (by simp) (fun H11 W11 => ?_)
    rw [e4] at W11
    walk_at "go"
    have f1 : (List.replicate (wide c).toNat (none : Option Int)).map oV = List.replicate (wide c).toNat V.non := List.map_replicate
    refine k S10 _ r q o ?_ (by walk_at "same")
    rw [f1]
    exact W11
end
section
variable {P : Program} {w : World} {K : PySem.W.Frag} {mg : Str → Option Value} {base : Heap} {d : Ad}
structure FndOk (W : Int) (ls dn : List Int) (i : Int) (f : Option Int) : Prop where
  non : f = none → ∀ j, Bd i j → j ∈ dn
  fnd : ∀ x, f = some x → Bd i x ∧ x ∉ dn ∧ ∀ j, Bd i j → j ∉ dn → nth ls x ≤ nth ls j
theorem fnd_skip {W : Int} {ls dn : List Int} {i : Int} {f : Option Int} (h : FndOk W ls dn i f) (hi : i ∈ dn) : FndOk W ls dn (i + 1) f :=
  ⟨fun e j hj => if z : j = i then z ▸ hi else h.non e j ⟨hj.1, by have := hj.2; omega⟩, fun x e => ⟨⟨(h.fnd x e).1.1, by have := (h.fnd x e).1.2; omega⟩, (h.fnd x e).2.1, fun j hj hn => (h.fnd x e).2.2 j ⟨hj.1, by
    have := hj.2
    have : j ≠ i := fun z => hn (z ▸ hi)
    omega⟩ hn⟩⟩
theorem fnd_take {W : Int} {ls dn : List Int} {i : Int} {f : Option Int} (h : FndOk W ls dn i f) (h0 : 0 ≤ i) (hi : i ∉ dn) (hl : ∀ x, f = some x → nth ls i < nth ls x) : FndOk W ls dn (i + 1) (some i) :=
  ⟨fun e => (by cases e), fun x e => by
    cases e
    refine ⟨⟨h0, by omega⟩, hi, fun j hj hn => ?_⟩
    by_cases z : j = i
    · rw [z]; exact Int.le_refl _
    · have hj' : Bd i j := ⟨hj.1, by have := hj.2; omega⟩
      cases f with
      | none => exact absurd (h.non rfl j hj') hn
      | some y =>
        have := hl y rfl
        have := (h.fnd y rfl).2.2 j hj' hn
        omega⟩
theorem fnd_keep {W : Int} {ls dn : List Int} {i x : Int} (h : FndOk W ls dn i (some x)) (hl : ¬ nth ls i < nth ls x) : FndOk W ls dn (i + 1) (some x) :=
  ⟨fun e => (by cases e), fun y e => by
    cases e
    obtain ⟨a, b, c⟩ := h.fnd x rfl
    refine ⟨⟨a.1, by have := a.2; omega⟩, b, fun j hj hn => ?_⟩
    by_cases z : j = i
    · rw [z]; omega
    · exact c j ⟨hj.1, by have := hj.2; omega⟩ hn⟩
inductive Sp_Giver_least_open (K : PySem.W.Frag) (C : Addr) : List V → Hp → VK → XK → Prop
  | mk {S : Hp} {O : List (Addr × HO)} {m n a : Nat} {p dx r q o l dn : Addr} {ls ds : List Int} {w : Int} {x : V} {H : Hp} {Q : VK} {E : XK} (W : Wd K S H O)
    (u0 : O[a]? = some (p, .ins C dx (gFs x w r q o))) (u1 : O[m]? = some (l, .lst (ls.map V.int))) (u2 : O[n]? = some (dn, .lst (ds.map V.int))) (w0 : 0 ≤ w) (w8 : w ≤ 8) (ll : (ls.length : Int) = w) (hf : (ds.length : Int) < w)
    (k : ∀ z, Bd w z → z ∉ ds → (∀ j, Bd w j → j ∉ ds → nth ls z ≤ nth ls j) → Q (.int z) H) : Sp_Giver_least_open K C [.ref p, .ref l, .ref dn] H Q E
theorem ok_Giver_least_open (T : Txt K mg d) : FnOk P w K mg base CX0 1 d.a_Giver_least_open d.f_Giver_least_open ["self", "least", "done"] (Sp_Giver_least_open K d.c_Giver) := by
  refine T.F_Giver_least_open.ok sc_Giver_least_open (fun vs H Q E h => ?_) (fun cdv A outer s H vs Q E hr h => ?_)
  · cases h; rfl
  · have hu := hu_of hr
    obtain ⟨W, u0, u1, u2, w0, w8, ll, hf, k⟩ := h
    rename_i S O m n a p dx r q o l dn ls ds w x
    have cG := T.c_Giver
    have n1 := T.n_Giver_wide
    refine ⟨_, (pss_cons (ps_set (i := 3) sc_Giver_least_open.nd rfl (by first | exact Or.inl rfl | exact Or.inr rfl) pe_non)
      (pss_cons (ps_for PassesOwn.never rfl (pi_range1 (by rfl) T.b_range (pa_cons (pe_fld (pv 0) rfl) pa_nil)) (pg_name (i := 4) sc_Giver_least_open.nd rfl (by first | exact Or.inl rfl | exact Or.inr rfl)) (pss_one (ps_if (PW.pt (pw_and (pt_cmpR (notIna (K := K) (by rfl)) (pv 4) (pv 2) (by rfl)) (pw_and1 (PW.pt (pw_or (pt_cmpR ol_isN (pv 3) pe_non (nomark _)) (pw_or1 (pt_cmpR op_lt (pe_ix (ixa (K := K) (by rfl)) (pv 1) (pv 4) (fun _ _ => rfl)) (pe_ix (ixa (K := K) (by rfl)) (pv 1) (pv 3) (fun _ _ => rfl)) (nomark _)))))))) (pss_one (ps_set (i := 3) sc_Giver_least_open.nd rfl (by first | exact Or.inl rfl | exact Or.inr rfl) (pv 4))) pss_nil)))
      (pss_one (ps_ret (pv 3))))), ?_⟩
    try dsimp only [cxK, cxw, cxprog]
    walk_at "go"
    refine gvW a W u0 cG n1 ?_
    walk_at "go"
    refine x_forN (fun i σ' H' => ∃ (f : Option Int) (z : Option V), σ' = [some (.ref p), some (.ref l), some (.ref dn), some (oV f), z] ∧ H' = H ∧ FndOk w ls ds (i : Int) f) ⟨by omega, by omega⟩
      ⟨none, _, rfl, rfl, fun _ j hj => (by have := hj.1; have := hj.2; omega), fun x e => (by cases e)⟩ ?_ ?_
    · rintro i σ' H' hi ⟨f, z, rfl, rfl, F⟩
      walk_at "go"
      refine x_inO (neg := true) n W u2 ?_
      refine x_kx ?_
      refine x_iteTo (if_pos rfl) ?_
      refine x_iteND (fun hn => ?_) (fun hn => ?_)
      · walk_at "go"
        refine x_iteIN (fun hf => ?_) (fun y hf => ?_)
        · walk_at "go"
          refine ⟨some (i : Int), _, rfl, rfl, ?_⟩
          exact fnd_take F (by omega) hn (fun x e => by rw [hf] at e; cases e)
        · subst hf
          have hy := (F.fnd y rfl).1
          walk_at "go"
          refine x_ixM m W u1 hy.1 (by have := hy.2; omega) ?_
          walk_at "go"
          refine x_iteD (fun hlt => ?_) (fun hlt => ?_)
          · walk_at "go"
            exact ⟨some (i : Int), _, rfl, rfl, fnd_take F (by omega) hn (fun x e => by cases e; exact hlt)⟩
          · walk_at "go"
            exact ⟨some y, _, rfl, rfl, fnd_keep F hlt⟩
      · walk_at "go"
        exact ⟨f, _, rfl, rfl, fnd_skip F hn⟩
    · rintro σ' H' ⟨f, z, rfl, rfl, F⟩
      rw [Int.toNat_of_nonneg w0] at F
      cases f with
      | none =>
        obtain ⟨j, hj, hn⟩ := free_ex hf
        exact absurd (F.non rfl j hj) hn
      | some y =>
        obtain ⟨a, b, c⟩ := F.fnd y rfl
        walk_at "go"
        exact k y a b c
end
section
variable {P : Program} {w : World} {K : PySem.W.Frag} {mg : Str → Option Value} {base : Heap} {d : Ad}
inductive Sp_Giver_gap (K : PySem.W.Frag) (C : Addr) : List V → Hp → VK → XK → Prop
  | mk {S : Hp} {O : List (Addr × HO)} {n : Nat} {p dx r q o : Addr} {c : List (List Int)} {rs qs : List Int} {os : List V} {x : V} {i j : Int} {H : Hp} {Q : VK} {E : XK} (W : Wd K S H O)
    (u0 : O[n]? = some (o, .lst os)) (u1 : O[n + 1]? = some (q, .lst (qs.map V.int))) (u2 : O[n + 2]? = some (r, .lst (rs.map V.int))) (u3 : O[n + 3]? = some (p, .ins C dx (gFs x (wide c) r q o)))
    (h1 : Dp K S x (tabD c)) (t : TabOk c) (lr : rs.length = c.length) (lq : (qs.length : Int) = wide c) (hi : Bd c.length i) (hj : Bd (wide c) j)
    (k : Q (.int (gp c rs qs i j)) H) : Sp_Giver_gap K C [.ref p, .int i, .int j] H Q E
theorem ok_Giver_gap (T : Txt K mg d) : FnOk P w K mg base CX0 1 d.a_Giver_gap d.f_Giver_gap ["self", "row", "column"] (Sp_Giver_gap K d.c_Giver) := by
  refine T.F_Giver_gap.ok sc_Giver_gap (fun vs H Q E h => ?_) (fun cdv A outer s H vs Q E hr h => ?_)
  · cases h; rfl
  · have hu := hu_of hr
    obtain ⟨W, u0, u1, u2, u3, h1, t, lr, lq, hi, hj, k⟩ := h
    rename_i S O n p dx r q o c rs qs os x i j
    have cG := T.c_Giver
    have n1 := T.n_Giver_costs
    have n2 := T.n_Giver_rows
    have n3 := T.n_Giver_columns
    refine ⟨_, (pss_one (ps_ret (pe_op op_sub (pe_op op_sub (pe_ix (ixa (K := K) (by rfl)) (pe_ix (ixa (K := K) (by rfl)) (pe_fld (pv 0) rfl) (pv 1) (fun _ _ => rfl)) (pv 2) (fun _ _ => rfl)) (pe_ix (ixa (K := K) (by rfl)) (pe_fld (pv 0) rfl) (pv 1) (fun _ _ => rfl))) (pe_ix (ixa (K := K) (by rfl)) (pe_fld (pv 0) rfl) (pv 2) (fun _ _ => rfl))))), ?_⟩
    try dsimp only [cxK, cxw, cxprog]
    obtain ⟨i0, i1⟩ := hi
    obtain ⟨j0, j1⟩ := hj
    have hrow := t.rows (nth c i) (nth_mem i0 i1)
    walk_at "go"
    refine gvC (n + 3) W u3 cG n1 ?_
    walk_at "go"
    refine gvR (n + 3) W u3 cG n2 ?_
    walk_at "go"
    refine gvQ (n + 3) W u3 cG n3 ?_
    walk_at "go"
    exact k
end
section
variable {P : Program} {w : World} {K : PySem.W.Frag} {mg : Str → Option Value} {base : Heap} {d : Ad}
theorem take_fold {α β : Type} {f : β → α → β} {xs : List α} {i : Nat} {z : α} {b : β} (h : xs[i]? = some z) : (xs.take (i + 1)).foldl f b = f ((xs.take i).foldl f b) z := by
  rw [List.take_add_one, h, Option.toList_some, List.foldl_append]
  rfl
theorem raised_next {w d : Int} {dn ls l1 : List Int} {i : Nat} (hl : (ls.length : Int) = w) (hi : (i : Int) < w) (R : Raised w d (fun j => j ∉ dn ∧ j < (i : Int)) ls l1) (hn : (i : Int) ∉ dn) : Raised w d (fun j => j ∉ dn ∧ j < ((i + 1 : Nat) : Int)) ls (l1.set (i : Int).toNat (nth l1 (i : Int) + d)) := by
  have at' : ∀ j, Bd w j → nth (l1.set (i : Int).toNat (nth l1 (i : Int) + d)) j = if (i : Int) = j then nth l1 (i : Int) + d else nth l1 j := fun j hj => nset_at (by rw [R.len]; exact hl) ⟨by omega, hi⟩ hj
  have hr := R.no (i : Int) ⟨by omega, hi⟩ (fun h => by have := h.2; omega)
  refine ⟨by rw [List.length_set]; exact R.len, fun j hj h => ?_, fun j hj h => ?_⟩
  · rw [at' j hj]
    by_cases e : (i : Int) = j
    · rw [if_pos e, hr, e]
    · rw [if_neg e]
      exact R.yes j hj ⟨h.1, by have := h.2; omega⟩
  · rw [at' j hj, if_neg (fun (e : (i : Int) = j) => h ⟨by rw [← e]; exact hn, by omega⟩)]
    exact R.no j hj fun z => h ⟨z.1, by have := z.2; omega⟩
theorem raised_same {w d : Int} {dn ls l1 : List Int} {i : Nat} (R : Raised w d (fun j => j ∉ dn ∧ j < (i : Int)) ls l1) (hn : (i : Int) ∈ dn) : Raised w d (fun j => j ∉ dn ∧ j < ((i + 1 : Nat) : Int)) ls l1 :=
  R.imp fun j hj => ⟨fun h => ⟨h.1, by
    have := h.2
    have : j ≠ (i : Int) := fun z => h.1 (z ▸ hn)
    omega⟩, fun h => ⟨h.1, by have := h.2; omega⟩⟩
inductive Sp_Giver_raise_by (K : PySem.W.Frag) (C : Addr) : List V → Hp → VK → XK → Prop
  | mk {S : Hp} {O : List (Addr × HO)} {g : Prop} {p dx r q o b l dn : Addr} {c : List (List Int)} {rs qs ls ds : List Int} {os bf : List (Option Int)} {x : V} {k much : Int} {bv : HO} {H : Hp} {Q : VK} {E : XK}
    (W : Wd K S H ((dn, .lst (ds.reverse.map V.int)) :: (b, bv) :: (l, .lst (ls.map V.int)) :: (o, .lst (os.map oV)) :: (q, .lst (qs.map V.int)) :: (r, .lst (rs.map V.int)) :: (p, .ins C dx (gFs x (wide c) r q o)) :: (dx, .own p) :: O))
    (hk : Bd c.length k) (w8 : wide c ≤ 8) (w0 : 0 ≤ wide c) (M : Mid g c k rs qs os ls bf ds)
    (kk : ∀ H' rs' qs' ls', Raised c.length much (Tree k os ds) rs rs' → Raised (wide c) (-much) (· ∈ ds) qs qs' → Raised (wide c) (-much) (· ∉ ds) ls ls' →
      Wd K S H' ((dn, .lst (ds.reverse.map V.int)) :: (b, bv) :: (l, .lst (ls'.map V.int)) :: (o, .lst (os.map oV)) :: (q, .lst (qs'.map V.int)) :: (r, .lst (rs'.map V.int)) :: (p, .ins C dx (gFs x (wide c) r q o)) :: (dx, .own p) :: O) → Q .non H') :
    Sp_Giver_raise_by K C [.ref p, .int much, .int k, .ref dn, .ref l] H Q E
theorem ok_Giver_raise_by (T : Txt K mg d) : FnOk P w K mg base CX0 1 d.a_Giver_raise_by d.f_Giver_raise_by ["self", "much", "row", "done", "least"] (Sp_Giver_raise_by K d.c_Giver) := by
  refine T.F_Giver_raise_by.ok sc_Giver_raise_by (fun vs H Q E h => ?_) (fun cdv A outer s H vs Q E hr h => ?_)
  · cases h; rfl
  · have hu := hu_of hr
    obtain ⟨W, hk, w8, w0, M, kk⟩ := h
    rename_i S O g p dx r q o b l dn c rs qs ls ds os bf x k much bv
    have cG := T.c_Giver
    have n1 := T.n_Giver_wide
    have n2 := T.n_Giver_rows
    have n3 := T.n_Giver_columns
    have n4 := T.n_Giver_owner
    refine ⟨_, (pss_cons (ps_asg (pe_op op_add (pe_ix (ixa (K := K) (by rfl)) (pe_fld (pv 0) rfl) (pv 2) (fun _ _ => rfl)) (pv 1)) (pg_sub (pe_fld (pv 0) rfl) (pv 2) set_list))
      (pss_cons (ps_for PassesOwn.never rfl (pi_list (pv 3)) (pg_name (i := 5) sc_Giver_raise_by.nd rfl (by first | exact Or.inl rfl | exact Or.inr rfl)) (pss_cons (ps_asg (pe_op op_sub (pe_ix (ixa (K := K) (by rfl)) (pe_fld (pv 0) rfl) (pv 5) (fun _ _ => rfl)) (pv 1)) (pg_sub (pe_fld (pv 0) rfl) (pv 5) set_list))
      (pss_one (ps_asg (pe_op op_add (pe_ix (ixa (K := K) (by rfl)) (pe_fld (pv 0) rfl) (pe_ix (ixa (K := K) (by rfl)) (pe_fld (pv 0) rfl) (pv 5) (fun _ _ => rfl)) (fun _ _ => rfl)) (pv 1)) (pg_sub (pe_fld (pv 0) rfl) (pe_ix (ixa (K := K) (by rfl)) (pe_fld (pv 0) rfl) (pv 5) (fun _ _ => rfl)) set_list)))))
      (pss_one (ps_for PassesOwn.never rfl (pi_range1 (by rfl) T.b_range (pa_cons (pe_fld (pv 0) rfl) pa_nil)) (pg_name (i := 5) sc_Giver_raise_by.nd rfl (by first | exact Or.inl rfl | exact Or.inr rfl)) (pss_one (ps_if (pt_cmpR (notIna (K := K) (by rfl)) (pv 5) (pv 3) (by rfl)) (pss_one (ps_asg (pe_op op_sub (pe_ix (ixa (K := K) (by rfl)) (pv 4) (pv 5) (fun _ _ => rfl)) (pv 1)) (pg_sub (pv 4) (pv 5) set_list))) pss_nil)))))), ?_⟩
    try dsimp only [cxK, cxw, cxprog]
    obtain ⟨k0, k1⟩ := hk
    have lr := M.h.lr
    have lq := M.h.lq
    have lo := M.h.lo
    have ll := M.ll
    walk_at "go"
    refine gvR 6 W rfl cG n2 ?_
    walk_at "go"
    refine x_ixM 5 W rfl k0 (by omega) ?_
    walk_at "go"
    refine gvR 6 W rfl cG n2 ?_
    walk_at "go"
    refine x_setM 5 W rfl k0 (by omega) (fun H1 W1 => ?_)
    walk_at "go"
    refine x_forV (ys := ds.reverse.map V.int) (fun i σ' H' => ∃ z : Option V, σ' = [some (.ref p), some (.int much), some (.int k), some (.ref dn), some (.ref l), z] ∧
      Wd K S H' ((dn, .lst (ds.reverse.map V.int)) :: (b, bv) :: (l, .lst (ls.map V.int)) :: (o, .lst (os.map oV)) :: (q, .lst (((ds.reverse.take i).foldl (fun a j => addAt a j (-much)) qs).map V.int)) :: (r, .lst ((((ds.reverse.take i).map (ow os)).foldl (fun a j => addAt a j much) (addAt rs k much)).map V.int)) :: (p, .ins d.c_Giver dx (gFs x (wide c) r q o)) :: (dx, .own p) :: O))
      ⟨_, rfl, W1⟩ (fun i σ' H' ⟨_, _, W'⟩ => .of (W'.at 0 rfl)) ?_ ?_
    · rintro i y σ' H' ey ⟨z, rfl, W'⟩
      rw [List.getElem?_map] at ey
      cases ej : ds.reverse[i]? with
      | none => rw [ej] at ey; cases ey
      | some j =>
        rw [ej] at ey
        cases ey
        have hj : j ∈ ds := List.mem_reverse.mp (List.mem_of_getElem? ej)
        obtain ⟨j0, j1⟩ := M.ch.bd j hj
        obtain ⟨t, ht⟩ := M.own j hj
        obtain ⟨⟨t0, t1⟩, _⟩ := M.h.bdH k1 ⟨j0, j1⟩ ht
        have et : ow os j = t := by unfold ow; rw [ht]; rfl
        have e1 := take_fold (f := fun a j => addAt a j (-much)) (b := qs) ej
        have ej2 : (ds.reverse.map (ow os))[i]? = some t := by rw [List.getElem?_map, ej, ← et]; rfl
        have e2 := take_fold (f := fun a j => addAt a j much) (b := addAt rs k much) ej2
        rw [← List.map_take, ← List.map_take] at e2
        rw [e1, e2]
        have len1 : ((ds.reverse.take i).foldl (fun a j => addAt a j (-much)) qs).length = qs.length := fold_len
        have len2 : (((ds.reverse.take i).map (ow os)).foldl (fun a j => addAt a j much) (addAt rs k much)).length = rs.length := by rw [fold_len, addAt_len]
        clear e1 e2
        generalize (ds.reverse.take i).foldl (fun a j => addAt a j (-much)) qs = qs' at *
        generalize ((ds.reverse.take i).map (ow os)).foldl (fun a j => addAt a j much) (addAt rs k much) = rs' at *
        walk_at "go"
        refine gvQ 6 W' rfl cG n3 ?_
        walk_at "go"
        refine x_ixM 4 W' rfl j0 (by omega) ?_
        walk_at "go"
        refine gvQ 6 W' rfl cG n3 ?_
        walk_at "go"
        refine x_setM 4 W' rfl j0 (by omega) (fun H2 W2 => ?_)
        walk_at "go"
        refine gvR 6 W2 rfl cG n2 ?_
        walk_at "go"
        refine gvO 6 W2 rfl cG n4 ?_
        walk_at "go"
        refine x_ixOS 3 W2 rfl j0 (by omega) ht ?_
        walk_at "go"
        refine x_ixM 5 W2 rfl t0 (by omega) ?_
        walk_at "go"
        refine gvR 6 W2 rfl cG n2 ?_
        walk_at "go"
        refine gvO 6 W2 rfl cG n4 ?_
        walk_at "go"
        refine x_ixOS 3 W2 rfl j0 (by omega) ht ?_
        walk_at "go"
        refine x_setM 5 W2 rfl t0 (by omega) (fun H3 W3 => ?_)
        walk_at "go"
        exact ⟨_, rfl, W3⟩
    · rintro σ' H' ⟨z, rfl, W'⟩
      rw [List.take_of_length_le (by simp)] at W'
      have R1 := raised_rows (d := much) ⟨k0, k1⟩ M
      have R2 := raised_cols (d := -much) M
      generalize ds.reverse.foldl (fun a j => addAt a j (-much)) qs = qs' at *
      generalize (ds.reverse.map (ow os)).foldl (fun a j => addAt a j much) (addAt rs k much) = rs' at *
      walk_at "go"
      refine gvW 6 W' rfl cG n1 ?_
      walk_at "go"
      refine x_forN (fun i σ' H' => ∃ (z : Option V) (l1 : List Int), σ' = [some (.ref p), some (.int much), some (.int k), some (.ref dn), some (.ref l), z] ∧ Raised (wide c) (-much) (fun j => j ∉ ds.reverse ∧ j < (i : Int)) ls l1 ∧
        Wd K S H' ((dn, .lst (ds.reverse.map V.int)) :: (b, bv) :: (l, .lst (l1.map V.int)) :: (o, .lst (os.map oV)) :: (q, .lst (qs'.map V.int)) :: (r, .lst (rs'.map V.int)) :: (p, .ins d.c_Giver dx (gFs x (wide c) r q o)) :: (dx, .own p) :: O)) ⟨by omega, by omega⟩
        ⟨_, ls, rfl, ⟨rfl, fun i hi h => (by have := hi.1; have := h.2; omega), fun _ _ _ => rfl⟩, W'⟩ ?_ ?_
      · rintro i σ' H2 hi ⟨z, l1, rfl, R3, W2⟩
        have len := R3.len
        walk_at "go"
        refine x_inO (neg := true) 0 W2 rfl ?_
        refine x_kx ?_
        refine x_iteTo (if_pos rfl) ?_
        refine x_iteND (fun hn => ?_) (fun hn => ?_)
        · walk_at "go"
          refine x_ixM 2 W2 rfl (by omega) (by omega) ?_
          walk_at "go"
          refine x_setM 2 W2 rfl (by omega) (by omega) (fun H3 W3 => ?_)
          walk_at "go"
          exact ⟨_, _, rfl, raised_next ll (by omega) R3 hn, W3⟩
        · walk_at "go"
          exact ⟨_, _, rfl, raised_same R3 hn, W2⟩
      · rintro σ' H2 ⟨z, l1, rfl, R3, W2⟩
        rw [Int.toNat_of_nonneg w0] at R3
        walk_at "go"
        exact kk _ rs' qs' l1 R1 R2 (R3.imp fun j hj => ⟨fun h => ⟨fun z => h (List.mem_reverse.mp z), hj.2⟩, fun h z => h.1 (List.mem_reverse.mpr z)⟩) W2
end
section
variable {P : Program} {w : World} {K : PySem.W.Frag} {mg : Str → Option Value} {base : Heap} {d : Ad}
inductive Sp_Giver_turn (K : PySem.W.Frag) (C : Addr) : List V → Hp → VK → XK → Prop
  | mk {S : Hp} {O : List (Addr × HO)} {p dx r q o b l dn : Addr} {c : List (List Int)} {rs qs : List Int} {os bf : List (Option Int)} {ds : List Int} {x : V} {k j : Int} {lv dv : HO} {H : Hp} {Q : VK} {E : XK}
    (W : Wd K S H ((dn, dv) :: (b, .lst (bf.map oV)) :: (l, lv) :: (o, .lst (os.map oV)) :: (q, .lst (qs.map V.int)) :: (r, .lst (rs.map V.int)) :: (p, .ins C dx (gFs x (wide c) r q o)) :: (dx, .own p) :: O))
    (k0 : 0 ≤ k) (T' : TurnI c k rs qs os bf j ds)
    (kk : ∀ H' os', Half c (k + 1) rs qs os' → Wd K S H' ((dn, dv) :: (b, .lst (bf.map oV)) :: (l, lv) :: (o, .lst (os'.map oV)) :: (q, .lst (qs.map V.int)) :: (r, .lst (rs.map V.int)) :: (p, .ins C dx (gFs x (wide c) r q o)) :: (dx, .own p) :: O) → Q .non H') :
    Sp_Giver_turn K C [.ref p, .int k, .int j, .ref b] H Q E
theorem ok_Giver_turn (T : Txt K mg d) : FnOk P w K mg base CX0 1 d.a_Giver_turn d.f_Giver_turn ["self", "row", "column", "before"] (Sp_Giver_turn K d.c_Giver) := by
  refine T.F_Giver_turn.ok sc_Giver_turn (fun vs H Q E h => ?_) (fun cdv A outer s H vs Q E hr h => ?_)
  · cases h; rfl
  · have hu := hu_of hr
    obtain ⟨W, k0, T', kk⟩ := h
    rename_i S O p dx r q o b l dn c rs qs os bf ds x k j lv dv
    have cG := T.c_Giver
    have n4 := T.n_Giver_owner
    refine ⟨_, (pss_cons (ps_while PassesOwn.never (pt_cmpR ol_notN (pe_ix (ixa (K := K) (by rfl)) (pv 3) (pv 2) (fun _ _ => rfl)) pe_non (nomark _)) (pss_cons (ps_asg (pe_ix (ixa (K := K) (by rfl)) (pe_fld (pv 0) rfl) (pe_ix (ixa (K := K) (by rfl)) (pv 3) (pv 2) (fun _ _ => rfl)) (fun _ _ => rfl)) (pg_sub (pe_fld (pv 0) rfl) (pv 2) set_list))
      (pss_one (ps_set (i := 2) sc_Giver_turn.nd rfl (by first | exact Or.inl rfl | exact Or.inr rfl) (pe_ix (ixa (K := K) (by rfl)) (pv 3) (pv 2) (fun _ _ => rfl))))))
      (pss_one (ps_asg (pv 1) (pg_sub (pe_fld (pv 0) rfl) (pv 2) set_list)))), ?_⟩
    try dsimp only [cxK, cxw, cxprog]
    walk_at "go"
    refine x_while (fun m σ' H' => ∃ (y : Int) (os' : List (Option Int)) (l' : List Int), σ' = [some (.ref p), some (.int k), some (.int y), some (.ref b)] ∧ TurnI c k rs qs os' bf y l' ∧ m = l'.length ∧
      Wd K S H' ((dn, dv) :: (b, .lst (bf.map oV)) :: (l, lv) :: (o, .lst (os'.map oV)) :: (q, .lst (qs.map V.int)) :: (r, .lst (rs.map V.int)) :: (p, .ins d.c_Giver dx (gFs x (wide c) r q o)) :: (dx, .own p) :: O)) _
      ⟨j, os, ds, rfl, T', rfl, W⟩ ?_
    rintro m σ' H' ⟨y, os', l', rfl, T1, rfl, W1⟩
    have hy := T1.ch.2.2.1
    have lb := T1.lb
    have lo := T1.lo
    obtain ⟨y0, y1⟩ := hy
    walk_at "go"
    refine x_ixOO 1 W1 rfl y0 (by omega) ?_
    walk_at "go"
    refine x_iteNN (fun z hz => ?_) (fun hn => ?_)
    · refine x_again ?_
      obtain ⟨⟨z0, z1⟩, l2, hl2, T2⟩ := turn_step T1 hz
      walk_at "go"
      refine gvO 6 W1 rfl cG n4 ?_
      walk_at "go"
      refine x_ixOS 1 W1 rfl y0 (by omega) hz ?_
      walk_at "go"
      refine x_ixOO 3 W1 rfl z0 (by omega) ?_
      walk_at "go"
      refine gvO 6 W1 rfl cG n4 ?_
      walk_at "go"
      refine x_setO 3 W1 rfl (ixN_of y0 (by rw [List.length_map]; omega)) (fun H2 W2 => ?_)
      rw [← List.map_set] at W2
      walk_at "go"
      refine x_ixOS 1 W2 rfl y0 (by omega) hz ?_
      walk_at "go"
      exact ⟨l2.length, hl2, z, _, l2, rfl, T2, rfl, W2⟩
    · walk_at "go"
      refine gvO 6 W1 rfl cG n4 ?_
      walk_at "go"
      refine x_setO 3 W1 rfl (ixN_of y0 (by rw [List.length_map]; omega)) (fun H2 W2 => ?_)
      walk_at "go"
      refine kk _ (os'.set y.toNat (some k)) (turn_end k0 T1 hn) ?_
      rw [List.map_set]
      exact W2
end
section
variable {P : Program} {w : World} {K : PySem.W.Frag} {mg : Str → Option Value} {base : Heap} {d : Ad}
structure NewI (c : List (List Int)) (r q : List Int) (ds : List Int) (i x n : Int) (ls ls' : List Int) (bf bf' : List (Option Int)) : Prop where
  ll : ls'.length = ls.length
  lb : bf'.length = bf.length
  old : ∀ j, Bd (wide c) j → j ∈ ds ∨ n ≤ j → nth ls' j = nth ls j ∧ nth bf' j = nth bf j
  new : ∀ j, Bd (wide c) j → j ∉ ds → j < n → (gp c r q i j < nth ls j → nth ls' j = gp c r q i j ∧ nth bf' j = some x) ∧ (¬ gp c r q i j < nth ls j → nth ls' j = nth ls j ∧ nth bf' j = nth bf j)
section
variable {c : List (List Int)} {r q ds ls ls' : List Int} {i x n : Int} {bf bf' : List (Option Int)}
theorem newI_zero : NewI c r q ds i x 0 ls ls bf bf := ⟨rfl, rfl, fun _ _ _ => ⟨rfl, rfl⟩, fun j hj _ h => (by have := hj.1; omega)⟩
theorem newI_skip (N : NewI c r q ds i x n ls ls' bf bf') (h : n ∈ ds) : NewI c r q ds i x (n + 1) ls ls' bf bf' :=
  ⟨N.ll, N.lb, fun j hj h' => N.old j hj (h'.imp_right fun _ => by omega), fun j hj hn h' => N.new j hj hn (by
    have : j ≠ n := fun z => hn (z ▸ h)
    omega)⟩
theorem newI_keep (N : NewI c r q ds i x n ls ls' bf bf') (h : ¬ gp c r q i n < nth ls n) : NewI c r q ds i x (n + 1) ls ls' bf bf' :=
  ⟨N.ll, N.lb, fun j hj h' => N.old j hj (h'.imp_right fun _ => by omega), fun j hj hn h' => by
    by_cases e : j = n
    · subst e
      exact ⟨fun z => absurd z h, fun _ => N.old j hj (.inr (Int.le_refl _))⟩
    · exact N.new j hj hn (by omega)⟩
theorem newI_set (ll : (ls.length : Int) = wide c) (lb : (bf.length : Int) = wide c) (hn : Bd (wide c) n) (N : NewI c r q ds i x n ls ls' bf bf') (h0 : n ∉ ds) (h : gp c r q i n < nth ls n) :
    NewI c r q ds i x (n + 1) ls (ls'.set n.toNat (gp c r q i n)) bf (bf'.set n.toNat (some x)) := by
  have a1 : ∀ j, Bd (wide c) j → nth (ls'.set n.toNat (gp c r q i n)) j = if n = j then gp c r q i n else nth ls' j := fun j hj => nset_at (by rw [N.ll]; exact ll) hn hj
  have a2 : ∀ j, Bd (wide c) j → nth (bf'.set n.toNat (some x)) j = if n = j then some x else nth bf' j := fun j hj => nset_at (by rw [N.lb]; exact lb) hn hj
  refine ⟨by rw [List.length_set]; exact N.ll, by rw [List.length_set]; exact N.lb, fun j hj h' => ?_, fun j hj hd h' => ?_⟩
  · have e : n ≠ j := by
      rintro rfl
      rcases h' with h' | h'
      · exact h0 h'
      · omega
    rw [a1 j hj, a2 j hj, if_neg e, if_neg e]
    exact N.old j hj (h'.imp_right fun _ => by omega)
  · rw [a1 j hj, a2 j hj]
    by_cases e : n = j
    · subst e
      rw [if_pos rfl, if_pos rfl]
      exact ⟨fun _ => ⟨rfl, rfl⟩, fun z => absurd h z⟩
    · rw [if_neg e, if_neg e]
      exact N.new j hj hd (by omega)
theorem newI_end (N : NewI c r q ds i x (wide c) ls ls' bf bf') : Newer c r q ds i x ls ls' bf bf' := ⟨N.ll, N.lb, fun j hj h => N.old j hj (.inl h), fun j hj h => N.new j hj h hj.2⟩
end
inductive Sp_Giver_give (K : PySem.W.Frag) (C : Addr) : List V → Hp → VK → XK → Prop
  | mk {S : Hp} {O : List (Addr × HO)} {p dx r q o : Addr} {c : List (List Int)} {rs qs : List Int} {os : List (Option Int)} {x : V} {k : Int} {H : Hp} {Q : VK} {E : XK}
    (W : Wd K S H ((o, .lst (os.map oV)) :: (q, .lst (qs.map V.int)) :: (r, .lst (rs.map V.int)) :: (p, .ins C dx (gFs x (wide c) r q o)) :: (dx, .own p) :: O)) (h1 : Dp K S x (tabD c)) (t : TabOk c) (hk : Bd c.length k) (h : Half c k rs qs os)
    (kk : ∀ S' H' rs' qs' os', Half c (k + 1) rs' qs' os' → Wd K S' H' ((o, .lst (os'.map oV)) :: (q, .lst (qs'.map V.int)) :: (r, .lst (rs'.map V.int)) :: (p, .ins C dx (gFs x (wide c) r q o)) :: (dx, .own p) :: O) → Same S S' → Q .non H') :
    Sp_Giver_give K C [.ref p, .int k] H Q E
theorem ok_Giver_give (T : Txt K mg d) : FnOk P w K mg base CX0 2 d.a_Giver_give d.f_Giver_give ["self", "row"] (Sp_Giver_give K d.c_Giver) := by
  refine T.F_Giver_give.ok sc_Giver_give (fun vs H Q E h => ?_) (fun cdv A outer s H vs Q E hr h => ?_)
  · cases h; rfl
  · have hu := hu_of hr
    obtain ⟨W, h1, t, hk, hf, kk⟩ := h
    rename_i S O p dx r q o c rs qs os x k
    have cG := T.c_Giver
    have n1 := T.n_Giver_wide
    have n2 := T.n_Giver_owner
    refine ⟨_, (pss_cons (ps_setLc (i := 2) (own := [("column", 5)]) rfl sc_Giver_give.nd rfl rfl (sw_true rfl rfl rfl (by decide +kernel)) (pi_range1 (by rfl) T.b_range (pa_cons (pe_fld (pv 0) rfl) pa_nil)) (blkOk_by (by first | decide +kernel | exact Eq.refl true)) (fun _ _ _ _ _ => pg_name (i := 5) sc_Giver_give.nd rfl (by first | exact Or.inl rfl | exact Or.inr rfl)) (fun _ _ _ _ _ => pts_nil) (fun _ _ _ _ _ => (pe_meth (pv 0) T.c_Giver T.h_Giver_gap (ok_Giver_gap T) (hr.mono (by decide)) T.p_Giver_gap .nil pass0 (pa_cons (pv 1) (pa_cons (pv 5) pa_nil)))))
      (pss_cons (ps_set (i := 3) sc_Giver_give.nd rfl (by first | exact Or.inl rfl | exact Or.inr rfl) (pe_op op_rep (pe_lst (pa_cons pe_non pa_nil)) (pe_fld (pv 0) rfl)))
      (pss_cons (ps_set (i := 4) sc_Giver_give.nd rfl (by first | exact Or.inl rfl | exact Or.inr rfl) (pe_lst pa_nil))
      (pss_cons (ps_set (i := 5) sc_Giver_give.nd rfl (by first | exact Or.inl rfl | exact Or.inr rfl) (pe_meth (pv 0) T.c_Giver T.h_Giver_least_open (ok_Giver_least_open T) (hr.mono (by decide)) T.p_Giver_least_open .nil pass0 (pa_cons (pv 2) (pa_cons (pv 4) pa_nil))))
      (pss_one (ps_while PassesOwn.never (pt_val pe_bl) (pss_cons (ps_expr (pe_meth (pv 0) T.c_Giver T.h_Giver_raise_by (ok_Giver_raise_by T) (hr.mono (by decide)) T.p_Giver_raise_by .nil pass0 (pa_cons (pe_ix (ixa (K := K) (by rfl)) (pv 2) (pv 5) (fun _ _ => rfl)) (pa_cons (pv 1) (pa_cons (pv 4) (pa_cons (pv 2) pa_nil))))))
      (pss_cons (ps_if (pt_cmpR ol_isN (pe_ix (ixa (K := K) (by rfl)) (pe_fld (pv 0) rfl) (pv 5) (fun _ _ => rfl)) pe_non (nomark _)) (pss_one (ps_ret (pe_meth (pv 0) T.c_Giver T.h_Giver_turn (ok_Giver_turn T) (hr.mono (by decide)) T.p_Giver_turn .nil pass0 (pa_cons (pv 1) (pa_cons (pv 5) (pa_cons (pv 3) pa_nil)))))) pss_nil)
      (pss_cons (ps_expr (pe_bm PySem.F.plainAttrs_list PySem.F.slot_list_append PySem.F.type_list_append mt_append (pv 4) (pa_cons (pv 5) pa_nil)))
      (pss_cons (ps_set (i := 6) sc_Giver_give.nd rfl (by first | exact Or.inl rfl | exact Or.inr rfl) (pe_ix (ixa (K := K) (by rfl)) (pe_fld (pv 0) rfl) (pv 5) (fun _ _ => rfl)))
      (pss_cons (ps_for PassesOwn.never rfl (pi_range1 (by rfl) T.b_range (pa_cons (pe_fld (pv 0) rfl) pa_nil)) (pg_name (i := 7) sc_Giver_give.nd rfl (by first | exact Or.inl rfl | exact Or.inr rfl)) (pss_one (ps_if (PW.pt (pw_and (pt_cmpR (notIna (K := K) (by rfl)) (pv 7) (pv 4) (by rfl)) (pw_and1 (pt_cmpR op_lt (pe_meth (pv 0) T.c_Giver T.h_Giver_gap (ok_Giver_gap T) (hr.mono (by decide)) T.p_Giver_gap .nil pass0 (pa_cons (pv 6) (pa_cons (pv 7) pa_nil))) (pe_ix (ixa (K := K) (by rfl)) (pv 2) (pv 7) (fun _ _ => rfl)) (nomark _))))) (pss_cons (ps_asg (pe_meth (pv 0) T.c_Giver T.h_Giver_gap (ok_Giver_gap T) (hr.mono (by decide)) T.p_Giver_gap .nil pass0 (pa_cons (pv 6) (pa_cons (pv 7) pa_nil))) (pg_sub (pv 2) (pv 7) set_list))
      (pss_one (ps_asg (pv 5) (pg_sub (pv 3) (pv 7) set_list)))) pss_nil)))
      (pss_one (ps_set (i := 5) sc_Giver_give.nd rfl (by first | exact Or.inl rfl | exact Or.inr rfl) (pe_meth (pv 0) T.c_Giver T.h_Giver_least_open (ok_Giver_least_open T) (hr.mono (by decide)) T.p_Giver_least_open .nil pass0 (pa_cons (pv 2) (pa_cons (pv 4) pa_nil)))))))))))))))), ?_⟩
    try dsimp only [cxK, cxw, cxprog]
    have t0 := t.h0
    have t1 := t.le
    have t8 := t.w8
    have hk2 := hk.2
    have hk1 := hk.1
    have lr := hf.lr
    have lq := hf.lq
    have lo := hf.lo
    have w0 : 0 ≤ wide c := by omega
    have ew : ((wide c).toNat : Int) = wide c := Int.toNat_of_nonneg w0
    walk_at "go"
    refine gvW 3 W rfl cG n1 ?_
    walk_at "go"
    refine lc_rangeO (fun z => some (.int (gp c rs qs k (z : Int)))) W ⟨by omega, by omega⟩ (fun z S' H' R acc N hz W' hS E => ?_) (fun S1 H1 l acc W1 hS1 hacc => ?_)
    · walk_at "go"
      refine x_mthO 4 W' rfl rfl ?_
      walk_at "go"
      refine .mk (n := 1) W' rfl rfl rfl rfl (by walk_at "is") t lr lq hk ⟨by omega, by omega⟩ ?_
      walk_at "ly"
    rw [fm_map] at hacc
    have hacc2 := ints_of (ns := (List.range (wide c).toNat).map fun z : Nat => gp c rs qs k (z : Int)) (by rw [List.map_map]; exact hacc)
    subst hacc2
    have ll : (((List.range (wide c).toNat).map fun z : Nat => gp c rs qs k (z : Int)).length : Int) = wide c := by rw [List.length_map, List.length_range]; omega
    have hl : ∀ j, Bd (wide c) j → nth ((List.range (wide c).toNat).map fun z : Nat => gp c rs qs k (z : Int)) j = gp c rs qs k j := fun j hj => nth_eq (by
      rw [List.getElem?_map, List.getElem?_range (by have := hj.1; have := hj.2; omega)]
      show some (gp c rs qs k ((j.toNat : Nat) : Int)) = _
      rw [Int.toNat_of_nonneg hj.1])
    generalize (List.range (wide c).toNat).map (fun z : Nat => gp c rs qs k (z : Int)) = ls at *
    walk_at "go"
    refine x_own W1 (by simp) (fun a2 H2 W2 => ?_)
    walk_at "go"
    refine gvW 5 W2 rfl cG n1 ?_
    walk_at "go"
    refine x_rep W2 (by omega) (by omega) (fun S3 H3 b W3 hS3 => ?_)
    have eb : List.replicate (wide c).toNat V.non = (List.replicate (wide c).toNat (none : Option Int)).map oV := by rw [List.map_replicate]
    rw [eb] at W3
    have lb : ((List.replicate (wide c).toNat (none : Option Int)).length : Int) = wide c := by rw [List.length_replicate]; omega
    have M0 := mid_first hf ll hl lb (fun j hj => nth_eq (by rw [List.getElem?_replicate, if_pos (by have := hj.1; have := hj.2; omega)]))
    clear hl eb lb
    generalize List.replicate (wide c).toNat (none : Option Int) = bf at *
    walk_at "go"
    refine x_own W3 (by simp) (fun dn H4 W4 => ?_)
    walk_at "go"
    refine x_mthO 6 W4 rfl rfl ?_
    walk_at "go"
    refine .mk (a := 6) (m := 2) (n := 0) (ds := []) W4 rfl rfl rfl w0 t8 ll (by simp; omega) (fun z hz hzn hzm => ?_)
    walk_at "go"
    have hx3 : Dp K S3 x (tabD c) := by walk_at "is"
    refine x_while (fun m σ' H' => ∃ (g : Prop) (ls : List Int) (bf : List (Option Int)) (ds rs qs : List Int) (z : Int) (z6 z7 : Option V), σ' = [some (.ref p), some (.int k), some (.ref l), some (.ref b), some (.ref dn), some (.int z), z6, z7] ∧
      Mid g c k rs qs os ls bf ds ∧ (ds ≠ [] → g) ∧ Bd (wide c) z ∧ z ∉ ds ∧ (∀ j, Bd (wide c) j → j ∉ ds → nth ls z ≤ nth ls j) ∧ m + ds.length = k.toNat + 1 ∧
      Wd K S3 H' ((dn, .lst (ds.reverse.map V.int)) :: (b, .lst (bf.map oV)) :: (l, .lst (ls.map V.int)) :: (o, .lst (os.map oV)) :: (q, .lst (qs.map V.int)) :: (r, .lst (rs.map V.int)) :: (p, .ins d.c_Giver dx (gFs x (wide c) r q o)) :: (dx, .own p) :: O)) (k.toNat + 1)
      ⟨_, ls, bf, [], rs, qs, z, _, _, rfl, M0, fun h => h, hz, hzn, hzm, rfl, W4⟩ ?_
    clear hf lr lq lo W W1 W2 W3 W4 hacc M0 hz hzn hzm ll z ls bf rs qs
    rintro m σ' H' ⟨g, ls, bf, ds, rs, qs, z, z6, z7, rfl, M, hg, hz, hzn, hzm, hm, W'⟩
    have ll := M.ll
    have lo := M.h.lo
    obtain ⟨z0, z1⟩ := hz
    walk_at "go"
    refine x_again ?_
    walk_at "go"
    refine x_mthO 6 W' rfl rfl ?_
    walk_at "go"
    refine x_ixM 2 W' rfl z0 (by omega) ?_
    walk_at "go"
    refine .mk W' hk t8 w0 M (fun H5 rs5 qs5 ls5 R1 R2 R3 W5 => ?_)
    obtain ⟨M5, hl5⟩ := raise_mid hk M hg ⟨z0, z1⟩ hzn hzm R1 R2 R3
    clear R1 R2 R3 M
    have ll5 := M5.ll
    have lb5 := M5.lb
    have lr5 := M5.h.lr
    have lq5 := M5.h.lq
    walk_at "go"
    refine gvO 6 W5 rfl cG n2 ?_
    walk_at "go"
    refine x_ixOO 3 W5 rfl z0 (by omega) ?_
    walk_at "go"
    refine x_iteIN (fun ho => ?_) (fun i ho => ?_)
    · walk_at "go"
      refine x_mthO 6 W5 rfl rfl ?_
      walk_at "go"
      refine .mk W5 hk1 (mid_turn M5 ⟨z0, z1⟩ hzn hl5 ho) (fun H6 os6 hh W6 => ?_)
      have W7 := W6.give 0 rfl
      have hS7 := same_new (W6.atS 0 rfl) (o := .lst (ds.reverse.map V.int))
      have W8 := W7.give 0 rfl
      have hS8 := same_new (W7.atS 0 rfl) (o := .lst (bf.map oV))
      have W9 := W8.give 0 rfl
      have hS9 := same_new (W8.atS 0 rfl) (o := .lst (ls5.map V.int))
      exact kk _ _ rs5 qs5 os6 hh W9 (by walk_at "same")
    · have hi := M5.h.bdH hk2 ⟨z0, z1⟩ ho
      walk_at "go"
      refine x_app 0 W5 rfl (by have := ds_len M5; rw [List.length_map, List.length_reverse]; omega) (fun H6 W6 => ?_)
      have e6 : ds.reverse.map V.int ++ [V.int z] = (z :: ds).reverse.map V.int := by rw [List.reverse_cons, List.map_append]; rfl
      rw [e6] at W6
      clear e6
      walk_at "go"
      refine gvO 6 W6 rfl cG n2 ?_
      walk_at "go"
      refine x_ixOS 3 W6 rfl z0 (by omega) ho ?_
      walk_at "go"
      refine gvW 6 W6 rfl cG n1 ?_
      walk_at "go"
      refine x_forN (fun n σ' H' => ∃ (ls2 : List Int) (bf2 : List (Option Int)) (z7 : Option V), σ' = [some (.ref p), some (.int k), some (.ref l), some (.ref b), some (.ref dn), some (.int z), some (.int i), z7] ∧
        NewI c rs5 qs5 (z :: ds) i z (n : Int) ls5 ls2 bf bf2 ∧
        Wd K S3 H' ((dn, .lst ((z :: ds).reverse.map V.int)) :: (b, .lst (bf2.map oV)) :: (l, .lst (ls2.map V.int)) :: (o, .lst (os.map oV)) :: (q, .lst (qs5.map V.int)) :: (r, .lst (rs5.map V.int)) :: (p, .ins d.c_Giver dx (gFs x (wide c) r q o)) :: (dx, .own p) :: O)) ⟨by omega, by omega⟩
        ⟨ls5, bf, _, rfl, newI_zero, W6⟩ ?_ ?_
      · rintro n σ' H' hn ⟨ls2, bf2, z7, rfl, N, W7⟩
        have l2 := N.ll
        have b2 := N.lb
        walk_at "go"
        refine x_inO (neg := true) 0 W7 rfl ?_
        refine x_kx ?_
        refine x_iteTo (if_pos rfl) ?_
        refine x_iteND (fun hd => ?_) (fun hd => ?_)
        · have hd' : (n : Int) ∉ z :: ds := fun h => hd (List.mem_reverse.mpr h)
          walk_at "go"
          refine x_mthO 6 W7 rfl rfl ?_
          walk_at "go"
          refine .mk (n := 3) W7 rfl rfl rfl rfl hx3 t lr5 lq5 hi.1 ⟨by omega, by omega⟩ ?_
          walk_at "go"
          refine x_ixM 2 W7 rfl (by omega) (by omega) ?_
          walk_at "go"
          rw [(N.old (n : Int) ⟨by omega, by omega⟩ (.inr (Int.le_refl _))).1]
          refine x_iteD (fun hlt => ?_) (fun hlt => ?_)
          · walk_at "go"
            refine x_mthO 6 W7 rfl rfl ?_
            walk_at "go"
            refine .mk (n := 3) W7 rfl rfl rfl rfl hx3 t lr5 lq5 hi.1 ⟨by omega, by omega⟩ ?_
            walk_at "go"
            refine x_setM 2 W7 rfl (by omega) (by omega) (fun H8 W8 => ?_)
            walk_at "go"
            refine x_setO 1 W8 rfl (ixN_of (by omega) (by rw [List.length_map]; omega)) (fun H9 W9 => ?_)
            walk_at "go"
            refine ⟨_, bf2.set (n : Int).toNat (some z), _, rfl, newI_set ll5 lb5 ⟨by omega, by omega⟩ N hd' hlt, ?_⟩
            rw [List.map_set]
            exact W9
          · walk_at "go"
            exact ⟨_, _, _, rfl, newI_keep N hlt, W7⟩
        · walk_at "go"
          exact ⟨_, _, _, rfl, newI_skip N (List.mem_reverse.mp hd), W7⟩
      · rintro σ' H' ⟨ls2, bf2, z7, rfl, N, W7⟩
        rw [ew] at N
        have M7 := mid_next M5 ⟨z0, z1⟩ hzn hl5 ho (newI_end N)
        have hdl := ds_len M7
        rw [List.length_cons] at hdl
        walk_at "go"
        refine x_mthO 6 W7 rfl rfl ?_
        walk_at "go"
        refine .mk (a := 6) (m := 2) (n := 0) W7 rfl rfl rfl w0 t8 M7.ll (by rw [List.length_reverse, List.length_cons]; omega) (fun y hy hyn hym => ?_)
        walk_at "go"
        exact ⟨m - 1, by omega, _, ls2, bf2, z :: ds, rs5, qs5, y, _, _, rfl, M7, fun _ => trivial, hy, fun h => hyn (List.mem_reverse.mpr h), fun j hj hjn => hym j hj fun h => hjn (List.mem_reverse.mp h), by rw [List.length_cons]; omega, W7⟩
end
section
variable {P : Program} {w : World} {K : PySem.W.Frag} {mg : Str → Option Value} {base : Heap} {d : Ad}
theorem half_zero {c : List (List Int)} (w0 : 0 ≤ wide c) : Half c 0 (List.replicate c.length (0 : Int)) (List.replicate (wide c).toNat (0 : Int)) (List.replicate (wide c).toNat (none : Option Int)) := by
  have a1 : ∀ j, Bd (wide c) j → nth (List.replicate (wide c).toNat (none : Option Int)) j = none := fun j hj => nth_eq (by rw [List.getElem?_replicate, if_pos (by have := hj.1; have := hj.2; omega)])
  have a2 : ∀ j, Bd (wide c) j → nth (List.replicate (wide c).toNat (0 : Int)) j = 0 := fun j hj => nth_eq (by rw [List.getElem?_replicate, if_pos (by have := hj.1; have := hj.2; omega)])
  exact ⟨List.length_replicate, by rw [List.length_replicate]; omega, by rw [List.length_replicate]; omega, fun i j hi => (by have := hi.1; have := hi.2; omega), fun i j hj e => (by rw [a1 j hj] at e; cases e), fun j j' i hj _ e => (by rw [a1 j hj] at e; cases e),
    fun i hi => (by have := hi.1; have := hi.2; omega), fun j hj => (by rw [a2 j hj]; exact Int.le_refl _), fun j hj _ => a2 j hj⟩
inductive Sp_given_columns (K : PySem.W.Frag) (C : Addr) : List V → Hp → VK → XK → Prop
  | mk {S : Hp} {O : List (Addr × HO)} {c : List (List Int)} {x : V} {H : Hp} {Q : VK} {E : XK} (W : Wd K S H O) (h1 : Dp K S x (tabD c)) (hl : c.length ≤ 1000)
    (e : ¬ TabOk c → ∀ S' H', Wd K S' H' O → Same S S' → E (.ref C) none H')
    (k : TabOk c → ∀ S' H' v f r q, Wd K S' H' O → Same S S' → Dp K S' v (givD f r q) → GiveOk c f r q → Q v H') : Sp_given_columns K C [x] H Q E
theorem ok_given_columns (T : Txt K mg d) : FnOk P w K mg base (L2.CX P w) 4 d.a_given_columns d.f_given_columns ["costs"] (Sp_given_columns K d.c_NoTable) := by
  refine T.F_given_columns.okX sc_given_columns (fun vs H Q E h => ?_) (fun cdv A outer s H vs Q E hr h => ?_)
  · cases h; rfl
  · have hu := hu_of hr
    obtain ⟨W, h1, hl, e, k⟩ := h
    rename_i S O c x
    have cG := T.c_Giver
    have n1 := T.n_Giver_owner
    have n2 := T.n_Giver_rows
    have n3 := T.n_Giver_columns
    refine ⟨_, (pss_cons (ps_expr (pe_call (ok_look_table T) (hr.mono (by decide)) (by rfl) T.g_look_table T.k_look_table T.p_look_table .nil (passes_call (takes_of rfl rfl rfl rfl) (fun _ _ _ _ h => h)) (pa_cons (pv 0) pa_nil)))
      (pss_cons (ps_set (i := 1) sc_given_columns.nd rfl (by first | exact Or.inl rfl | exact Or.inr rfl) (pe_make T.m_Giver (ok_Giver_init T) (hr.mono (by decide)) (by rfl) T.g_Giver T.p_Giver_init .nil pass0 (pa_cons (pv 0) pa_nil)))
      (pss_cons (ps_for (passes_of rfl) rfl (pi_range1 (by rfl) T.b_range (pa_cons (pe_callB (lena (K := K) (by rfl)) (by rfl) T.b_len (by decide +kernel) (pa_cons (pv 0) pa_nil)) pa_nil)) (pg_name (i := 2) sc_given_columns.nd rfl (by first | exact Or.inl rfl | exact Or.inr rfl)) (pss_one (ps_expr (pe_meth (pv 1) T.c_Giver T.h_Giver_give (ok_Giver_give T) (hr.mono (by decide)) T.p_Giver_give .nil pass0 (pa_cons (pv 2) pa_nil)))))
      (pss_cons (ps_setLc (i := 3) (own := [("row", 2)]) rfl sc_given_columns.nd rfl rfl (sw_true rfl rfl rfl (by decide +kernel)) (pi_range1 (by rfl) T.b_range (pa_cons (pe_callB (lena (K := K) (by rfl)) (by rfl) T.b_len (by decide +kernel) (pa_cons (pv 0) pa_nil)) pa_nil)) (blkOk_by (by first | decide +kernel | exact Eq.refl true)) (fun _ _ _ _ _ => pg_name (i := 2) sc_given_columns.nd rfl (by first | exact Or.inl rfl | exact Or.inr rfl)) (fun _ _ _ _ _ => pts_nil) (fun _ _ _ _ _ => (bma (K := K) (by rfl) PySem.F.plainAttrs_list PySem.F.slot_list_index PySem.F.type_list_index (idxa (K := K) (by rfl)) (flda (K := K) (by rfl) (pv 1) rfl) (pa_cons (pv 2) pa_nil))))
      (pss_one (ps_ret (pe_tup (pa_cons (pv 3) (pa_cons (pe_fld (pv 1) rfl) (pa_cons (pe_fld (pv 1) rfl) pa_nil)))))))))), ?_⟩
    try dsimp only [cxK, cxw, cxprog]
    walk_at "go"
    refine .mk W h1 hl e (fun t S1 H1 W1 hS1 => ?_)
    have t0 := t.h0
    have t1 := t.le
    have t8 := t.w8
    have hx1 : Dp K S1 x (tabD c) := by walk_at "is"
    walk_at "go"
    refine x_make ?_
    walk_at "go"
    refine x_mak W1 (fun p dx H2 W2 => ?_)
    refine .mk W2 hx1 t (fun S3 H3 r q o W3 hS3 => ?_)
    refine ⟨rfl, ?_⟩
    walk_at "go"
    refine x_forNL (fun i σ' H' => ∃ (S' : Hp) (rs qs : List Int) (os : List (Option Int)) (z2 : Option V), σ' = [some x, some (.ref p), z2, none] ∧ Half c (i : Int) rs qs os ∧ Same S3 S' ∧
      Wd K S' H' ((o, .lst (os.map oV)) :: (q, .lst (qs.map V.int)) :: (r, .lst (rs.map V.int)) :: (p, .ins d.c_Giver dx (gFs x (wide c) r q o)) :: (dx, .own p) :: O)) (by omega)
      ⟨S3, _, _, _, _, rfl, half_zero (by omega), Same.refl _, W3⟩ ?_ ?_
    · rintro i σ' H' hi ⟨S', rs, qs, os, z2, rfl, hh, hS', W'⟩
      walk_at "go"
      refine x_mthO 3 W' rfl rfl ?_
      walk_at "go"
      refine .mk W' (by walk_at "is") t ⟨by omega, by omega⟩ hh (fun S4 H4 rs4 qs4 os4 hh4 W4 hS4 => ?_)
      walk_at "go"
      exact ⟨S4, rs4, qs4, os4, _, rfl, hh4, by walk_at "same", W4⟩
    · rintro σ' H' ⟨S', rs, qs, os, z2, rfl, hh, hS', W'⟩
      have lo := hh.lo
      have hx' : Dp K S' x (tabD c) := by walk_at "is"
      walk_at "go"
      rw [List.length_map]
      have hall : ∀ i : Nat, i < c.length → ∃ j, Bd (wide c) j ∧ nth os j = some (i : Int) := fun i hi => hh.all (i : Int) ⟨by omega, by omega⟩
      obtain ⟨G, hG⟩ : ∃ G : Nat → Int, ∀ i, i < c.length → Bd (wide c) (G i) ∧ nth os (G i) = some (i : Int) := ⟨fun i => if h : i < c.length then Classical.choose (hall i h) else 0, fun i hi => by
        simp only [hi, dite_true]
        exact Classical.choose_spec (hall i hi)⟩
      refine lcr_map PyData.int G W' ⟨by omega, by omega⟩ (fun i S6 H6 R acc N hi W6 hS6 E => ?_) (fun S6 H6 v6 W6 hS6 hv6 => ?_)
      · rw [Int.toNat_natCast] at hi
        obtain ⟨g1, g2⟩ := hG i hi
        walk_at "go"
        refine gvO 4 W6 rfl cG n1 ?_
        refine x_bmo 1 W6 rfl ?_
        walk_at "go"
        refine x_idxO 1 W6 rfl (by rw [lo]; exact g1) g2 (fun j' hj' e' => hh.inj j' (G i) _ (by rw [lo] at hj'; exact hj') g1 e' g2) ?_
        walk_at "ly"
      · rw [Int.toNat_natCast] at hv6
        walk_at "go"
        refine gvR 3 W6 rfl cG n2 ?_
        walk_at "go"
        refine gvQ 3 W6 rfl cG n3 ?_
        walk_at "go"
        refine x_giveO W6 (fun S7 W7 hS7 ho7 => ?_)
        refine x_giveI W7 (fun S8 W8 hS8 hq8 => ?_)
        refine x_giveI W8 (fun S9 W9 hS9 hr9 => ?_)
        have W10 := W9.give 0 rfl
        have hS10 := same_new (W9.atS 0 rfl) (o := .ins d.c_Giver dx (gFs x (wide c) r q o))
        have W11 := W10.give 0 rfl
        have hS11 := same_new (W10.atS 0 rfl) (o := .own p)
        have hvf : Dp K _ v6 (rowD ((List.range c.length).map G)) := dp_mono hS11 (dp_mono hS10 (dp_mono hS9 (dp_mono hS8 (dp_mono hS7 hv6))))
        refine x_tup (ds := [rowD ((List.range c.length).map G), rowD rs, rowD qs]) W11 (.cons hvf (.cons (by walk_at "is") (.cons (by walk_at "is") .nil))) (by simp) (fun S12 H12 v12 W12 hS12 hv12 => ?_)
        refine k t _ _ _ ((List.range c.length).map G) rs qs W12 (by walk_at "same") hv12 (give_of hh (by rw [List.length_map, List.length_range]) (fun i hi => ?_))
        obtain ⟨i0, i1⟩ := hi
        have e9 : nth ((List.range c.length).map G) i = G i.toNat := nth_eq (by rw [List.getElem?_map, List.getElem?_range (by omega)]; rfl)
        rw [e9]
        have := hG i.toNat (by omega)
        rw [Int.toNat_of_nonneg i0] at this
        exact this
end
section
variable {P : Program} {w : World} {K : PySem.W.Frag} {mg : Str → Option Value} {base : Heap} {d : Ad}
inductive Sp_law_refused (K : PySem.W.Frag) : List V → Hp → VK → XK → Prop
  | mk {S : Hp} {O : List (Addr × HO)} {c : List (List Int)} {x : V} {H : Hp} {Q : VK} {E : XK} (W : Wd K S H O) (h1 : Dp K S x (tabD c)) (hl : c.length ≤ 1000) (n : ¬ TabOk c)
    (k : ∀ S' H', Wd K S' H' O → Same S S' → Q (.bl true) H') : Sp_law_refused K [x] H Q E
theorem ok_law_refused (T : Txt K mg d) : FnOk P w K mg base CX0 5 d.a_law_refused d.f_law_refused ["_law_costs"] (Sp_law_refused K) := by
  refine T.F_law_refused.ok sc_law_refused (fun vs H Q E h => ?_) (fun cdv A outer s H vs Q E hr h => ?_)
  · cases h; rfl
  · have hu := hu_of hr
    obtain ⟨W, h1, hl, n, k⟩ := h
    rename_i S O c x
    have y1 := T.y_NoTable
    have q1 := T.q_NoTable_NoTable
    have q2 := T.q_NoTable_ValueError
    refine ⟨_, (pss_cons (ps_set (i := 1) sc_law_refused.nd rfl (by first | exact Or.inl rfl | exact Or.inr rfl) pe_bl)
      (pss_cons (ps_try_as (i := 2) (Wout := fun _ _ _ _ => False) rfl rfl sc_law_refused.nd rfl rfl ⟨rfl, by decide, Or.inl T.g_BestError⟩ takes0 (fun W pn xe tk _ => (pss_one (ps_expr (by exact (pe_callS (ok_given_columns T) (hr.mono (by decide)) rfl T.g_given_columns T.k_given_columns T.p_given_columns (fun σ => passAt tk σ) (by exact (pa_cons (by exact pv 0) pa_nil))))))) (fun a oe cls d' pn hz hf => (pss_one (ps_set (i := 1) sc_law_refused.nd rfl (by first | exact Or.inl rfl | exact Or.inr rfl) (pe_and (pe_callB (call_isX hz hf) (by rfl) T.b_isinstance (by decide +kernel) (pa_cons (pv 2) (pa_cons (pe_glob (v := .ref d.c_NoTable) (by rfl) T.g_NoTable rfl) pa_nil))) (pe_one (pe_callB (call_isX hz hf) (by rfl) T.b_isinstance (by decide +kernel) (pa_cons (pv 2) (pa_cons (pe_bltn (v := .ty "ValueError") (by rfl) T.b_ValueError (by decide +kernel) rfl) pa_nil)))))))))
      (pss_one (ps_ret (pv 1))))), ?_⟩
    try dsimp only [cxK, cxw, cxprog]
    walk_at "go"
    refine .mk W h1 hl (fun _ S' H' W' hS => ?_) (fun t => absurd t n)
    refine ⟨true, T.e_NoTable_BestError, fun _ a _ => ?_, fun q => Bool.noConfusion q⟩
    walk_at "go"
    exact k S' H' W' hS
end
section
variable {P : Program} {w : World} {K : PySem.W.Frag} {mg : Str → Option Value} {base : Heap} {d : Ad}
inductive Sp_are_prices (K : PySem.W.Frag) : List V → Hp → VK → XK → Prop
  | mk {S : Hp} {O : List (Addr × HO)} {c : List (List Int)} {rs qs : List Int} {x y z : V} {H : Hp} {Q : VK} {E : XK} (W : Wd K S H O) (h1 : Dp K S x (tabD c)) (t : TabOk c) (h2 : Dp K S y (rowD rs)) (h3 : Dp K S z (rowD qs)) (lr : rs.length = c.length) (lq : (qs.length : Int) = wide c)
    (k : ∀ S' H', Wd K S' H' O → Same S S' → Q (.bl (fairB c rs qs)) H') : Sp_are_prices K [x, y, z] H Q E
theorem ok_are_prices (T : Txt K mg d) : FnOk P w K mg base CX0 1 d.a_are_prices d.f_are_prices ["costs", "rows", "columns"] (Sp_are_prices K) := by
  refine T.F_are_prices.ok sc_are_prices (fun vs H Q E h => ?_) (fun cdv A outer s H vs Q E hr h => ?_)
  · cases h; rfl
  · have hu := hu_of hr
    obtain ⟨W, h1, t, h2, h3, lr, lq, k⟩ := h
    rename_i S O c rs qs x y z
    refine ⟨_, (pss_cons (ps_for PassesOwn.never rfl (pi_range1 (by rfl) T.b_range (pa_cons (pe_callB (lena (K := K) (by rfl)) (by rfl) T.b_len (by decide +kernel) (pa_cons (pv 0) pa_nil)) pa_nil)) (pg_name (i := 3) sc_are_prices.nd rfl (by first | exact Or.inl rfl | exact Or.inr rfl)) (pss_one (ps_for PassesOwn.never rfl (pi_range1 (by rfl) T.b_range (pa_cons (pe_callB (lena (K := K) (by rfl)) (by rfl) T.b_len (by decide +kernel) (pa_cons (pe_ix (ixa (K := K) (by rfl)) (pv 0) (pv 3) (fun _ _ => rfl)) pa_nil)) pa_nil)) (pg_name (i := 4) sc_are_prices.nd rfl (by first | exact Or.inl rfl | exact Or.inr rfl)) (pss_one (ps_if (pt_cmpR op_gt (pe_op op_add (pe_ix (ixa (K := K) (by rfl)) (pv 1) (pv 3) (fun _ _ => rfl)) (pe_ix (ixa (K := K) (by rfl)) (pv 2) (pv 4) (fun _ _ => rfl))) (pe_ix (ixa (K := K) (by rfl)) (pe_ix (ixa (K := K) (by rfl)) (pv 0) (pv 3) (fun _ _ => rfl)) (pv 4) (fun _ _ => rfl)) (nomark _)) (pss_one (ps_ret pe_bl)) pss_nil)))))
      (pss_one (ps_ret (pe_callB (alla (K := K) (by rfl) rfl) (by rfl) T.b_all (by decide +kernel) (pa_cons (pe_lc (own := [("price", 5)]) rfl sc_are_prices.nd (pi_list (pv 2)) (blkOk_by (by first | decide +kernel | exact Eq.refl true)) (fun _ _ _ _ _ => pg_name (i := 5) sc_are_prices.nd rfl (by first | exact Or.inl rfl | exact Or.inr rfl)) (fun _ _ _ _ _ => pts_nil) (fun _ _ _ _ _ => (pe_cmpR op_le (pv 5) pe_int (nomark _)))) pa_nil))))), ?_⟩
    try dsimp only [cxK, cxw, cxprog]
    have t0 := t.h0
    have t8 := t.w8
    have t1 := t.le
    walk_at "go"
    refine x_forNL (fun i σ' H' => ∃ z3 z4 : Option V, σ' = [some x, some y, some z, z3, z4, none] ∧ H' = H ∧ ∀ i' : Nat, i' < i → ∀ j : Nat, (j : Int) < wide c → nth rs (i' : Int) + nth qs (j : Int) ≤ co c (i' : Int) (j : Int)) (by omega) ⟨_, _, rfl, rfl, fun i' h => (by omega)⟩ ?_ ?_
    · rintro i σ' H' hi ⟨z3, z4, rfl, rfl, hA⟩
      have hrow := t.rows (nth c (i : Int)) (nth_mem (by omega) (by omega))
      walk_at "go"
      rw [show (((nth c (i : Int)).map PyData.int).length : Int) = wide c by rw [List.length_map]; exact hrow]
      refine x_forN (fun j σ' H'' => ∃ z4 : Option V, σ' = [some x, some y, some z, some (.int (i : Int)), z4, none] ∧ H'' = H' ∧ ∀ j' : Nat, j' < j → nth rs (i : Int) + nth qs (j' : Int) ≤ co c (i : Int) (j' : Int)) ⟨by omega, by omega⟩ ⟨_, rfl, rfl, fun j' h => (by omega)⟩ ?_ ?_
      · rintro j σ' H'' hj ⟨z4, rfl, rfl, hB⟩
        have hj' : (j : Int) < wide c := by omega
        walk_at "go"
        refine x_iteD (fun hgt => ?_) (fun hle => ?_)
        · walk_at "go"
          have hk := k S _ W (Same.refl _)
          rw [fairB_no (i := i) (j := j) hi hj' (by unfold co; omega)] at hk
          exact hk
        · walk_at "go"
          refine ⟨_, rfl, rfl, fun j' h => ?_⟩
          by_cases e : j' = j
          · subst e
            unfold co
            omega
          · exact hB j' (by omega)
      · rintro σ' H'' ⟨z4, rfl, rfl, hB⟩
        refine ⟨_, _, rfl, rfl, fun i' h j hj => ?_⟩
        by_cases e : i' = i
        · subst e
          exact hB j (by omega)
        · exact hA i' (by omega) j hj
    · rintro σ' H' ⟨z3, z4, rfl, rfl, hA⟩
      walk_at "go"
      refine lc_map PyData.bool (fun p : Int => decide (p ≤ 0)) W h3 (by omega) (fun p S' H' R acc N hp W' hS E => kn_int ?_) (fun S' H' v W' hS hv => ?_)
      · walk_at "go"
        walk_at "ly"
      · walk_at "go"
        have hk := k S' H' W' hS
        rw [fairB_all hA] at hk
        rw [List.all_map]
        exact hk
end
section
variable {P : Program} {w : World} {K : PySem.W.Frag} {mg : Str → Option Value} {base : Heap} {d : Ad}
inductive Sp_law_cell (K : PySem.W.Frag) : List V → Hp → VK → XK → Prop
  | mk {S : Hp} {O : List (Addr × HO)} {ns : List Int} {i : Int} {x : V} {H : Hp} {Q : VK} {E : XK} (W : Wd K S H O) (h : Dp K S x (.list (ns.map PyData.int)))
    (k : Q (.int (cell ns i)) H) : Sp_law_cell K [x, .int i] H Q E
theorem ok_law_cell (T : Txt K mg d) : FnOk P w K mg base CX0 1 d.a_law_cell d.f_law_cell ["_law_script", "_law_k"] (Sp_law_cell K) := by
  refine T.F_law_cell.ok sc_law_cell (fun vs H Q E h => ?_) (fun cdv A outer s H vs Q E hr h => ?_)
  · cases h; rfl
  · have hu := hu_of hr
    obtain ⟨W, h, k⟩ := h
    rename_i S O ns i x
    refine ⟨_, (pss_cons (ps_if (trutha (K := K) (by rfl) (pv 0) (by intro _; rfl)) (pss_one (ps_ret (pe_ix (ixa (K := K) (by rfl)) (pv 0) (pe_op op_mod (pv 1) (pe_callB (lena (K := K) (by rfl)) (by rfl) T.b_len (by decide +kernel) (pa_cons (pv 0) pa_nil))) (fun _ _ => rfl)))) pss_nil)
      (pss_one (ps_ret pe_int))), ?_⟩
    try dsimp only [cxK, cxw, cxprog]
    walk_at "go"
    refine x_iteN (fun he => ?_) (fun he => ?_)
    · have hl : (0 : Int) < (ns.map PyData.int).length := by
        cases ns with
        | nil => simp at he
        | cons a r => simp only [List.length_map, List.length_cons]; omega
      walk_at "go"
      have h0 := Int.emod_nonneg i (show ((ns.map PyData.int).length : Int) ≠ 0 by omega)
      have h2 := Int.emod_lt_of_pos i hl
      simp only [List.length_map] at h0 h2 hl
      rw [List.length_map]
      refine x_ixL W h (atI_map (f := PyData.int) h0 h2) (kn_int ?_)
      have e : cell ns i = nth ns (i % (ns.length : Int)) := by
        unfold cell
        rw [if_neg]
        · intro z
          rw [z] at hl
          simp at hl
      rw [← e]
      exact k
    · walk_at "go"
      have e : cell ns i = 0 := by
        unfold cell
        rw [if_pos]
        cases ns with
        | nil => rfl
        | cons a r => simp at he
      rw [← e]
      exact k
end
section
variable {P : Program} {w : World} {K : PySem.W.Frag} {mg : Str → Option Value} {base : Heap} {d : Ad}
inductive Sp_law_mix (K : PySem.W.Frag) : List V → Hp → VK → XK → Prop
  | mk {S : Hp} {O : List (Addr × HO)} {ns : List Int} {i : Int} {x : V} {H : Hp} {Q : VK} {E : XK} (W : Wd K S H O) (h : Dp K S x (.list (ns.map PyData.int)))
    (k : Q (.int (mix ns i)) H) : Sp_law_mix K [x, .int i] H Q E
theorem ok_law_mix (T : Txt K mg d) : FnOk P w K mg base CX0 2 d.a_law_mix d.f_law_mix ["_law_script", "_law_k"] (Sp_law_mix K) := by
  refine T.F_law_mix.ok sc_law_mix (fun vs H Q E h => ?_) (fun cdv A outer s H vs Q E hr h => ?_)
  · cases h; rfl
  · have hu := hu_of hr
    obtain ⟨W, h, k⟩ := h
    rename_i S O ns i x
    refine ⟨_, (pss_cons (ps_set (i := 2) sc_law_mix.nd rfl (by first | exact Or.inl rfl | exact Or.inr rfl) (pe_op op_mod (pe_op op_add (pe_call (ok_law_cell T) (hr.mono (by decide)) (by rfl) T.g_law_cell T.k_law_cell T.p_law_cell .nil pass0 (pa_cons (pv 0) (pa_cons (pv 1) pa_nil))) (pe_op op_mul pe_int (pe_op op_add (pv 1) pe_int))) pe_int))
      (pss_cons (ps_set (i := 2) sc_law_mix.nd rfl (by first | exact Or.inl rfl | exact Or.inr rfl) (pe_op op_mod (pe_op op_mul (pv 2) pe_int) pe_int))
      (pss_one (ps_ret (pe_op op_mod (pe_op op_add (pe_op op_mul (pe_op op_fdiv (pv 2) pe_int) pe_int) (pv 2)) pe_int))))), ?_⟩
    try dsimp only [cxK, cxw, cxprog]
    walk_at "go"
    refine .mk W h ?_
    walk_at "go"
    exact k
end
local macro_rules | `(tactic| walk_at "st") => `(tactic| (with_reducible refine Sp_law_mix.mk (by assumption) (by walk_at "is") ?_))
section
variable {P : Program} {w : World} {K : PySem.W.Frag} {mg : Str → Option Value} {base : Heap} {d : Ad}
inductive Sp_law_fair (K : PySem.W.Frag) : List V → Hp → VK → XK → Prop
  | mk {S : Hp} {O : List (Addr × HO)} {c : List (List Int)} {rs qs : List Int} {x y z : V} {H : Hp} {Q : VK} {E : XK} (W : Wd K S H O) (h1 : Dp K S x (tabD c)) (t : TabOk c) (h2 : Dp K S y (rowD rs)) (h3 : Dp K S z (rowD qs)) (lr : rs.length = c.length) (lq : (qs.length : Int) = wide c)
    (k : ∀ S' H', Wd K S' H' O → Same S S' → Q (.bl (fairB c rs qs)) H') : Sp_law_fair K [x, y, z] H Q E
theorem ok_law_fair (T : Txt K mg d) : FnOk P w K mg base CX0 1 d.a_law_fair d.f_law_fair ["_law_costs", "_law_rows", "_law_columns"] (Sp_law_fair K) := by
  refine T.F_law_fair.ok sc_law_fair (fun vs H Q E h => ?_) (fun cdv A outer s H vs Q E hr h => ?_)
  · cases h; rfl
  · have hu := hu_of hr
    obtain ⟨W, h1, t, h2, h3, lr, lq, k⟩ := h
    rename_i S O c rs qs x y z
    refine ⟨_, (pss_cons (ps_for PassesOwn.never rfl (pi_range1 (by rfl) T.b_range (pa_cons (pe_callB (lena (K := K) (by rfl)) (by rfl) T.b_len (by decide +kernel) (pa_cons (pv 0) pa_nil)) pa_nil)) (pg_name (i := 3) sc_law_fair.nd rfl (by first | exact Or.inl rfl | exact Or.inr rfl)) (pss_one (ps_for PassesOwn.never rfl (pi_range1 (by rfl) T.b_range (pa_cons (pe_callB (lena (K := K) (by rfl)) (by rfl) T.b_len (by decide +kernel) (pa_cons (pe_ix (ixa (K := K) (by rfl)) (pv 0) pe_int (fun _ _ => rfl)) pa_nil)) pa_nil)) (pg_name (i := 4) sc_law_fair.nd rfl (by first | exact Or.inl rfl | exact Or.inr rfl)) (pss_one (ps_if (pt_cmpR op_gt (pe_op op_add (pe_ix (ixa (K := K) (by rfl)) (pv 1) (pv 3) (fun _ _ => rfl)) (pe_ix (ixa (K := K) (by rfl)) (pv 2) (pv 4) (fun _ _ => rfl))) (pe_ix (ixa (K := K) (by rfl)) (pe_ix (ixa (K := K) (by rfl)) (pv 0) (pv 3) (fun _ _ => rfl)) (pv 4) (fun _ _ => rfl)) (nomark _)) (pss_one (ps_ret pe_bl)) pss_nil)))))
      (pss_one (ps_ret (pe_callB (alla (K := K) (by rfl) rfl) (by rfl) T.b_all (by decide +kernel) (pa_cons (pe_lc (own := [("_law_price", 5)]) rfl sc_law_fair.nd (pi_list (pv 2)) (blkOk_by (by first | decide +kernel | exact Eq.refl true)) (fun _ _ _ _ _ => pg_name (i := 5) sc_law_fair.nd rfl (by first | exact Or.inl rfl | exact Or.inr rfl)) (fun _ _ _ _ _ => pts_nil) (fun _ _ _ _ _ => (pe_cmpR op_le (pv 5) pe_int (nomark _)))) pa_nil))))), ?_⟩
    try dsimp only [cxK, cxw, cxprog]
    have t0 := t.h0
    have t8 := t.w8
    have t1 := t.le
    walk_at "go"
    refine x_forNL (fun i σ' H' => ∃ z3 z4 : Option V, σ' = [some x, some y, some z, z3, z4, none] ∧ H' = H ∧ ∀ i' : Nat, i' < i → ∀ j : Nat, (j : Int) < wide c → nth rs (i' : Int) + nth qs (j : Int) ≤ co c (i' : Int) (j : Int)) (by omega) ⟨_, _, rfl, rfl, fun i' h => (by omega)⟩ ?_ ?_
    · rintro i σ' H' hi ⟨z3, z4, rfl, rfl, hA⟩
      have hrow := t.rows (nth c (i : Int)) (nth_mem (by omega) (by omega))
      walk_at "go"
      rw [show (((nth c 0).map PyData.int).length : Int) = wide c by rw [List.length_map]; rfl]
      refine x_forN (fun j σ' H'' => ∃ z4 : Option V, σ' = [some x, some y, some z, some (.int (i : Int)), z4, none] ∧ H'' = H' ∧ ∀ j' : Nat, j' < j → nth rs (i : Int) + nth qs (j' : Int) ≤ co c (i : Int) (j' : Int)) ⟨by omega, by omega⟩ ⟨_, rfl, rfl, fun j' h => (by omega)⟩ ?_ ?_
      · rintro j σ' H'' hj ⟨z4, rfl, rfl, hB⟩
        have hj' : (j : Int) < wide c := by omega
        walk_at "go"
        refine x_iteD (fun hgt => ?_) (fun hle => ?_)
        · walk_at "go"
          have hk := k S _ W (Same.refl _)
          rw [fairB_no (i := i) (j := j) hi hj' (by unfold co; omega)] at hk
          exact hk
        · walk_at "go"
          refine ⟨_, rfl, rfl, fun j' h => ?_⟩
          by_cases e : j' = j
          · subst e
            unfold co
            omega
          · exact hB j' (by omega)
      · rintro σ' H'' ⟨z4, rfl, rfl, hB⟩
        refine ⟨_, _, rfl, rfl, fun i' h j hj => ?_⟩
        by_cases e : i' = i
        · subst e
          exact hB j (by omega)
        · exact hA i' (by omega) j hj
    · rintro σ' H' ⟨z3, z4, rfl, rfl, hA⟩
      walk_at "go"
      refine lc_map PyData.bool (fun p : Int => decide (p ≤ 0)) W h3 (by omega) (fun p S' H' R acc N hp W' hS E => kn_int ?_) (fun S' H' v W' hS hv => ?_)
      · walk_at "go"
        walk_at "ly"
      · walk_at "go"
        have hk := k S' H' W' hS
        rw [fairB_all hA] at hk
        rw [List.all_map]
        exact hk
end
section
variable {P : Program} {w : World} {K : PySem.W.Frag} {mg : Str → Option Value} {base : Heap} {d : Ad}
inductive Sp_total (K : PySem.W.Frag) : List V → Hp → VK → XK → Prop
  | mk {S : Hp} {O : List (Addr × HO)} {c : List (List Int)} {f : List Int} {x y : V} {H : Hp} {Q : VK} {E : XK} (W : Wd K S H O) (h1 : Dp K S x (tabD c)) (t : TabOk c) (h2 : Dp K S y (rowD f)) (lf : f.length = c.length) (hf : ∀ j ∈ f, Bd (wide c) j)
    (k : ∀ S' H', Wd K S' H' O → Same S S' → Q (.int (((List.range c.length).map fun k : Nat => co c (k : Int) (nth f (k : Int))).sum)) H') : Sp_total K [x, y] H Q E
theorem ok_total (T : Txt K mg d) : FnOk P w K mg base CX0 1 d.a_total d.f_total ["costs", "found"] (Sp_total K) := by
  refine T.F_total.ok sc_total (fun vs H Q E h => ?_) (fun cdv A outer s H vs Q E hr h => ?_)
  · cases h; rfl
  · have hu := hu_of hr
    obtain ⟨W, h1, t, h2, lf, hf, k⟩ := h
    rename_i S O c f x y
    refine ⟨_, (pss_one (ps_ret (pe_callB (suma (K := K) (by rfl) rfl) (by rfl) T.b_sum (by decide +kernel) (pa_cons (pe_lc (own := [("k", 2)]) rfl sc_total.nd (pi_range1 (by rfl) T.b_range (pa_cons (pe_callB (lena (K := K) (by rfl)) (by rfl) T.b_len (by decide +kernel) (pa_cons (pv 0) pa_nil)) pa_nil)) (blkOk_by (by first | decide +kernel | exact Eq.refl true)) (fun _ _ _ _ _ => pg_name (i := 2) sc_total.nd rfl (by first | exact Or.inl rfl | exact Or.inr rfl)) (fun _ _ _ _ _ => pts_nil) (fun _ _ _ _ _ => (pe_ix (ixa (K := K) (by rfl)) (pe_ix (ixa (K := K) (by rfl)) (pv 0) (pv 2) (fun _ _ => rfl)) (pe_ix (ixa (K := K) (by rfl)) (pv 1) (pv 2) (fun _ _ => rfl)) (fun _ _ => rfl)))) pa_nil)))), ?_⟩
    try dsimp only [cxK, cxw, cxprog]
    have t8 := t.w8
    have t1 := t.le
    walk_at "go"
    rw [List.length_map]
    refine lcr_map PyData.int (fun i : Nat => co c (i : Int) (nth f (i : Int))) W ⟨by omega, by omega⟩ (fun i S' H' R acc N hi W' hS E => ?_) (fun S1 H1 v1 W1 hS1 hv1 => ?_)
    · rw [Int.toNat_natCast] at hi
      have hrow := t.rows (nth c (i : Int)) (nth_mem (by omega) (by omega))
      obtain ⟨j0, j1⟩ := hf (nth f (i : Int)) (nth_mem (by omega) (by omega))
      have hx' : Dp K S' x (tabD c) := by walk_at "is"
      have hy' : Dp K S' y (rowD f) := by walk_at "is"
      walk_at "go"
      walk_at "ly"
    · rw [Int.toNat_natCast] at hv1
      walk_at "go"
      exact k S1 H1 W1 hS1
end
section
variable {P : Program} {w : World} {K : PySem.W.Frag} {mg : Str → Option Value} {base : Heap} {d : Ad}
inductive Sp_law_cheapest (K : PySem.W.Frag) (n : Nat) : List V → Hp → VK → XK → Prop
  | mk {S : Hp} {O : List (Addr × HO)} {c : List (List Int)} {row : Int} {used : List Int} {x y : V} {H : Hp} {Q : VK} {E : XK} (W : Wd K S H O) (h1 : Dp K S x (tabD c)) (t : TabOk c) (h2 : Dp K S y (rowD used)) (r0 : 0 ≤ row) (r1 : row ≤ c.length) (hn : (c.length : Int) < row + n) (hu : (used.length : Int) = row)
    (k : ∀ S' H' m, Wd K S' H' O → Same S S' → IsBest c row used m → Q (.int m) H') : Sp_law_cheapest K n [x, .int row, y] H Q E
theorem okr_law_cheapest (T : Txt K mg d) : ∀ n : Nat, FnOk P w K mg base CX0 n d.a_law_cheapest d.f_law_cheapest ["_law_costs", "_law_row", "_law_used"] (Sp_law_cheapest K n)
  | 0 => ⟨fun vs H Q E h => (by cases h; omega), fun A outer s H as us vs Q E hr he hb hv h => (by cases h; omega)⟩
  | n + 1 => by
    have ih := okr_law_cheapest T n
    refine T.F_law_cheapest.ok sc_law_cheapest (fun vs H Q E h => ?_) (fun cdv A outer s H vs Q E hr h => ?_)
    · cases h; rfl
    · have hu := hu_of hr
      obtain ⟨W, h1, t, h2, r0, r1, hn, hu', k⟩ := h
      rename_i S O c row used x y
      refine ⟨_, (pss_cons (ps_if (pt_cmpR op_eq (pv 1) (pe_callB (lena (K := K) (by rfl)) (by rfl) T.b_len (by decide +kernel) (pa_cons (pv 0) pa_nil)) (nomark _)) (pss_one (ps_ret pe_int)) pss_nil)
        (pss_cons (ps_set (i := 3) sc_law_cheapest.nd rfl (by first | exact Or.inl rfl | exact Or.inr rfl) pe_non)
        (pss_cons (ps_for PassesOwn.never rfl (pi_range1 (by rfl) T.b_range (pa_cons (pe_callB (lena (K := K) (by rfl)) (by rfl) T.b_len (by decide +kernel) (pa_cons (pe_ix (ixa (K := K) (by rfl)) (pv 0) (pv 1) (fun _ _ => rfl)) pa_nil)) pa_nil)) (pg_name (i := 4) sc_law_cheapest.nd rfl (by first | exact Or.inl rfl | exact Or.inr rfl)) (pss_one (ps_if (pt_cmpR (notIna (K := K) (by rfl)) (pv 4) (pv 2) (by rfl)) (pss_cons (ps_set (i := 5) sc_law_cheapest.nd rfl (by first | exact Or.inl rfl | exact Or.inr rfl) (pe_op op_add (pe_ix (ixa (K := K) (by rfl)) (pe_ix (ixa (K := K) (by rfl)) (pv 0) (pv 1) (fun _ _ => rfl)) (pv 4) (fun _ _ => rfl)) (pe_call ih (hr.mono (Nat.le_refl _)) (by rfl) T.g_law_cheapest T.k_law_cheapest T.p_law_cheapest .nil pass0 (pa_cons (pv 0) (pa_cons (pe_op op_add (pv 1) pe_int) (pa_cons (pe_op op_catS (pv 2) (pe_lst (pa_cons (pv 4) pa_nil))) pa_nil))))))
        (pss_one (ps_if (PW.pt (pw_or (pt_cmpR ol_isN (pv 3) pe_non (nomark _)) (pw_or1 (pt_cmpR op_lt (pv 5) (pv 3) (nomark _))))) (pss_one (ps_set (i := 3) sc_law_cheapest.nd rfl (by first | exact Or.inl rfl | exact Or.inr rfl) (pv 5))) pss_nil))) pss_nil)))
        (pss_one (ps_ret (pv 3)))))), ?_⟩
      try dsimp only [cxK, cxw, cxprog]
      have t8 := t.w8
      have t1 := t.le
      walk_at "go"
      rw [List.length_map]
      refine x_iteD (fun he => ?_) (fun he => ?_)
      · walk_at "go"
        subst he
        exact k S _ 0 W (Same.refl _) best_end
      · have hlt : row < c.length := by omega
        have hrow := t.rows (nth c row) (nth_mem r0 hlt)
        walk_at "go"
        rw [show (((nth c row).map PyData.int).length : Int) = wide c by rw [List.length_map]; exact hrow]
        refine x_forN (fun i σ' H' => ∃ (S' : Hp) (o : Option Int) (z4 z5 : Option V), σ' = [some x, some (.int row), some y, some (oV o), z4, z5] ∧ Wd K S' H' O ∧ Same S S' ∧ Tried c row used (i : Int) o) ⟨by omega, by omega⟩
          ⟨S, none, _, _, rfl, W, Same.refl _, tried_zero⟩ ?_ ?_
        · rintro i σ' H' hi ⟨S', o, z4, z5, rfl, W', hS', T'⟩
          have hi' : (i : Int) < wide c := by omega
          have hx' : Dp K S' x (tabD c) := by walk_at "is"
          have hy' : Dp K S' y (rowD used) := by walk_at "is"
          walk_at "go"
          refine x_inL (neg := true) W' hy' ?_
          refine x_kx ?_
          refine x_iteTo (if_pos rfl) ?_
          refine x_iteND (fun hd => ?_) (fun hd => ?_)
          · walk_at "go"
            refine x_lst W' (ds := [.int (i : Int)]) (.cons (.int _) .nil) (by simp) (fun S2 H2 v2 W2 hS2 hv2 => ?_)
            have hx2 : Dp K S2 x (tabD c) := by walk_at "is"
            have hy2 : Dp K S2 y (rowD used) := by walk_at "is"
            refine x_catS W2 hy2 hv2 (by rw [List.length_map]; simp; omega) (fun S3 H3 v3 W3 hS3 hv3 => ?_)
            have e3 : used.map PyData.int ++ [PyData.int (i : Int)] = (used ++ [(i : Int)]).map PyData.int := by rw [List.map_append]; rfl
            rw [e3] at hv3
            walk_at "go"
            refine .mk W3 (by walk_at "is") t hv3 (by omega) (by omega) (by omega) (by rw [List.length_append, List.length_singleton]; omega) (fun S4 H4 m W4 hS4 B => ?_)
            walk_at "go"
            refine x_iteIN (fun ho => ?_) (fun y0 ho => ?_)
            · walk_at "go"
              exact ⟨S4, some (co c row i + m), _, _, rfl, W4, by walk_at "same", tried_take hlt ⟨by omega, hi'⟩ T' hd B (fun y e => by rw [ho] at e; cases e)⟩
            · subst ho
              walk_at "go"
              refine x_iteD (fun hlt' => ?_) (fun hlt' => ?_)
              · walk_at "go"
                exact ⟨S4, some (co c row i + m), _, _, rfl, W4, by walk_at "same", tried_take hlt ⟨by omega, hi'⟩ T' hd B (fun y e => by cases e; exact hlt')⟩
              · walk_at "go"
                exact ⟨S4, some y0, _, _, rfl, W4, by walk_at "same", tried_keep hlt T' B hlt'⟩
          · walk_at "go"
            exact ⟨S', o, _, _, rfl, W', hS', tried_skip hlt T' hd⟩
        · rintro σ' H' ⟨S', o, z4, z5, rfl, W', hS', T'⟩
          rw [Int.toNat_of_nonneg (by omega)] at T'
          obtain ⟨m, rfl, B⟩ := tried_end hlt (by omega) T'
          walk_at "go"
          exact k S' _ m W' hS' B
theorem ok_law_cheapest (T : Txt K mg d) : FnOk P w K mg base CX0 7 d.a_law_cheapest d.f_law_cheapest ["_law_costs", "_law_row", "_law_used"] (Sp_law_cheapest K 7) := okr_law_cheapest T 7
end
section
variable {P : Program} {w : World} {K : PySem.W.Frag} {mg : Str → Option Value} {base : Heap} {d : Ad}
inductive Sp_law_whole : List V → Hp → VK → XK → Prop
  | mk {a : Int} {H : Hp} {Q : VK} {E : XK} (k : Q (.bl true) H) : Sp_law_whole [.int a] H Q E
theorem ok_law_whole (T : Txt K mg d) : FnOk P w K mg base CX0 1 d.a_law_whole d.f_law_whole ["_law_found"] (Sp_law_whole) := by
  refine T.F_law_whole.ok sc_law_whole (fun vs H Q E h => ?_) (fun cdv A outer s H vs Q E hr h => ?_)
  · cases h; rfl
  · have hu := hu_of hr
    obtain ⟨k⟩ := h
    rename_i a
    refine ⟨_, (pss_one (ps_ret (pe_and (pe_callB (isia (K := K) (by rfl)) (by rfl) T.b_isinstance (by decide +kernel) (pa_cons (pv 0) (pa_cons (pe_bltn (v := .ty "int") (by rfl) T.b_int (by decide +kernel) rfl) pa_nil))) (pe_one (pe_not (pe_callB (isia (K := K) (by rfl)) (by rfl) T.b_isinstance (by decide +kernel) (pa_cons (pv 0) (pa_cons (pe_bltn (v := .ty "bool") (by rfl) T.b_bool (by decide +kernel) rfl) pa_nil)))))))), ?_⟩
    try dsimp only [cxK, cxw, cxprog]
    walk_at "go"
    exact k
end
local macro_rules | `(tactic| walk_at "st") => `(tactic| (with_reducible refine Sp_law_whole.mk ?_))
section
variable {P : Program} {w : World} {K : PySem.W.Frag} {mg : Str → Option Value} {base : Heap} {d : Ad}
inductive Sp_law_wholes (K : PySem.W.Frag) : List V → Hp → VK → XK → Prop
  | mk {S : Hp} {O : List (Addr × HO)} {ns : List Int} {x : V} {H : Hp} {Q : VK} {E : XK} (W : Wd K S H O) (h : Dp K S x (.list (ns.map PyData.int))) (hl : ns.length ≤ 1000000)
    (k : ∀ S' H', Wd K S' H' O → Same S S' → Q (.bl true) H') : Sp_law_wholes K [x] H Q E
theorem ok_law_wholes (T : Txt K mg d) : FnOk P w K mg base CX0 2 d.a_law_wholes d.f_law_wholes ["_law_found"] (Sp_law_wholes K) := by
  refine T.F_law_wholes.ok sc_law_wholes (fun vs H Q E h => ?_) (fun cdv A outer s H vs Q E hr h => ?_)
  · cases h; rfl
  · have hu := hu_of hr
    obtain ⟨W, h, hl, k⟩ := h
    rename_i S O ns x
    refine ⟨_, (pss_one (ps_ret (pe_and (pe_callB (isia (K := K) (by rfl)) (by rfl) T.b_isinstance (by decide +kernel) (pa_cons (pv 0) (pa_cons (pe_bltn (v := .ty "list") (by rfl) T.b_list (by decide +kernel) rfl) pa_nil))) (pe_one (pe_callB (alla (K := K) (by rfl) rfl) (by rfl) T.b_all (by decide +kernel) (pa_cons (pe_lc (own := [("_law_one", 1)]) rfl sc_law_wholes.nd (pi_list (pv 0)) (blkOk_by (by first | decide +kernel | exact Eq.refl true)) (fun _ _ _ _ _ => pg_name (i := 1) sc_law_wholes.nd rfl (by first | exact Or.inl rfl | exact Or.inr rfl)) (fun _ _ _ _ _ => pts_nil) (fun _ _ _ _ _ => (pe_call (ok_law_whole T) (hr.mono (by decide)) (by rfl) T.g_law_whole T.k_law_whole T.p_law_whole .nil pass0 (pa_cons (pv 1) pa_nil)))) pa_nil)))))), ?_⟩
    try dsimp only [cxK, cxw, cxprog]
    walk_at "go"
    refine lc_map PyData.bool (fun _ : Int => true) W h hl (fun z S' H' R acc N hz W' hS E => kn_int ?_) (fun S' H' v W' hS hv => ?_)
    · walk_at "go"
      walk_at "ly"
    · walk_at "go"
      have e : ((ns.map fun _ => true).all id) = true := by simp
      rw [e]
      exact k S' H' W' hS
end
local macro_rules | `(tactic| walk_at "st") => `(tactic| ((with_reducible refine Sp_law_wholes.mk (by assumption) (by walk_at "is") (by walk_at "bd") ?_); intro S' H' W' hS))
section
variable {P : Program} {w : World} {K : PySem.W.Frag} {mg : Str → Option Value} {base : Heap} {d : Ad}
inductive Sp_law_number (K : PySem.W.Frag) : List V → Hp → VK → XK → Prop
  | mk {S : Hp} {O : List (Addr × HO)} {n : Int} {H : Hp} {Q : VK} {E : XK} (W : Wd K S H O) (k : ∀ S' H', Wd K S' H' O → Same S S' → Q (.int (num n)) H') : Sp_law_number K [.int n] H Q E
theorem ok_law_number (T : Txt K mg d) : FnOk P w K mg base CX0 1 d.a_law_number d.f_law_number ["_law_number_here"] (Sp_law_number K) := by
  refine T.F_law_number.ok sc_law_number (fun vs H Q E h => ?_) (fun cdv A outer s H vs Q E hr h => ?_)
  · cases h; rfl
  · have hu := hu_of hr
    obtain ⟨W, k⟩ := h
    rename_i S O n
    refine ⟨_, (pss_cons (ps_set (i := 1) sc_law_number.nd rfl (by first | exact Or.inl rfl | exact Or.inr rfl) (pe_lst (pa_cons pe_int (pa_cons pe_int (pa_cons (pe_un un_neg pe_int) (pa_cons pe_int (pa_cons (pe_op op_pow pe_int pe_int) (pa_cons (pe_un un_neg (pe_op op_pow pe_int pe_int)) (pa_cons pe_int (pa_cons pe_int pa_nil))))))))))
      (pss_cons (ps_if (pt_cmpR op_eq (pe_op op_mod (pv 0) pe_int) pe_int (nomark _)) (pss_one (ps_ret (pe_ix (ixa (K := K) (by rfl)) (pv 1) (pe_op op_mod (pe_op op_fdiv (pv 0) pe_int) pe_int) (fun _ _ => rfl)))) pss_nil)
      (pss_one (ps_ret (pe_op op_mod (pe_op op_fdiv (pv 0) pe_int) pe_int))))), ?_⟩
    try dsimp only [cxK, cxw, cxprog]
    walk_at "go"
    refine x_lst W (ds := ([0, 1, -1, 2, 10 ^ 30, -10 ^ 30, 7, 5] : List Int).map PyData.int) (dpAll_ints [0, 1, -1, 2, 10 ^ 30, -10 ^ 30, 7, 5]) (by simp) (fun S' H' v W' hS hv => ?_)
    walk_at "go"
    refine x_iteD (fun h4 => ?_) (fun h4 => ?_)
    · walk_at "go"
      refine x_ixL W' hv (atI_map (f := PyData.int) (Int.emod_nonneg _ (by decide)) (Int.emod_lt_of_pos _ (by decide))) (kn_int ?_)
      have := k S' H' W' hS
      rw [num, if_pos h4] at this
      exact this
    · walk_at "go"
      have := k S' H' W' hS
      rw [num, if_neg h4] at this
      exact this
end
local macro_rules | `(tactic| walk_at "st") => `(tactic| ((with_reducible refine Sp_law_number.mk (by assumption) ?_); intro S' H' W' hS))
section
variable {P : Program} {w : World} {K : PySem.W.Frag} {mg : Str → Option Value} {base : Heap} {d : Ad}
theorem bad_tabs {cs : List (List Int)} {w : Int} (h0 : 0 < cs.length) (hr : ∀ r ∈ cs, (r.length : Int) = w) : ∀ c ∈ ([[], [[]], [List.replicate 9 (1 : Int)], [[1], [2]], cs ++ [List.replicate (w + 1).toNat (1 : Int)], [[1, 2], [3]]] : List (List (List Int))), ¬ TabOk c := by
  intro c hc t
  simp only [List.mem_cons, List.not_mem_nil, or_false] at hc
  rcases hc with rfl | rfl | rfl | rfl | rfl | rfl
  · exact absurd t.h0 (by decide)
  · exact absurd t.le (by decide)
  · exact absurd t.w8 (by decide)
  · exact absurd t.le (by decide)
  · have h1 := t.rows (List.replicate (w + 1).toNat (1 : Int)) (by simp)
    rw [List.length_replicate] at h1
    have h2 : wide (cs ++ [List.replicate (w + 1).toNat (1 : Int)]) = w := by
      cases cs with
      | nil => simp at h0
      | cons a r => exact hr a (List.mem_cons_self ..)
    have h3 : 0 ≤ w := by
      have := hr (nth cs 0) (nth_mem (by omega) (by omega))
      omega
    omega
  · exact absurd (t.rows [3] (by simp)) (by decide)
theorem set_len {ks f : List Int} (n1 : ks.Nodup) (n2 : f.Nodup) (h : ∀ j, j ∈ ks ↔ j ∈ f) : ks.length = f.length :=
  Nat.le_antisymm (nodup_sub n1 fun j hj => (h j).mp hj) (nodup_sub n2 fun j hj => (h j).mpr hj)
inductive Sp_law (K : PySem.W.Frag) : List V → Hp → VK → XK → Prop
  | mk {ns : List Int} {x : V} {H : Hp} {Q : VK} {E : XK} (h : Dp K H x (.list (ns.map PyData.int))) (k : ∀ H', Q (.bl true) H') : Sp_law K [x] H Q E
theorem ok_law (T : Txt K mg d) : FnOk P w K mg base CX0 8 d.a_law d.f_law ["_law_script"] (Sp_law K) := by
  refine T.F_law.ok sc_law (fun vs H Q E h => ?_) (fun cdv A outer s H vs Q E hr h => ?_)
  · cases h; rfl
  · have hu := hu_of hr
    obtain ⟨h, k⟩ := h
    rename_i ns x
    have W := Wd.all (K := K) H
    have a0 := Int.emod_nonneg (mix ns 0) (show (4 : Int) ≠ 0 by decide)
    have a1 := Int.emod_lt_of_pos (mix ns 0) (show (0 : Int) < 4 by decide)
    have hmod := cdivw_of (i := 0) (b := 9) (show 0 < 6 - (1 + mix ns 0 % 4) by omega) (show (6 - (1 + mix ns 0 % 4)).natAbs < _ by omega)
    have b0 := Int.emod_nonneg (mix ns 1) (show 6 - (1 + mix ns 0 % 4) ≠ 0 by omega)
    have b1 := Int.emod_lt_of_pos (mix ns 1) (show 0 < 6 - (1 + mix ns 0 % 4) by omega)
    refine ⟨_, (pss_cons (ps_set (i := 1) sc_law.nd rfl (by first | exact Or.inl rfl | exact Or.inr rfl) (pe_op op_add pe_int (pe_op op_mod (pe_call (ok_law_mix T) (hr.mono (by decide)) (by rfl) T.g_law_mix T.k_law_mix T.p_law_mix .nil pass0 (pa_cons (pv 0) (pa_cons pe_int pa_nil))) pe_int)))
      (pss_cons (ps_set (i := 2) sc_law.nd rfl (by first | exact Or.inl rfl | exact Or.inr rfl) (pe_op op_add (pv 1) (pe_op op_mod (pe_call (ok_law_mix T) (hr.mono (by decide)) (by rfl) T.g_law_mix T.k_law_mix T.p_law_mix .nil pass0 (pa_cons (pv 0) (pa_cons pe_int pa_nil))) (pe_op op_sub pe_int (pv 1)))))
      (pss_cons (ps_if (pt_cmpR op_eq (pe_op op_mod (pe_call (ok_law_mix T) (hr.mono (by decide)) (by rfl) T.g_law_mix T.k_law_mix T.p_law_mix .nil pass0 (pa_cons (pv 0) (pa_cons pe_int pa_nil))) pe_int) pe_int (nomark _)) (pss_one (ps_asg (pe_tup (pa_cons pe_int (pa_cons pe_int pa_nil))) (tupa (n := 2) (K := K) (by rfl) rfl (pgs_cons (pg_name (i := 1) sc_law.nd rfl (by first | exact Or.inl rfl | exact Or.inr rfl)) (pgs_cons (pg_name (i := 2) sc_law.nd rfl (by first | exact Or.inl rfl | exact Or.inr rfl)) pgs_nil))))) pss_nil)
      (pss_cons (ps_set (i := 3) sc_law.nd rfl (by first | exact Or.inl rfl | exact Or.inr rfl) (pe_lst pa_nil))
      (pss_cons (ps_for PassesOwn.never rfl (pi_range1 (by rfl) T.b_range (pa_cons (pv 1) pa_nil)) (pg_name (i := 4) sc_law.nd rfl (by first | exact Or.inl rfl | exact Or.inr rfl)) (pss_one (ps_expr (pe_bm PySem.F.plainAttrs_list PySem.F.slot_list_append PySem.F.type_list_append mt_append (pv 3) (pa_cons (pe_lc (own := [("_law_j", 12)]) rfl sc_law.nd (pi_range1 (by rfl) T.b_range (pa_cons (pv 2) pa_nil)) (blkOk_by (by first | decide +kernel | exact Eq.refl true)) (fun _ _ _ _ _ => pg_name (i := 12) sc_law.nd rfl (by first | exact Or.inl rfl | exact Or.inr rfl)) (fun _ _ _ _ _ => pts_nil) (fun _ _ _ _ _ => (pe_op op_sub (pe_call (ok_law_number T) (hr.mono (by decide)) (by rfl) T.g_law_number T.k_law_number T.p_law_number .nil pass0 (pa_cons (pe_call (ok_law_mix T) (hr.mono (by decide)) (by rfl) T.g_law_mix T.k_law_mix T.p_law_mix .nil pass0 (pa_cons (pv 0) (pa_cons (pe_op op_add (pe_op op_add pe_int (pe_op op_mul pe_int (pv 4))) (pv 12)) pa_nil))) pa_nil)) pe_int))) pa_nil)))))
      (pss_cons (ps_if (pt_cmpR op_eq (pe_op op_mod (pe_call (ok_law_mix T) (hr.mono (by decide)) (by rfl) T.g_law_mix T.k_law_mix T.p_law_mix .nil pass0 (pa_cons (pv 0) (pa_cons pe_int pa_nil))) pe_int) pe_int (nomark _)) (pss_cons (ps_set (i := 5) sc_law.nd rfl (by first | exact Or.inl rfl | exact Or.inr rfl) (pe_ix (ixa (K := K) (by rfl)) (pe_lst (pa_cons (pe_lst pa_nil) (pa_cons (pe_lst (pa_cons (pe_lst pa_nil) pa_nil)) (pa_cons (pe_lst (pa_cons (pe_op op_rep (pe_lst (pa_cons pe_int pa_nil)) pe_int) pa_nil)) (pa_cons (pe_lst (pa_cons (pe_lst (pa_cons pe_int pa_nil)) (pa_cons (pe_lst (pa_cons pe_int pa_nil)) pa_nil))) (pa_cons (pe_op op_catS (pv 3) (pe_lst (pa_cons (pe_op op_rep (pe_lst (pa_cons pe_int pa_nil)) (pe_op op_add (pv 2) pe_int)) pa_nil))) (pa_cons (pe_lst (pa_cons (pe_lst (pa_cons pe_int (pa_cons pe_int pa_nil))) (pa_cons (pe_lst (pa_cons pe_int pa_nil)) pa_nil))) pa_nil))))))) (pe_op op_mod (pe_call (ok_law_mix T) (hr.mono (by decide)) (by rfl) T.g_law_mix T.k_law_mix T.p_law_mix .nil pass0 (pa_cons (pv 0) (pa_cons pe_int pa_nil))) pe_int) (fun _ _ => rfl)))
      (pss_one (ps_ret (pe_call (ok_law_refused T) (hr.mono (by decide)) (by rfl) T.g_law_refused T.k_law_refused T.p_law_refused .nil pass0 (pa_cons (pv 5) pa_nil))))) pss_nil)
      (pss_cons (ps_setLc (i := 6) (own := [("_law_row", 13)]) rfl sc_law.nd rfl rfl (sw_true rfl rfl rfl (by decide +kernel)) (pi_list (pv 3)) (blkOk_by (by first | decide +kernel | exact Eq.refl true)) (fun _ _ _ _ _ => pg_name (i := 13) sc_law.nd rfl (by first | exact Or.inl rfl | exact Or.inr rfl)) (fun _ _ _ _ _ => pts_nil) (fun _ _ _ _ _ => (pe_callTy (lista (K := K) (by rfl)) (by rfl) T.b_list (by decide +kernel) (pa_cons (pv 13) pa_nil))))
      (pss_cons (ps_set (i := 7) sc_law.nd rfl (by first | exact Or.inl rfl | exact Or.inr rfl) (pe_call (ok_given_columns T) (hr.mono (by decide)) (by rfl) T.g_given_columns T.k_given_columns T.p_given_columns .nil passL (pa_cons (pv 6) pa_nil)))
      (pss_cons (ps_if (PW.pt (pw_or (pt_not (pt_val (pe_callB (isia (K := K) (by rfl)) (by rfl) T.b_isinstance (by decide +kernel) (pa_cons (pv 7) (pa_cons (pe_bltn (v := .ty "tuple") (by rfl) T.b_tuple (by decide +kernel) rfl) pa_nil))))) (pw_or (pt_cmpR op_ne (pe_callB (lena (K := K) (by rfl)) (by rfl) T.b_len (by decide +kernel) (pa_cons (pv 7) pa_nil)) pe_int (nomark _)) (pw_or1 (pt_cmpR (neDa (K := K) (by rfl) hr.units) (pv 6) (pv 3) (nomark _)))))) (pss_one (ps_ret pe_bl)) pss_nil)
      (pss_cons (ps_if (pt_not (pt_val (pe_callB (alla (K := K) (by rfl) rfl) (by rfl) T.b_all (by decide +kernel) (pa_cons (pe_lc (own := [("_law_row", 13)]) rfl sc_law.nd (pi_tup (pv 7)) (blkOk_by (by first | decide +kernel | exact Eq.refl true)) (fun _ _ _ _ _ => pg_name (i := 13) sc_law.nd rfl (by first | exact Or.inl rfl | exact Or.inr rfl)) (fun _ _ _ _ _ => pts_nil) (fun _ _ _ _ _ => (pe_call (ok_law_wholes T) (hr.mono (by decide)) (by rfl) T.g_law_wholes T.k_law_wholes T.p_law_wholes .nil pass0 (pa_cons (pv 13) pa_nil)))) pa_nil)))) (pss_one (ps_ret pe_bl)) pss_nil)
      (pss_cons (ps_if (PW.pt (pw_or (pt_cmpR (neDa (K := K) (by rfl) hr.units) (pe_lc (own := [("_law_row", 13)]) rfl sc_law.nd (pi_tup (pv 7)) (blkOk_by (by first | decide +kernel | exact Eq.refl true)) (fun _ _ _ _ _ => pg_name (i := 13) sc_law.nd rfl (by first | exact Or.inl rfl | exact Or.inr rfl)) (fun _ _ _ _ _ => pts_nil) (fun _ _ _ _ _ => (pe_callB (lena (K := K) (by rfl)) (by rfl) T.b_len (by decide +kernel) (pa_cons (pv 13) pa_nil)))) (pe_lst (pa_cons (pv 1) (pa_cons (pv 1) (pa_cons (pv 2) pa_nil)))) (nomark _)) (pw_or1 (pt_cmpR op_ne (pe_callB (cl_lenSet (w := w) (by rfl)) (by rfl) T.b_len (by decide +kernel) (pa_cons (pe_callTy (cl_setL (K := K) (w := w) (by rfl) (by rfl) (by rfl)) (by rfl) T.b_set (by decide +kernel) (pa_cons (pe_ix (ixa (K := K) (by rfl)) (pv 7) pe_int (fun _ _ => rfl)) pa_nil)) pa_nil)) (pv 1) (nomark _))))) (pss_one (ps_ret pe_bl)) pss_nil)
      (pss_cons (ps_if (PW.pt (pw_or (pt_not (pt_val (pe_callB (alla (K := K) (by rfl) rfl) (by rfl) T.b_all (by decide +kernel) (pa_cons (pe_lc (own := [("_law_column", 14)]) rfl sc_law.nd (pi_list (pe_ix (ixa (K := K) (by rfl)) (pv 7) pe_int (fun _ _ => rfl))) (blkOk_by (by first | decide +kernel | exact Eq.refl true)) (fun _ _ _ _ _ => pg_name (i := 14) sc_law.nd rfl (by first | exact Or.inl rfl | exact Or.inr rfl)) (fun _ _ _ _ _ => pts_nil) (fun _ _ _ _ _ => (pe_chain op_le op_lt pe_int (pv 14) (pv 2)))) pa_nil)))) (pw_or1 (pt_not (pt_val (pe_call (ok_law_fair T) (hr.mono (by decide)) (by rfl) T.g_law_fair T.k_law_fair T.p_law_fair .nil pass0 (pa_cons (pv 3) (pa_cons (pe_ix (ixa (K := K) (by rfl)) (pv 7) pe_int (fun _ _ => rfl)) (pa_cons (pe_ix (ixa (K := K) (by rfl)) (pv 7) pe_int (fun _ _ => rfl)) pa_nil))))))))) (pss_one (ps_ret pe_bl)) pss_nil)
      (pss_cons (ps_for PassesOwn.never rfl (pi_range1 (by rfl) T.b_range (pa_cons (pv 1) pa_nil)) (pg_name (i := 4) sc_law.nd rfl (by first | exact Or.inl rfl | exact Or.inr rfl)) (pss_one (ps_if (pt_cmpR op_ne (pe_op op_add (pe_ix (ixa (K := K) (by rfl)) (pe_ix (ixa (K := K) (by rfl)) (pv 7) pe_int (fun _ _ => rfl)) (pv 4) (fun _ _ => rfl)) (pe_ix (ixa (K := K) (by rfl)) (pe_ix (ixa (K := K) (by rfl)) (pv 7) pe_int (fun _ _ => rfl)) (pe_ix (ixa (K := K) (by rfl)) (pe_ix (ixa (K := K) (by rfl)) (pv 7) pe_int (fun _ _ => rfl)) (pv 4) (fun _ _ => rfl)) (fun _ _ => rfl))) (pe_ix (ixa (K := K) (by rfl)) (pe_ix (ixa (K := K) (by rfl)) (pv 3) (pv 4) (fun _ _ => rfl)) (pe_ix (ixa (K := K) (by rfl)) (pe_ix (ixa (K := K) (by rfl)) (pv 7) pe_int (fun _ _ => rfl)) (pv 4) (fun _ _ => rfl)) (fun _ _ => rfl)) (nomark _)) (pss_one (ps_ret pe_bl)) pss_nil)))
      (pss_cons (ps_if (pt_not (pt_val (pe_callB (alla (K := K) (by rfl) rfl) (by rfl) T.b_all (by decide +kernel) (pa_cons (pe_lc (own := [("_law_j", 12)]) rfl sc_law.nd (pi_range1 (by rfl) T.b_range (pa_cons (pv 2) pa_nil)) (blkOk_by (by first | decide +kernel | exact Eq.refl true)) (fun _ _ _ _ _ => pg_name (i := 12) sc_law.nd rfl (by first | exact Or.inl rfl | exact Or.inr rfl)) (fun _ _ _ _ _ => pts_one (pt_cmpR (notIna (K := K) (by rfl)) (pv 12) (pe_ix (ixa (K := K) (by rfl)) (pv 7) pe_int (fun _ _ => rfl)) (by rfl))) (fun _ _ _ _ _ => (pe_cmpR op_eq (pe_ix (ixa (K := K) (by rfl)) (pe_ix (ixa (K := K) (by rfl)) (pv 7) pe_int (fun _ _ => rfl)) (pv 12) (fun _ _ => rfl)) pe_int (nomark _)))) pa_nil)))) (pss_one (ps_ret pe_bl)) pss_nil)
      (pss_cons (ps_set (i := 8) sc_law.nd rfl (by first | exact Or.inl rfl | exact Or.inr rfl) (pe_callB (suma (K := K) (by rfl) rfl) (by rfl) T.b_sum (by decide +kernel) (pa_cons (pe_lc (own := [("_law_k", 4)]) rfl sc_law.nd (pi_range1 (by rfl) T.b_range (pa_cons (pv 1) pa_nil)) (blkOk_by (by first | decide +kernel | exact Eq.refl true)) (fun _ _ _ _ _ => pg_name (i := 4) sc_law.nd rfl (by first | exact Or.inl rfl | exact Or.inr rfl)) (fun _ _ _ _ _ => pts_nil) (fun _ _ _ _ _ => (pe_ix (ixa (K := K) (by rfl)) (pe_ix (ixa (K := K) (by rfl)) (pv 3) (pv 4) (fun _ _ => rfl)) (pe_ix (ixa (K := K) (by rfl)) (pe_ix (ixa (K := K) (by rfl)) (pv 7) pe_int (fun _ _ => rfl)) (pv 4) (fun _ _ => rfl)) (fun _ _ => rfl)))) pa_nil)))
      (pss_cons (ps_if (PW.pt (pw_or (pt_cmpR op_ne (pe_call (ok_total T) (hr.mono (by decide)) (by rfl) T.g_total T.k_total T.p_total .nil pass0 (pa_cons (pv 6) (pa_cons (pe_callTy (lista (K := K) (by rfl)) (by rfl) T.b_list (by decide +kernel) (pa_cons (pe_ix (ixa (K := K) (by rfl)) (pv 7) pe_int (fun _ _ => rfl)) pa_nil)) pa_nil))) (pv 8) (nomark _)) (pw_or1 (pt_cmpR op_ne (pv 8) (pe_call (ok_law_cheapest T) (hr.mono (by decide)) (by rfl) T.g_law_cheapest T.k_law_cheapest T.p_law_cheapest .nil pass0 (pa_cons (pv 3) (pa_cons pe_int (pa_cons (pe_lst pa_nil) pa_nil)))) (nomark _))))) (pss_one (ps_ret pe_bl)) pss_nil)
      (pss_cons (ps_set (i := 9) sc_law.nd rfl (by first | exact Or.inl rfl | exact Or.inr rfl) (pe_callTy (lista (K := K) (by rfl)) (by rfl) T.b_list (by decide +kernel) (pa_cons (pe_ix (ixa (K := K) (by rfl)) (pv 7) pe_int (fun _ _ => rfl)) pa_nil)))
      (pss_cons (ps_asg (pe_op op_sub (pe_op op_mod (pe_call (ok_law_mix T) (hr.mono (by decide)) (by rfl) T.g_law_mix T.k_law_mix T.p_law_mix .nil pass0 (pa_cons (pv 0) (pa_cons pe_int pa_nil))) pe_int) pe_int) (pg_sub (pv 9) (pe_op op_mod (pe_call (ok_law_mix T) (hr.mono (by decide)) (by rfl) T.g_law_mix T.k_law_mix T.p_law_mix .nil pass0 (pa_cons (pv 0) (pa_cons pe_int pa_nil))) (pv 2)) set_list))
      (pss_cons (ps_for PassesOwn.never rfl (pi_list (pe_lst (pa_cons (pv 9) (pa_cons (pe_ix (ixa (K := K) (by rfl)) (pv 7) pe_int (fun _ _ => rfl)) pa_nil)))) (pg_name (i := 10) sc_law.nd rfl (by first | exact Or.inl rfl | exact Or.inr rfl)) (pss_cons (ps_set (i := 11) sc_law.nd rfl (by first | exact Or.inl rfl | exact Or.inr rfl) (pe_call (ok_are_prices T) (hr.mono (by decide)) (by rfl) T.g_are_prices T.k_are_prices T.p_are_prices .nil pass0 (pa_cons (pv 6) (pa_cons (pe_callTy (lista (K := K) (by rfl)) (by rfl) T.b_list (by decide +kernel) (pa_cons (pe_ix (ixa (K := K) (by rfl)) (pv 7) pe_int (fun _ _ => rfl)) pa_nil)) (pa_cons (pe_callTy (lista (K := K) (by rfl)) (by rfl) T.b_list (by decide +kernel) (pa_cons (pv 10) pa_nil)) pa_nil)))))
      (pss_one (ps_if (PW.pt (pw_or (pt_not (pt_val (pe_callB (isia (K := K) (by rfl)) (by rfl) T.b_isinstance (by decide +kernel) (pa_cons (pv 11) (pa_cons (pe_bltn (v := .ty "bool") (by rfl) T.b_bool (by decide +kernel) rfl) pa_nil))))) (pw_or1 (pt_cmpR op_ne (pv 11) (pe_call (ok_law_fair T) (hr.mono (by decide)) (by rfl) T.g_law_fair T.k_law_fair T.p_law_fair .nil pass0 (pa_cons (pv 3) (pa_cons (pe_ix (ixa (K := K) (by rfl)) (pv 7) pe_int (fun _ _ => rfl)) (pa_cons (pv 10) pa_nil)))) (nomark _))))) (pss_one (ps_ret pe_bl)) pss_nil))))
      (pss_one (ps_ret pe_bl))))))))))))))))))))), ?_⟩
    try dsimp only [cxK, cxw, cxprog]
    walk_at "g"
    have a2 : 1 ≤ 1 + mix ns 0 % 4 := by omega
    have a3 : 1 + mix ns 0 % 4 ≤ 4 := by omega
    generalize 1 + mix ns 0 % 4 = h0 at *
    refine x_ifJ (fun σ' H' => ∃ hh wd : Int, σ' = [some x, some (.int hh), some (.int wd), none, none, none, none, none, none, none, none, none, none, none, none] ∧ (∃ S', Wd K S' H' [] ∧ Same H S') ∧ 1 ≤ hh ∧ hh ≤ 4 ∧ hh ≤ wd ∧ wd ≤ 8) (fun nx' hnx => ?_) ?_
    · walk_at "go"
      refine x_iteD (fun h4 => ?_) (fun h4 => ?_)
      · walk_at "go"
        rename_i S1 H1 v1 W1 hS1 hv1
        refine x_gtup2 W1 hv1 (kn_int (kn_int ?_))
        exact hnx _ _ ⟨1, 8, rfl, ⟨_, W1, hS1⟩, by omega, by omega, by omega, by omega⟩
      · walk_at "go"
        exact hnx _ _ ⟨_, _, rfl, ⟨_, W, Same.refl _⟩, by omega, by omega, by omega, by omega⟩
    clear hmod b0 b1 a0 a1 a2 a3 h0
    rintro σ' H0 ⟨hh, wd, rfl, ⟨S0, W0, hS0⟩, h1, h4, hw, w8⟩
    replace h : Dp K S0 x (.list (ns.map PyData.int)) := dp_mono hS0 h
    clear W hS0
    walk_at "go"
    refine x_own W0 (by simp) (fun pc H1 W1 => ?_)
    walk_at "go"
    refine x_forN (fun i σ' H' => ∃ (S' : Hp) (us : List V) (cs : List (List Int)) (z4 : Option V), σ' = [some x, some (.int hh), some (.int wd), some (.ref pc), z4, none, none, none, none, none, none, none, none, none, none] ∧
      Wd K S' H' [(pc, .lst us)] ∧ Same S0 S' ∧ DpAll K S' us (cs.map rowD) ∧ cs.length = i ∧ ∀ r ∈ cs, (r.length : Int) = wd) ⟨by omega, by omega⟩ ⟨S0, [], [], _, rfl, W1, Same.refl _, .nil, rfl, fun r hr => (by cases hr)⟩ ?_ ?_
    · rintro i σ' H' hi ⟨S', us, cs, z4, rfl, W', hS', hus, hcl, hcr⟩
      have hul := dpAll_len hus
      rw [List.length_map] at hul
      walk_at "go"
      refine lcr_map PyData.int (fun j : Nat => num (mix ns (2 + 5 * (i : Int) + (j : Int))) - 4) W' ⟨by omega, by omega⟩ (fun j S2 H2 R acc N hj W2 hS2 E => ?_) (fun S2 H2 v2 W2 hS2 hv2 => ?_)
      · have hx' : Dp K S2 x (.list (ns.map PyData.int)) := by walk_at "is"
        walk_at "go"
        walk_at "ly"
      · walk_at "go"
        refine x_app 0 W2 rfl (by omega) (fun H3 W3 => ?_)
        walk_at "go"
        refine ⟨S2, us ++ [v2], cs ++ [(List.range wd.toNat).map fun j : Nat => num (mix ns (2 + 5 * (i : Int) + (j : Int))) - 4], _, rfl, W3, by walk_at "same", ?_, by rw [List.length_append, List.length_singleton]; omega, fun r hr => ?_⟩
        · rw [List.map_append]
          exact dpAll_app (dpAll_mono hS2 hus) hv2
        · rcases List.mem_append.mp hr with hr | hr
          · exact hcr r hr
          · rw [List.mem_singleton] at hr
            rw [hr, List.length_map, List.length_range]
            omega
    rintro σ' H2 ⟨S2, us, cs, z4, rfl, W2, hS2, hus, hcl, hcr⟩
    refine x_give W2 hus (fun S3 W3 hS3 hc3 => ?_)
    have hc0 : 0 < cs.length := by omega
    have hx3 : Dp K S3 x (.list (ns.map PyData.int)) := by walk_at "is"
    have hcw : wide cs = wd := hcr (nth cs 0) (nth_mem (by omega) (by omega))
    have t : TabOk cs := ⟨hc0, by rw [hcw]; omega, by rw [hcw]; exact w8, fun r hr => by rw [hcw]; exact hcr r hr⟩
    clear W1 W2 hus us W0 H1
    walk_at "go"
    refine x_iteD (fun h6 => ?_) (fun h6 => ?_)
    · clear h6
      walk_at "go"
      refine x_lst W3 (ds := []) .nil (by simp) (fun Sa Ha va Wa hSa hva => ?_)
      walk_at "go"
      refine x_lst Wa (ds := []) .nil (by simp) (fun Sb Hb vb Wb hSb hvb => ?_)
      walk_at "go"
      refine x_lst Wb (ds := [rowD []]) (.cons (by walk_at "is") .nil) (by simp) (fun Sc Hc vc Wc hSc hvc => ?_)
      walk_at "go"
      refine x_own Wc (by simp) (fun q1 H5 W5 => ?_)
      walk_at "go"
      refine x_repI W5 (by omega) (by omega) (fun S6 H6 q2 W6 hS6 => ?_)
      refine x_giveI W6 (fun Sd Wd' hSd hvd => ?_)
      walk_at "go"
      refine x_lst Wd' (ds := [rowD (List.replicate 9 (1 : Int))]) (.cons (by walk_at "is") .nil) (by simp) (fun Se He ve We hSe hve => ?_)
      walk_at "go"
      refine x_lst We (ds := [.int 1]) (.cons (.int _) .nil) (by simp) (fun Sf Hf vf Wf hSf hvf => ?_)
      walk_at "go"
      refine x_lst Wf (ds := [.int 2]) (.cons (.int _) .nil) (by simp) (fun Sg Hg vg Wg hSg hvg => ?_)
      walk_at "go"
      refine x_lst Wg (ds := [rowD [1], rowD [2]]) (.cons (by walk_at "is") (.cons (by walk_at "is") .nil)) (by simp) (fun Sh Hh vh Wh hSh hvh => ?_)
      walk_at "go"
      refine x_own Wh (by simp) (fun q3 H7 W7 => ?_)
      walk_at "go"
      refine x_repI W7 (by omega) (by omega) (fun S8 H8 q4 W8 hS8 => ?_)
      refine x_giveI W8 (fun Si Wi hSi hvi => ?_)
      walk_at "go"
      refine x_lst Wi (ds := [rowD (List.replicate (wd + 1).toNat (1 : Int))]) (.cons (by walk_at "is") .nil) (by simp) (fun Sj Hj vj Wj hSj hvj => ?_)
      have hcj : Dp K Sj _ (tabD cs) := dp_mono hSj (dp_mono hSi (dp_mono hS8 (dp_mono hSh (dp_mono hSg (dp_mono hSf (dp_mono hSe (dp_mono hSd (dp_mono hS6 (dp_mono hSc (dp_mono hSb (dp_mono hSa hc3)))))))))))
      walk_at "go"
      refine x_catS Wj hcj hvj (by simp; omega) (fun Sk Hk vk Wk hSk hvk => ?_)
      have ek : cs.map rowD ++ [rowD (List.replicate (wd + 1).toNat (1 : Int))] = (cs ++ [List.replicate (wd + 1).toNat (1 : Int)]).map rowD := by rw [List.map_append]; rfl
      rw [ek] at hvk
      walk_at "go"
      refine x_lst Wk (ds := [.int 1, .int 2]) (.cons (.int _) (.cons (.int _) .nil)) (by simp) (fun Sl Hl vl Wl hSl hvl => ?_)
      walk_at "go"
      refine x_lst Wl (ds := [.int 3]) (.cons (.int _) .nil) (by simp) (fun Sm Hm vm Wm hSm hvm => ?_)
      walk_at "go"
      refine x_lst Wm (ds := [rowD [1, 2], rowD [3]]) (.cons (by walk_at "is") (.cons (by walk_at "is") .nil)) (by simp) (fun Sn Hn vn Wn hSn hvn => ?_)
      walk_at "go"
      refine x_lst Wn (ds := ([[], [[]], [List.replicate 9 (1 : Int)], [[1], [2]], cs ++ [List.replicate (wd + 1).toNat (1 : Int)], [[1, 2], [3]]] : List (List (List Int))).map tabD) (.cons (by walk_at "is") (.cons (by walk_at "is") (.cons (by walk_at "is") (.cons (by walk_at "is") (.cons (by walk_at "is") (.cons (by walk_at "is") .nil)))))) (by simp) (fun So Ho vo Wo hSo hvo => ?_)
      have hxo : Dp K So x (.list (ns.map PyData.int)) := by walk_at "is"
      walk_at "go"
      refine x_ixL Wo hvo (atI_map (f := tabD) (Int.emod_nonneg _ (by decide)) (Int.emod_lt_of_pos _ (by decide))) (kn_lst fun u hu => ?_)
      have hbad := bad_tabs hc0 hcr (nth ([[], [[]], [List.replicate 9 (1 : Int)], [[1], [2]], cs ++ [List.replicate (wd + 1).toNat (1 : Int)], [[1, 2], [3]]] : List (List (List Int))) (mix ns 41 % 6)) (nth_mem (Int.emod_nonneg _ (by decide)) (Int.emod_lt_of_pos _ (by decide)))
      walk_at "go"
      refine .mk Wo hu ?_ hbad (fun S9 H9 W9 hS9 => ?_)
      · have := nth_mem (xs := ([[], [[]], [List.replicate 9 (1 : Int)], [[1], [2]], cs ++ [List.replicate (wd + 1).toNat (1 : Int)], [[1, 2], [3]]] : List (List (List Int)))) (i := mix ns 41 % 6) (Int.emod_nonneg _ (by decide)) (Int.emod_lt_of_pos _ (by decide))
        generalize nth ([[], [[]], [List.replicate 9 (1 : Int)], [[1], [2]], cs ++ [List.replicate (wd + 1).toNat (1 : Int)], [[1, 2], [3]]] : List (List (List Int))) (mix ns 41 % 6) = z at *
        simp only [List.mem_cons, List.not_mem_nil, or_false] at this
        rcases this with rfl | rfl | rfl | rfl | rfl | rfl <;> simp
        omega
      · exact k _
    clear h6
    walk_at "go"
    refine lc_map rowD (fun r : List Int => r) W3 hc3 (by omega) (fun r S' H' R acc N hr W' hS E => kn_lst fun u hu => ?_) (fun S4 H4 vh W4 hS4 hvh => ?_)
    · walk_at "go"
      walk_at "ly"
    rw [List.map_id'] at hvh
    walk_at "go"
    refine .mk W4 hvh (by omega) (fun n => absurd t n) (fun _ S5 H5 vf f r q W5 hS5 hvf G => ?_)
    have lf := G.lf
    have lr := G.lr
    have lq := G.lq
    have hc5 : Dp K S5 (.ref pc) (tabD cs) := by walk_at "is"
    have hh5 : Dp K S5 vh (tabD cs) := by walk_at "is"
    have hx5 : Dp K S5 x (.list (ns.map PyData.int)) := by walk_at "is"
    walk_at "go"
    refine x_iteND (fun h => absurd rfl h) (fun _ => ?_)
    walk_at "go"
    refine x_neD W5 hh5 hc5 ((shp_tab cs).mono (by decide)) ((shp_tab cs).mono (by decide)) ?_
    rw [eqv_self (shp_tab cs)]
    walk_at "go"
    refine x_lct ?_
    walk_at "go"
    have hlz : ∀ z ∈ [f, r, q], z.length ≤ 1000000 := fun z hz => by
      simp only [List.mem_cons, List.not_mem_nil, or_false] at hz
      rcases hz with rfl | rfl | rfl <;> omega
    refine lct_map (xs := [f, r, q]) (f := rowD) PyData.bool (fun _ => true) W5 hvf (by simp) (fun z S' H' R acc N hz W' hS E => kn_lst fun u hu => ?_) (fun S6 H6 v6 W6 hS6 hv6 => ?_)
    · have hzl := hlz z hz
      walk_at "go"
      walk_at "ly"
    have e6 : (([f, r, q].map fun _ => true).all id) = true := rfl
    have hvf6 : Dp K S6 vf (.tuple ([f, r, q].map rowD)) := by walk_at "is"
    walk_at "go"
    rw [e6]
    walk_at "go"
    refine x_lct ?_
    walk_at "go"
    refine lct_map (xs := [f, r, q]) (f := rowD) PyData.int (fun z : List Int => ((z.map PyData.int).length : Int)) W6 hvf6 (by simp) (fun z S' H' R acc N hz W' hS E => kn_lst fun u hu => ?_) (fun S7 H7 v7 W7 hS7 hv7 => ?_)
    · walk_at "go"
      walk_at "ly"
    walk_at "go"
    refine x_lst W7 (ds := ([hh, hh, wd] : List Int).map PyData.int) (dpAll_ints [hh, hh, wd]) (by simp) (fun S8 H8 v8 W8 hS8 hv8 => ?_)
    refine x_neD W8 (dp_mono hS8 hv7) hv8 (shp_map fun i => shp_int i) (shp_map fun i => shp_int i) ?_
    rw [eqv_map eqv_int, decide_eq_true (show [f, r, q].map (fun z : List Int => ((z.map PyData.int).length : Int)) = [hh, hh, wd] by simp only [List.map_cons, List.map_nil, List.length_map]; rw [lf, lr, lq, hcw, show (cs.length : Int) = hh by omega])]
    have hf8 : Dp K S8 vf (givD f r q) := by walk_at "is"
    walk_at "go"
    rename_i uf huf
    refine x_setL W8 huf (by omega) (fun p9 H9 c9 hc9 W9 => ?_)
    walk_at "go"
    refine x_lenSet W9 (by omega) (fun ks nd hk hkl => ?_)
    have W10 := W9.give 0 rfl
    have hS10 := same_new (W9.atS 0 rfl) (o := SetO w p9 (fun j => decide (j ∈ f)) c9)
    have l9 := set_len nd G.nd hk
    rw [hkl] at l9
    have hf10 : Dp K (upd S8 p9 (SetO w p9 (fun j => decide (j ∈ f)) c9)) vf (givD f r q) := by walk_at "is"
    have hc10 : Dp K (upd S8 p9 (SetO w p9 (fun j => decide (j ∈ f)) c9)) (.ref pc) (tabD cs) := dp_mono hS10 (dp_mono hS8 (dp_mono hS7 (dp_mono hS6 hc5)))
    have hh10 : Dp K (upd S8 p9 (SetO w p9 (fun j => decide (j ∈ f)) c9)) vh (tabD cs) := dp_mono hS10 (dp_mono hS8 (dp_mono hS7 (dp_mono hS6 hh5)))
    have hx10 : Dp K (upd S8 p9 (SetO w p9 (fun j => decide (j ∈ f)) c9)) x (.list (ns.map PyData.int)) := dp_mono hS10 (dp_mono hS8 (dp_mono hS7 (dp_mono hS6 hx5)))
    generalize upd S8 p9 (SetO w p9 (fun j => decide (j ∈ f)) c9) = S10 at *
    replace W10 : Wd K S10 H9 [] := W10
    clear hS10 W9 hk nd hkl hf8 hv8 hv7 hvf6 hv6 hvh hc5 hh5 hx5 hx3 hc3 h huf
    walk_at "go"
    refine x_iteND (fun h => absurd (show (c9 : Int) = hh by omega) h) (fun _ => ?_)
    walk_at "go"
    refine lc_map PyData.bool (fun _ : Int => true) W10 (by assumption) (by omega) (fun j S' H' R acc N hj W' hS E => kn_int ?_) (fun S11 H11 v11 W11 hS11 hv11 => ?_)
    · obtain ⟨j0, j1⟩ := G.rng j hj
      walk_at "go"
      refine x_iteD (fun _ => ?_) (fun h => absurd j0 h)
      walk_at "go"
      rw [decide_eq_true (show j < wd by omega)]
      walk_at "ly"
    have hf11 : Dp K S11 vf (givD f r q) := by walk_at "is"
    have hc11 : Dp K S11 (.ref pc) (tabD cs) := by walk_at "is"
    have hh11 : Dp K S11 vh (tabD cs) := by walk_at "is"
    have hx11 : Dp K S11 x (.list (ns.map PyData.int)) := by walk_at "is"
    have e11 : ((f.map fun _ : Int => true).all id) = true := by simp
    walk_at "go"
    rw [e11]
    walk_at "go"
    refine .mk W11 hc11 t (by walk_at "is") (by walk_at "is") lr lq (fun S12 H12 W12 hS12 => ?_)
    rw [give_fair G]
    have hf12 : Dp K S12 vf (givD f r q) := by walk_at "is"
    have hc12 : Dp K S12 (.ref pc) (tabD cs) := by walk_at "is"
    have hh12 : Dp K S12 vh (tabD cs) := by walk_at "is"
    have hx12 : Dp K S12 x (.list (ns.map PyData.int)) := by walk_at "is"
    walk_at "go"
    refine x_forN (fun i σ' H' => ∃ z4 : Option V, σ' = [some x, some (.int hh), some (.int wd), some (.ref pc), z4, none, some vh, some vf, none, none, none, none, none, none, none] ∧ H' = H12) ⟨by omega, by omega⟩ ⟨_, rfl, rfl⟩ ?_ ?_
    · rintro i σ' H' hi ⟨z4, rfl, rfl⟩
      obtain ⟨j0, j1⟩ := G.rng (nth f (i : Int)) (nth_mem (by omega) (by omega))
      have ht := G.tight (i : Int) ⟨by omega, by omega⟩
      have hrow := t.rows (nth cs (i : Int)) (nth_mem (by omega) (by omega))
      walk_at "go"
      refine x_iteND (fun h => absurd ht h) (fun _ => ?_)
      walk_at "go"
      exact ⟨_, rfl, rfl⟩
    rintro σ' H' ⟨z4, rfl, rfl⟩
    clear hf11 hc11 hh11 hx11 hf10 hc10 hh10 hx10 hv11 hvf
    walk_at "go"
    refine lcr_filt PyData.bool (fun j : Nat => !decide ((j : Int) ∈ f)) (fun _ => true) W12 ⟨by omega, by omega⟩ (fun j S' H' R acc N hj W' hS E => ?_) (fun S13 H13 v13 W13 hS13 hv13 => ?_)
    · have hf' : Dp K S' vf (givD f r q) := by walk_at "is"
      walk_at "go"
      refine x_inL (neg := true) W' (by assumption) ?_
      refine x_kx ?_
      refine x_iteTo (if_pos rfl) ?_
      refine x_iteND (fun hn => ?_) (fun hn => ?_)
      · have hp : (!decide ((j : Int) ∈ f)) = true := by rw [decide_eq_false hn]; rfl
        have hq0 := G.free (j : Int) ⟨by omega, by omega⟩ hn
        walk_at "go"
        rw [decide_eq_true hq0]
        walk_at "lyp"
      · have hp : (!decide ((j : Int) ∈ f)) = false := by rw [decide_eq_true hn]; rfl
        walk_at "lnp"
    have hf13 : Dp K S13 vf (givD f r q) := by walk_at "is"
    have hc13 : Dp K S13 (.ref pc) (tabD cs) := by walk_at "is"
    have hh13 : Dp K S13 vh (tabD cs) := by walk_at "is"
    have hx13 : Dp K S13 x (.list (ns.map PyData.int)) := by walk_at "is"
    have e13 : (((((List.range wd.toNat).filter fun j : Nat => !decide ((j : Int) ∈ f)).map fun _ => true)).all id) = true := by simp
    walk_at "go"
    rw [e13]
    walk_at "go"
    refine lcr_map PyData.int (fun k : Nat => co cs (k : Int) (nth f (k : Int))) W13 ⟨by omega, by omega⟩ (fun j S' H' R acc N hj W' hS E => ?_) (fun S14 H14 v14 W14 hS14 hv14 => ?_)
    · have hf' : Dp K S' vf (givD f r q) := by walk_at "is"
      have hc' : Dp K S' (.ref pc) (tabD cs) := by walk_at "is"
      obtain ⟨j0, j1⟩ := G.rng (nth f (j : Int)) (nth_mem (by omega) (by omega))
      have hrow := t.rows (nth cs (j : Int)) (nth_mem (by omega) (by omega))
      walk_at "go"
      walk_at "ly"
    rw [← hcl] at hv14
    have hf14 : Dp K S14 vf (givD f r q) := by walk_at "is"
    have hc14 : Dp K S14 (.ref pc) (tabD cs) := by walk_at "is"
    have hh14 : Dp K S14 vh (tabD cs) := by walk_at "is"
    have hx14 : Dp K S14 x (.list (ns.map PyData.int)) := by walk_at "is"
    walk_at "go"
    rename_i S15 H15 v15 W15 hS15 hv15
    refine .mk W15 (by walk_at "is") t (by assumption) lf G.rng (fun S16 H16 W16 hS16 => ?_)
    walk_at "go"
    refine x_iteND (fun h => absurd rfl h) (fun _ => ?_)
    walk_at "go"
    refine x_lst W16 (ds := ([] : List Int).map PyData.int) .nil (by simp) (fun S17 H17 v17 W17 hS17 hv17 => ?_)
    refine .mk W17 (dp_mono hS17 (dp_mono hS16 (dp_mono hS15 hc14))) t hv17 (by omega) (by omega) (by omega) rfl (fun S18 H18 m W18 hS18 B => ?_)
    have hf18 : Dp K S18 vf (givD f r q) := dp_mono hS18 (dp_mono hS17 (dp_mono hS16 (dp_mono hS15 hf14)))
    have hc18 : Dp K S18 (.ref pc) (tabD cs) := dp_mono hS18 (dp_mono hS17 (dp_mono hS16 (dp_mono hS15 hc14)))
    have hh18 : Dp K S18 vh (tabD cs) := dp_mono hS18 (dp_mono hS17 (dp_mono hS16 (dp_mono hS15 hh14)))
    have hx18 : Dp K S18 x (.list (ns.map PyData.int)) := dp_mono hS18 (dp_mono hS17 (dp_mono hS16 (dp_mono hS15 hx14)))
    clear hf14 hc14 hh14 hx14 hf13 hc13 hh13 hx13 hf12 hc12 hh12 hx12
    walk_at "go"
    refine x_iteND (fun h => absurd (give_best G B) h) (fun _ => ?_)
    repeat ((fail_if_success (with_reducible refine' x_listS (by assumption) (by walk_at "is") ?_)); walk_at "st")
    refine x_listO W18 (by assumption) (fun pq vs H19 hvs W19 => ?_)
    have hvs2 := ints_of hvs
    subst hvs2
    have hmod := cdivw_of (i := 0) (b := 9) (show 0 < wd by omega) (show wd.natAbs < _ by omega)
    have m0 := Int.emod_nonneg (mix ns 42) (show wd ≠ 0 by omega)
    have m1 := Int.emod_lt_of_pos (mix ns 42) (show 0 < wd by omega)
    walk_at "go"
    refine x_setM 0 W19 rfl m0 (by omega) (fun H20 W20 => ?_)
    have lq' : ((q.set (mix ns 42 % wd).toNat (mix ns 43 % 12 - 8)).length : Int) = wide cs := by rw [List.length_set]; exact lq
    generalize q.set (mix ns 42 % wd).toNat (mix ns 43 % 12 - 8) = q' at *
    refine x_giveI W20 (fun S21 W21 hS21 hq21 => ?_)
    have hf21 : Dp K S21 vf (givD f r q) := by walk_at "is"
    walk_at "go"
    refine x_lst W21 (ds := [q', q].map rowD) (.cons hq21 (.cons (by assumption) .nil)) (by simp) (fun S22 H22 v22 W22 hS22 hv22 => ?_)
    have hf22 : Dp K S22 vf (givD f r q) := by walk_at "is"
    have hc22 : Dp K S22 (.ref pc) (tabD cs) := dp_mono hS22 (dp_mono hS21 hc18)
    have hh22 : Dp K S22 vh (tabD cs) := dp_mono hS22 (dp_mono hS21 hh18)
    walk_at "go"
    refine x_forD hv22 (fun i σ' H' => ∃ (S' : Hp) (z10 z11 : Option V), σ' = [some x, some (.int hh), some (.int wd), some (.ref pc), z4, none, some vh, some vf, some (.int m), some (.ref pq), z10, z11, none, none, none] ∧ Wd K S' H' [] ∧ Same S22 S') ⟨S22, _, _, by rw [← give_best G B]; rfl, W22, Same.refl _⟩ (fun i σ' H' ⟨S', _, _, _, W', hS'⟩ => hS'.trans W'.sub) ?_ ?_
    · rintro i qz σ' H' ei ⟨S', z10, z11, rfl, W', hS'⟩
      refine kn_lst fun u hu => ?_
      have hqz : (qz.length : Int) = wide cs := by
        have hm := List.mem_of_getElem? ei
        simp only [List.mem_cons, List.not_mem_nil, or_false] at hm
        rcases hm with rfl | rfl
        · exact lq'
        · exact lq
      have hu' : Dp K S' u (rowD qz) := dp_mono hS' hu
      have hf' : Dp K S' vf (givD f r q) := by walk_at "is"
      have hc' : Dp K S' (.ref pc) (tabD cs) := by walk_at "is"
      have hh' : Dp K S' vh (tabD cs) := by walk_at "is"
      walk_at "go"
      rename_i uR huR Sa Ha va Wa hSa hva Sb Hb vb Wb hSb hvb
      refine .mk Wb (dp_mono hSb (dp_mono hSa hh')) t (dp_mono hSb hva) hvb lr hqz (fun S23 H23 W23 hS23 => ?_)
      have hf23 : Dp K S23 vf (givD f r q) := dp_mono hS23 (dp_mono hSb (dp_mono hSa hf'))
      have hc23 : Dp K S23 (.ref pc) (tabD cs) := dp_mono hS23 (dp_mono hSb (dp_mono hSa hc'))
      have hu23 : Dp K S23 u (rowD qz) := dp_mono hS23 (dp_mono hSb (dp_mono hSa hu'))
      walk_at "go"
      refine .mk W23 hc23 t (by assumption) hu23 lr hqz (fun S24 H24 W24 hS24 => ?_)
      walk_at "go"
      refine x_iteND (fun h => absurd rfl h) (fun _ => ?_)
      walk_at "go"
      exact ⟨S24, _, _, rfl, W24, by walk_at "same"⟩
    · rintro σ' H' ⟨S', z10, z11, rfl, W', hS'⟩
      walk_at "go"
      exact k _
end
end SB
namespace SB
open PySem PySem.Spec PyProof.Rows L2
theorem all_mk {K : PySem.W.Frag} {h : Heap} {mg : Str → Option Value} {fa f_look_table f_given_columns f_total f_are_prices f_law_cell f_law_mix f_law_whole f_law_wholes f_law_number f_law_cheapest f_law_refused f_law_fair f_law f_Giver_init f_Giver_gap f_Giver_least_open f_Giver_raise_by f_Giver_give f_Giver_turn c_Giver c_BestError c_NoTable : Addr}
    {od_look_table an_look_table : Option Addr} {sl_look_table : Array (Option Value)} {oc_look_table kV_look_table dc_look_table pm_look_table cd_look_table ct_look_table : Value}
    {od_given_columns an_given_columns : Option Addr} {sl_given_columns : Array (Option Value)} {oc_given_columns kV_given_columns dc_given_columns pm_given_columns cd_given_columns ct_given_columns : Value}
    {od_total an_total : Option Addr} {sl_total : Array (Option Value)} {oc_total kV_total dc_total pm_total cd_total ct_total : Value}
    {od_are_prices an_are_prices : Option Addr} {sl_are_prices : Array (Option Value)} {oc_are_prices kV_are_prices dc_are_prices pm_are_prices cd_are_prices ct_are_prices : Value}
    {od_law_cell an_law_cell : Option Addr} {sl_law_cell : Array (Option Value)} {oc_law_cell kV_law_cell dc_law_cell pm_law_cell cd_law_cell ct_law_cell : Value}
    {od_law_mix an_law_mix : Option Addr} {sl_law_mix : Array (Option Value)} {oc_law_mix kV_law_mix dc_law_mix pm_law_mix cd_law_mix ct_law_mix : Value}
    {od_law_whole an_law_whole : Option Addr} {sl_law_whole : Array (Option Value)} {oc_law_whole kV_law_whole dc_law_whole pm_law_whole cd_law_whole ct_law_whole : Value}
    {od_law_wholes an_law_wholes : Option Addr} {sl_law_wholes : Array (Option Value)} {oc_law_wholes kV_law_wholes dc_law_wholes pm_law_wholes cd_law_wholes ct_law_wholes : Value}
    {od_law_number an_law_number : Option Addr} {sl_law_number : Array (Option Value)} {oc_law_number kV_law_number dc_law_number pm_law_number cd_law_number ct_law_number : Value}
    {od_law_cheapest an_law_cheapest : Option Addr} {sl_law_cheapest : Array (Option Value)} {oc_law_cheapest kV_law_cheapest dc_law_cheapest pm_law_cheapest cd_law_cheapest ct_law_cheapest : Value}
    {od_law_refused an_law_refused : Option Addr} {sl_law_refused : Array (Option Value)} {oc_law_refused kV_law_refused dc_law_refused pm_law_refused cd_law_refused ct_law_refused : Value}
    {od_law_fair an_law_fair : Option Addr} {sl_law_fair : Array (Option Value)} {oc_law_fair kV_law_fair dc_law_fair pm_law_fair cd_law_fair ct_law_fair : Value}
    {od_law an_law : Option Addr} {sl_law : Array (Option Value)} {oc_law kV_law dc_law pm_law cd_law ct_law : Value}
    {od_Giver_init an_Giver_init : Option Addr} {sl_Giver_init : Array (Option Value)} {oc_Giver_init kV_Giver_init dc_Giver_init pm_Giver_init cd_Giver_init ct_Giver_init : Value}
    {od_Giver_gap an_Giver_gap : Option Addr} {sl_Giver_gap : Array (Option Value)} {oc_Giver_gap kV_Giver_gap dc_Giver_gap pm_Giver_gap cd_Giver_gap ct_Giver_gap : Value}
    {od_Giver_least_open an_Giver_least_open : Option Addr} {sl_Giver_least_open : Array (Option Value)} {oc_Giver_least_open kV_Giver_least_open dc_Giver_least_open pm_Giver_least_open cd_Giver_least_open ct_Giver_least_open : Value}
    {od_Giver_raise_by an_Giver_raise_by : Option Addr} {sl_Giver_raise_by : Array (Option Value)} {oc_Giver_raise_by kV_Giver_raise_by dc_Giver_raise_by pm_Giver_raise_by cd_Giver_raise_by ct_Giver_raise_by : Value}
    {od_Giver_give an_Giver_give : Option Addr} {sl_Giver_give : Array (Option Value)} {oc_Giver_give kV_Giver_give dc_Giver_give pm_Giver_give cd_Giver_give ct_Giver_give : Value}
    {od_Giver_turn an_Giver_turn : Option Addr} {sl_Giver_turn : Array (Option Value)} {oc_Giver_turn kV_Giver_turn dc_Giver_turn pm_Giver_turn cd_Giver_turn ct_Giver_turn : Value}
    {t_MOST_COLUMNS : Tok} (X : K.In h) (G : h.Ns mainGlobals mg) (hfa : mg "law" = some (.ref fa))
    (B_Giver : PySem.W.nsIn K mainGlobals "Giver" = some (some (.ref c_Giver)))
    (A_look_table : PySem.W.nsIn K mainGlobals "look_table" = some (some (.ref f_look_table)))
    (L_look_table : K.lookup f_look_table = some ⟨oc_look_table, od_look_table, .func (PySem.W.fnOf "look_table" "look_table" (defArgs s_look_table) (defBody s_look_table) (defScope s_look_table) .none kV_look_table dc_look_table pm_look_table an_look_table cd_look_table ct_look_table), sl_look_table⟩)
    (C_look_table : PySem.W.codeIn K cd_look_table "look_table" = true)
    (K_look_table : PySem.W.keepIn K (.ref f_look_table) = true)
    (A_given_columns : PySem.W.nsIn K mainGlobals "given_columns" = some (some (.ref f_given_columns)))
    (L_given_columns : K.lookup f_given_columns = some ⟨oc_given_columns, od_given_columns, .func (PySem.W.fnOf "given_columns" "given_columns" (defArgs s_given_columns) (defBody s_given_columns) (defScope s_given_columns) .none kV_given_columns dc_given_columns pm_given_columns an_given_columns cd_given_columns ct_given_columns), sl_given_columns⟩)
    (C_given_columns : PySem.W.codeIn K cd_given_columns "given_columns" = true)
    (K_given_columns : PySem.W.keepIn K (.ref f_given_columns) = true)
    (A_total : PySem.W.nsIn K mainGlobals "total" = some (some (.ref f_total)))
    (L_total : K.lookup f_total = some ⟨oc_total, od_total, .func (PySem.W.fnOf "total" "total" (defArgs s_total) (defBody s_total) (defScope s_total) .none kV_total dc_total pm_total an_total cd_total ct_total), sl_total⟩)
    (C_total : PySem.W.codeIn K cd_total "total" = true)
    (K_total : PySem.W.keepIn K (.ref f_total) = true)
    (A_are_prices : PySem.W.nsIn K mainGlobals "are_prices" = some (some (.ref f_are_prices)))
    (L_are_prices : K.lookup f_are_prices = some ⟨oc_are_prices, od_are_prices, .func (PySem.W.fnOf "are_prices" "are_prices" (defArgs s_are_prices) (defBody s_are_prices) (defScope s_are_prices) .none kV_are_prices dc_are_prices pm_are_prices an_are_prices cd_are_prices ct_are_prices), sl_are_prices⟩)
    (C_are_prices : PySem.W.codeIn K cd_are_prices "are_prices" = true)
    (K_are_prices : PySem.W.keepIn K (.ref f_are_prices) = true)
    (A_law_cell : PySem.W.nsIn K mainGlobals "_law_cell" = some (some (.ref f_law_cell)))
    (L_law_cell : K.lookup f_law_cell = some ⟨oc_law_cell, od_law_cell, .func (PySem.W.fnOf "_law_cell" "_law_cell" (defArgs s_law_cell) (defBody s_law_cell) (defScope s_law_cell) .none kV_law_cell dc_law_cell pm_law_cell an_law_cell cd_law_cell ct_law_cell), sl_law_cell⟩)
    (C_law_cell : PySem.W.codeIn K cd_law_cell "_law_cell" = true)
    (K_law_cell : PySem.W.keepIn K (.ref f_law_cell) = true)
    (A_law_mix : PySem.W.nsIn K mainGlobals "_law_mix" = some (some (.ref f_law_mix)))
    (L_law_mix : K.lookup f_law_mix = some ⟨oc_law_mix, od_law_mix, .func (PySem.W.fnOf "_law_mix" "_law_mix" (defArgs s_law_mix) (defBody s_law_mix) (defScope s_law_mix) .none kV_law_mix dc_law_mix pm_law_mix an_law_mix cd_law_mix ct_law_mix), sl_law_mix⟩)
    (C_law_mix : PySem.W.codeIn K cd_law_mix "_law_mix" = true)
    (K_law_mix : PySem.W.keepIn K (.ref f_law_mix) = true)
    (A_law_whole : PySem.W.nsIn K mainGlobals "_law_whole" = some (some (.ref f_law_whole)))
    (L_law_whole : K.lookup f_law_whole = some ⟨oc_law_whole, od_law_whole, .func (PySem.W.fnOf "_law_whole" "_law_whole" (defArgs s_law_whole) (defBody s_law_whole) (defScope s_law_whole) .none kV_law_whole dc_law_whole pm_law_whole an_law_whole cd_law_whole ct_law_whole), sl_law_whole⟩)
    (C_law_whole : PySem.W.codeIn K cd_law_whole "_law_whole" = true)
    (K_law_whole : PySem.W.keepIn K (.ref f_law_whole) = true)
    (A_law_wholes : PySem.W.nsIn K mainGlobals "_law_wholes" = some (some (.ref f_law_wholes)))
    (L_law_wholes : K.lookup f_law_wholes = some ⟨oc_law_wholes, od_law_wholes, .func (PySem.W.fnOf "_law_wholes" "_law_wholes" (defArgs s_law_wholes) (defBody s_law_wholes) (defScope s_law_wholes) .none kV_law_wholes dc_law_wholes pm_law_wholes an_law_wholes cd_law_wholes ct_law_wholes), sl_law_wholes⟩)
    (C_law_wholes : PySem.W.codeIn K cd_law_wholes "_law_wholes" = true)
    (K_law_wholes : PySem.W.keepIn K (.ref f_law_wholes) = true)
    (A_law_number : PySem.W.nsIn K mainGlobals "_law_number" = some (some (.ref f_law_number)))
    (L_law_number : K.lookup f_law_number = some ⟨oc_law_number, od_law_number, .func (PySem.W.fnOf "_law_number" "_law_number" (defArgs s_law_number) (defBody s_law_number) (defScope s_law_number) .none kV_law_number dc_law_number pm_law_number an_law_number cd_law_number ct_law_number), sl_law_number⟩)
    (C_law_number : PySem.W.codeIn K cd_law_number "_law_number" = true)
    (K_law_number : PySem.W.keepIn K (.ref f_law_number) = true)
    (A_law_cheapest : PySem.W.nsIn K mainGlobals "_law_cheapest" = some (some (.ref f_law_cheapest)))
    (L_law_cheapest : K.lookup f_law_cheapest = some ⟨oc_law_cheapest, od_law_cheapest, .func (PySem.W.fnOf "_law_cheapest" "_law_cheapest" (defArgs s_law_cheapest) (defBody s_law_cheapest) (defScope s_law_cheapest) .none kV_law_cheapest dc_law_cheapest pm_law_cheapest an_law_cheapest cd_law_cheapest ct_law_cheapest), sl_law_cheapest⟩)
    (C_law_cheapest : PySem.W.codeIn K cd_law_cheapest "_law_cheapest" = true)
    (K_law_cheapest : PySem.W.keepIn K (.ref f_law_cheapest) = true)
    (A_law_refused : PySem.W.nsIn K mainGlobals "_law_refused" = some (some (.ref f_law_refused)))
    (L_law_refused : K.lookup f_law_refused = some ⟨oc_law_refused, od_law_refused, .func (PySem.W.fnOf "_law_refused" "_law_refused" (defArgs s_law_refused) (defBody s_law_refused) (defScope s_law_refused) .none kV_law_refused dc_law_refused pm_law_refused an_law_refused cd_law_refused ct_law_refused), sl_law_refused⟩)
    (C_law_refused : PySem.W.codeIn K cd_law_refused "_law_refused" = true)
    (K_law_refused : PySem.W.keepIn K (.ref f_law_refused) = true)
    (A_law_fair : PySem.W.nsIn K mainGlobals "_law_fair" = some (some (.ref f_law_fair)))
    (L_law_fair : K.lookup f_law_fair = some ⟨oc_law_fair, od_law_fair, .func (PySem.W.fnOf "_law_fair" "_law_fair" (defArgs s_law_fair) (defBody s_law_fair) (defScope s_law_fair) .none kV_law_fair dc_law_fair pm_law_fair an_law_fair cd_law_fair ct_law_fair), sl_law_fair⟩)
    (C_law_fair : PySem.W.codeIn K cd_law_fair "_law_fair" = true)
    (K_law_fair : PySem.W.keepIn K (.ref f_law_fair) = true)
    (A_law : PySem.W.nsIn K mainGlobals "law" = some (some (.ref f_law)))
    (L_law : K.lookup f_law = some ⟨oc_law, od_law, .func (PySem.W.fnOf "law" "law" (defArgs s_law) (defBody s_law) (defScope s_law) .none kV_law dc_law pm_law an_law cd_law ct_law), sl_law⟩)
    (C_law : PySem.W.codeIn K cd_law "law" = true)
    (K_law : PySem.W.keepIn K (.ref f_law) = true)
    (A_Giver_init : PySem.W.findIn K (.ref c_Giver) "__init__" = some (some (.ref f_Giver_init)))
    (J_Giver_init : PySem.W.isFn K (.ref f_Giver_init) = true)
    (L_Giver_init : K.lookup f_Giver_init = some ⟨oc_Giver_init, od_Giver_init, .func (PySem.W.fnOf "__init__" "Giver.__init__" (defArgs s_Giver_init) (defBody s_Giver_init) (defScope s_Giver_init) .none kV_Giver_init dc_Giver_init pm_Giver_init an_Giver_init cd_Giver_init ct_Giver_init), sl_Giver_init⟩)
    (C_Giver_init : PySem.W.codeIn K cd_Giver_init "Giver.__init__" = true)
    (K_Giver_init : PySem.W.keepIn K (.ref f_Giver_init) = true)
    (A_Giver_gap : PySem.W.findIn K (.ref c_Giver) "gap" = some (some (.ref f_Giver_gap)))
    (J_Giver_gap : PySem.W.isFn K (.ref f_Giver_gap) = true)
    (L_Giver_gap : K.lookup f_Giver_gap = some ⟨oc_Giver_gap, od_Giver_gap, .func (PySem.W.fnOf "gap" "Giver.gap" (defArgs s_Giver_gap) (defBody s_Giver_gap) (defScope s_Giver_gap) .none kV_Giver_gap dc_Giver_gap pm_Giver_gap an_Giver_gap cd_Giver_gap ct_Giver_gap), sl_Giver_gap⟩)
    (C_Giver_gap : PySem.W.codeIn K cd_Giver_gap "Giver.gap" = true)
    (K_Giver_gap : PySem.W.keepIn K (.ref f_Giver_gap) = true)
    (A_Giver_least_open : PySem.W.findIn K (.ref c_Giver) "least_open" = some (some (.ref f_Giver_least_open)))
    (J_Giver_least_open : PySem.W.isFn K (.ref f_Giver_least_open) = true)
    (L_Giver_least_open : K.lookup f_Giver_least_open = some ⟨oc_Giver_least_open, od_Giver_least_open, .func (PySem.W.fnOf "least_open" "Giver.least_open" (defArgs s_Giver_least_open) (defBody s_Giver_least_open) (defScope s_Giver_least_open) .none kV_Giver_least_open dc_Giver_least_open pm_Giver_least_open an_Giver_least_open cd_Giver_least_open ct_Giver_least_open), sl_Giver_least_open⟩)
    (C_Giver_least_open : PySem.W.codeIn K cd_Giver_least_open "Giver.least_open" = true)
    (K_Giver_least_open : PySem.W.keepIn K (.ref f_Giver_least_open) = true)
    (A_Giver_raise_by : PySem.W.findIn K (.ref c_Giver) "raise_by" = some (some (.ref f_Giver_raise_by)))
    (J_Giver_raise_by : PySem.W.isFn K (.ref f_Giver_raise_by) = true)
    (L_Giver_raise_by : K.lookup f_Giver_raise_by = some ⟨oc_Giver_raise_by, od_Giver_raise_by, .func (PySem.W.fnOf "raise_by" "Giver.raise_by" (defArgs s_Giver_raise_by) (defBody s_Giver_raise_by) (defScope s_Giver_raise_by) .none kV_Giver_raise_by dc_Giver_raise_by pm_Giver_raise_by an_Giver_raise_by cd_Giver_raise_by ct_Giver_raise_by), sl_Giver_raise_by⟩)
    (C_Giver_raise_by : PySem.W.codeIn K cd_Giver_raise_by "Giver.raise_by" = true)
    (K_Giver_raise_by : PySem.W.keepIn K (.ref f_Giver_raise_by) = true)
    (A_Giver_give : PySem.W.findIn K (.ref c_Giver) "give" = some (some (.ref f_Giver_give)))
    (J_Giver_give : PySem.W.isFn K (.ref f_Giver_give) = true)
    (L_Giver_give : K.lookup f_Giver_give = some ⟨oc_Giver_give, od_Giver_give, .func (PySem.W.fnOf "give" "Giver.give" (defArgs s_Giver_give) (defBody s_Giver_give) (defScope s_Giver_give) .none kV_Giver_give dc_Giver_give pm_Giver_give an_Giver_give cd_Giver_give ct_Giver_give), sl_Giver_give⟩)
    (C_Giver_give : PySem.W.codeIn K cd_Giver_give "Giver.give" = true)
    (K_Giver_give : PySem.W.keepIn K (.ref f_Giver_give) = true)
    (A_Giver_turn : PySem.W.findIn K (.ref c_Giver) "turn" = some (some (.ref f_Giver_turn)))
    (J_Giver_turn : PySem.W.isFn K (.ref f_Giver_turn) = true)
    (L_Giver_turn : K.lookup f_Giver_turn = some ⟨oc_Giver_turn, od_Giver_turn, .func (PySem.W.fnOf "turn" "Giver.turn" (defArgs s_Giver_turn) (defBody s_Giver_turn) (defScope s_Giver_turn) .none kV_Giver_turn dc_Giver_turn pm_Giver_turn an_Giver_turn cd_Giver_turn ct_Giver_turn), sl_Giver_turn⟩)
    (C_Giver_turn : PySem.W.codeIn K cd_Giver_turn "Giver.turn" = true)
    (K_Giver_turn : PySem.W.keepIn K (.ref f_Giver_turn) = true)
    (pg_Giver : PySem.W.plainGet K c_Giver Str.empty = true)
    (hd_Giver : PySem.W.hasDictIn K c_Giver = true)
    (po_Giver : PySem.W.plainOver K c_Giver = true)
    (sa_Giver : PySem.W.findIn K (.ref c_Giver) "__setattr__" = some (some (.builtin "object.__setattr__")))
    (mk_Giver : PySem.W.makesIn K c_Giver = true)
    (kc_Giver : PySem.W.keepIn K (.ref c_Giver) = true)
    (n_Giver_costs : PySem.W.findIn K (.ref c_Giver) "costs" = some none)
    (n_Giver_wide : PySem.W.findIn K (.ref c_Giver) "wide" = some none)
    (n_Giver_rows : PySem.W.findIn K (.ref c_Giver) "rows" = some none)
    (n_Giver_columns : PySem.W.findIn K (.ref c_Giver) "columns" = some none)
    (n_Giver_owner : PySem.W.findIn K (.ref c_Giver) "owner" = some none)
    (B_BestError : PySem.W.nsIn K mainGlobals "BestError" = some (some (.ref c_BestError)))
    (K_BestError : PySem.W.keepIn K (.ref c_BestError) = true)
    (X_BestError : PySem.W.excIn K c_BestError veT "ValueError.__new__" = true)
    (S_BestError : PySem.W.subIn K (.ref c_BestError) (.type "BaseException") = some true)
    (T_BestError : PySem.W.typeIn K (.ref c_BestError) = some (.type "type"))
    (I_BestError : PySem.W.isClsIn K c_BestError = true)
    (B_NoTable : PySem.W.nsIn K mainGlobals "NoTable" = some (some (.ref c_NoTable)))
    (K_NoTable : PySem.W.keepIn K (.ref c_NoTable) = true)
    (X_NoTable : PySem.W.excIn K c_NoTable veT "ValueError.__new__" = true)
    (S_NoTable : PySem.W.subIn K (.ref c_NoTable) (.type "BaseException") = some true)
    (T_NoTable : PySem.W.typeIn K (.ref c_NoTable) = some (.type "type"))
    (I_NoTable : PySem.W.isClsIn K c_NoTable = true)
    (e_NoTable_BestError : PySem.W.subIn K (.ref c_NoTable) (.ref c_BestError) = some true)
    (yga_NoTable : PySem.W.findIn K (.ref c_NoTable) "__getattribute__" = some (some (.builtin "BaseException.__getattribute__")))
    (ygg_NoTable : PySem.W.findIn K (.ref c_NoTable) "__getattr__" = some none)
    (yhh_NoTable : PySem.W.hasDictIn K c_NoTable = true)
    (ycl_NoTable : PySem.W.findIn K (.ref c_NoTable) "__class__" = some (some (.builtin "object.__class__")))
    (ymo_NoTable : PySem.W.mroIn K c_NoTable (.type "object") = some true)
    (ysp_NoTable : PySem.W.specialIn K (.builtin "object.__class__") "__get__" = some (some (.builtin "getset_descriptor.__get__")))
    (ytk_NoTable : PySem.W.takesIn K (.builtin "object.__class__") = some true)
    (q_NoTable_ValueError : PySem.W.subIn K (.ref c_NoTable) (.type "ValueError") = some true)
    (g_MOST_COLUMNS : PySem.W.nsIn K mainGlobals "MOST_COLUMNS" = some (some (.int 8 t_MOST_COLUMNS)))
    (z_ValueError : PySem.W.nsIn K mainGlobals "ValueError" = some none)
    (z_all : PySem.W.nsIn K mainGlobals "all" = some none)
    (z_any : PySem.W.nsIn K mainGlobals "any" = some none)
    (z_bool : PySem.W.nsIn K mainGlobals "bool" = some none)
    (z_int : PySem.W.nsIn K mainGlobals "int" = some none)
    (z_isinstance : PySem.W.nsIn K mainGlobals "isinstance" = some none)
    (z_len : PySem.W.nsIn K mainGlobals "len" = some none)
    (z_list : PySem.W.nsIn K mainGlobals "list" = some none)
    (z_range : PySem.W.nsIn K mainGlobals "range" = some none)
    (z_set : PySem.W.nsIn K mainGlobals "set" = some none)
    (z_sum : PySem.W.nsIn K mainGlobals "sum" = some none)
    (z_tuple : PySem.W.nsIn K mainGlobals "tuple" = some none)
    : ∃ d : Ad, Txt K mg d ∧ d.a_law = fa ∧ ∀ (s : Shared) (u : Value), BindsTo s d.f_law ⟨[u], []⟩ [("_law_script", u)] := by
  have e : f_law = fa := Value.ref.inj (Option.some.inj ((PySem.W.mg_of X G A_law).symm.trans hfa))
  subst e
  refine ⟨{
    a_look_table := f_look_table
    f_look_table := PySem.W.fnOf "look_table" "look_table" (defArgs s_look_table) (defBody s_look_table) (defScope s_look_table) .none kV_look_table dc_look_table pm_look_table an_look_table cd_look_table ct_look_table
    a_given_columns := f_given_columns
    f_given_columns := PySem.W.fnOf "given_columns" "given_columns" (defArgs s_given_columns) (defBody s_given_columns) (defScope s_given_columns) .none kV_given_columns dc_given_columns pm_given_columns an_given_columns cd_given_columns ct_given_columns
    a_total := f_total
    f_total := PySem.W.fnOf "total" "total" (defArgs s_total) (defBody s_total) (defScope s_total) .none kV_total dc_total pm_total an_total cd_total ct_total
    a_are_prices := f_are_prices
    f_are_prices := PySem.W.fnOf "are_prices" "are_prices" (defArgs s_are_prices) (defBody s_are_prices) (defScope s_are_prices) .none kV_are_prices dc_are_prices pm_are_prices an_are_prices cd_are_prices ct_are_prices
    a_law_cell := f_law_cell
    f_law_cell := PySem.W.fnOf "_law_cell" "_law_cell" (defArgs s_law_cell) (defBody s_law_cell) (defScope s_law_cell) .none kV_law_cell dc_law_cell pm_law_cell an_law_cell cd_law_cell ct_law_cell
    a_law_mix := f_law_mix
    f_law_mix := PySem.W.fnOf "_law_mix" "_law_mix" (defArgs s_law_mix) (defBody s_law_mix) (defScope s_law_mix) .none kV_law_mix dc_law_mix pm_law_mix an_law_mix cd_law_mix ct_law_mix
    a_law_whole := f_law_whole
    f_law_whole := PySem.W.fnOf "_law_whole" "_law_whole" (defArgs s_law_whole) (defBody s_law_whole) (defScope s_law_whole) .none kV_law_whole dc_law_whole pm_law_whole an_law_whole cd_law_whole ct_law_whole
    a_law_wholes := f_law_wholes
    f_law_wholes := PySem.W.fnOf "_law_wholes" "_law_wholes" (defArgs s_law_wholes) (defBody s_law_wholes) (defScope s_law_wholes) .none kV_law_wholes dc_law_wholes pm_law_wholes an_law_wholes cd_law_wholes ct_law_wholes
    a_law_number := f_law_number
    f_law_number := PySem.W.fnOf "_law_number" "_law_number" (defArgs s_law_number) (defBody s_law_number) (defScope s_law_number) .none kV_law_number dc_law_number pm_law_number an_law_number cd_law_number ct_law_number
    a_law_cheapest := f_law_cheapest
    f_law_cheapest := PySem.W.fnOf "_law_cheapest" "_law_cheapest" (defArgs s_law_cheapest) (defBody s_law_cheapest) (defScope s_law_cheapest) .none kV_law_cheapest dc_law_cheapest pm_law_cheapest an_law_cheapest cd_law_cheapest ct_law_cheapest
    a_law_refused := f_law_refused
    f_law_refused := PySem.W.fnOf "_law_refused" "_law_refused" (defArgs s_law_refused) (defBody s_law_refused) (defScope s_law_refused) .none kV_law_refused dc_law_refused pm_law_refused an_law_refused cd_law_refused ct_law_refused
    a_law_fair := f_law_fair
    f_law_fair := PySem.W.fnOf "_law_fair" "_law_fair" (defArgs s_law_fair) (defBody s_law_fair) (defScope s_law_fair) .none kV_law_fair dc_law_fair pm_law_fair an_law_fair cd_law_fair ct_law_fair
    a_law := f_law
    f_law := PySem.W.fnOf "law" "law" (defArgs s_law) (defBody s_law) (defScope s_law) .none kV_law dc_law pm_law an_law cd_law ct_law
    a_Giver_init := f_Giver_init
    f_Giver_init := PySem.W.fnOf "__init__" "Giver.__init__" (defArgs s_Giver_init) (defBody s_Giver_init) (defScope s_Giver_init) .none kV_Giver_init dc_Giver_init pm_Giver_init an_Giver_init cd_Giver_init ct_Giver_init
    a_Giver_gap := f_Giver_gap
    f_Giver_gap := PySem.W.fnOf "gap" "Giver.gap" (defArgs s_Giver_gap) (defBody s_Giver_gap) (defScope s_Giver_gap) .none kV_Giver_gap dc_Giver_gap pm_Giver_gap an_Giver_gap cd_Giver_gap ct_Giver_gap
    a_Giver_least_open := f_Giver_least_open
    f_Giver_least_open := PySem.W.fnOf "least_open" "Giver.least_open" (defArgs s_Giver_least_open) (defBody s_Giver_least_open) (defScope s_Giver_least_open) .none kV_Giver_least_open dc_Giver_least_open pm_Giver_least_open an_Giver_least_open cd_Giver_least_open ct_Giver_least_open
    a_Giver_raise_by := f_Giver_raise_by
    f_Giver_raise_by := PySem.W.fnOf "raise_by" "Giver.raise_by" (defArgs s_Giver_raise_by) (defBody s_Giver_raise_by) (defScope s_Giver_raise_by) .none kV_Giver_raise_by dc_Giver_raise_by pm_Giver_raise_by an_Giver_raise_by cd_Giver_raise_by ct_Giver_raise_by
    a_Giver_give := f_Giver_give
    f_Giver_give := PySem.W.fnOf "give" "Giver.give" (defArgs s_Giver_give) (defBody s_Giver_give) (defScope s_Giver_give) .none kV_Giver_give dc_Giver_give pm_Giver_give an_Giver_give cd_Giver_give ct_Giver_give
    a_Giver_turn := f_Giver_turn
    f_Giver_turn := PySem.W.fnOf "turn" "Giver.turn" (defArgs s_Giver_turn) (defBody s_Giver_turn) (defScope s_Giver_turn) .none kV_Giver_turn dc_Giver_turn pm_Giver_turn an_Giver_turn cd_Giver_turn ct_Giver_turn
    c_Giver := c_Giver
    c_BestError := c_BestError
    c_NoTable := c_NoTable
    t_MOST_COLUMNS := t_MOST_COLUMNS
    }, {
    F_look_table := fun_mk (st := s_look_table) L_look_table C_look_table K_look_table
    p_look_table := (fun_mk (st := s_look_table) L_look_table C_look_table K_look_table).binds fun _ _ _ _ _ _ us hl => match us, hl with | [_], _ => rfl
    g_look_table := PySem.W.mg_of X G A_look_table
    k_look_table := K_look_table
    F_given_columns := fun_mk (st := s_given_columns) L_given_columns C_given_columns K_given_columns
    p_given_columns := (fun_mk (st := s_given_columns) L_given_columns C_given_columns K_given_columns).binds fun _ _ _ _ _ _ us hl => match us, hl with | [_], _ => rfl
    g_given_columns := PySem.W.mg_of X G A_given_columns
    k_given_columns := K_given_columns
    F_total := fun_mk (st := s_total) L_total C_total K_total
    p_total := (fun_mk (st := s_total) L_total C_total K_total).binds fun _ _ _ _ _ _ us hl => match us, hl with | [_, _], _ => rfl
    g_total := PySem.W.mg_of X G A_total
    k_total := K_total
    F_are_prices := fun_mk (st := s_are_prices) L_are_prices C_are_prices K_are_prices
    p_are_prices := (fun_mk (st := s_are_prices) L_are_prices C_are_prices K_are_prices).binds fun _ _ _ _ _ _ us hl => match us, hl with | [_, _, _], _ => rfl
    g_are_prices := PySem.W.mg_of X G A_are_prices
    k_are_prices := K_are_prices
    F_law_cell := fun_mk (st := s_law_cell) L_law_cell C_law_cell K_law_cell
    p_law_cell := (fun_mk (st := s_law_cell) L_law_cell C_law_cell K_law_cell).binds fun _ _ _ _ _ _ us hl => match us, hl with | [_, _], _ => rfl
    g_law_cell := PySem.W.mg_of X G A_law_cell
    k_law_cell := K_law_cell
    F_law_mix := fun_mk (st := s_law_mix) L_law_mix C_law_mix K_law_mix
    p_law_mix := (fun_mk (st := s_law_mix) L_law_mix C_law_mix K_law_mix).binds fun _ _ _ _ _ _ us hl => match us, hl with | [_, _], _ => rfl
    g_law_mix := PySem.W.mg_of X G A_law_mix
    k_law_mix := K_law_mix
    F_law_whole := fun_mk (st := s_law_whole) L_law_whole C_law_whole K_law_whole
    p_law_whole := (fun_mk (st := s_law_whole) L_law_whole C_law_whole K_law_whole).binds fun _ _ _ _ _ _ us hl => match us, hl with | [_], _ => rfl
    g_law_whole := PySem.W.mg_of X G A_law_whole
    k_law_whole := K_law_whole
    F_law_wholes := fun_mk (st := s_law_wholes) L_law_wholes C_law_wholes K_law_wholes
    p_law_wholes := (fun_mk (st := s_law_wholes) L_law_wholes C_law_wholes K_law_wholes).binds fun _ _ _ _ _ _ us hl => match us, hl with | [_], _ => rfl
    g_law_wholes := PySem.W.mg_of X G A_law_wholes
    k_law_wholes := K_law_wholes
    F_law_number := fun_mk (st := s_law_number) L_law_number C_law_number K_law_number
    p_law_number := (fun_mk (st := s_law_number) L_law_number C_law_number K_law_number).binds fun _ _ _ _ _ _ us hl => match us, hl with | [_], _ => rfl
    g_law_number := PySem.W.mg_of X G A_law_number
    k_law_number := K_law_number
    F_law_cheapest := fun_mk (st := s_law_cheapest) L_law_cheapest C_law_cheapest K_law_cheapest
    p_law_cheapest := (fun_mk (st := s_law_cheapest) L_law_cheapest C_law_cheapest K_law_cheapest).binds fun _ _ _ _ _ _ us hl => match us, hl with | [_, _, _], _ => rfl
    g_law_cheapest := PySem.W.mg_of X G A_law_cheapest
    k_law_cheapest := K_law_cheapest
    F_law_refused := fun_mk (st := s_law_refused) L_law_refused C_law_refused K_law_refused
    p_law_refused := (fun_mk (st := s_law_refused) L_law_refused C_law_refused K_law_refused).binds fun _ _ _ _ _ _ us hl => match us, hl with | [_], _ => rfl
    g_law_refused := PySem.W.mg_of X G A_law_refused
    k_law_refused := K_law_refused
    F_law_fair := fun_mk (st := s_law_fair) L_law_fair C_law_fair K_law_fair
    p_law_fair := (fun_mk (st := s_law_fair) L_law_fair C_law_fair K_law_fair).binds fun _ _ _ _ _ _ us hl => match us, hl with | [_, _, _], _ => rfl
    g_law_fair := PySem.W.mg_of X G A_law_fair
    k_law_fair := K_law_fair
    F_law := fun_mk (st := s_law) L_law C_law K_law
    p_law := (fun_mk (st := s_law) L_law C_law K_law).binds fun _ _ _ _ _ _ us hl => match us, hl with | [_], _ => rfl
    g_law := PySem.W.mg_of X G A_law
    k_law := K_law
    F_Giver_init := fun_mk (st := s_Giver_init) L_Giver_init C_Giver_init K_Giver_init
    p_Giver_init := (fun_mk (st := s_Giver_init) L_Giver_init C_Giver_init K_Giver_init).binds fun _ _ _ _ _ _ us hl => match us, hl with | [_, _], _ => rfl
    F_Giver_gap := fun_mk (st := s_Giver_gap) L_Giver_gap C_Giver_gap K_Giver_gap
    p_Giver_gap := (fun_mk (st := s_Giver_gap) L_Giver_gap C_Giver_gap K_Giver_gap).binds fun _ _ _ _ _ _ us hl => match us, hl with | [_, _, _], _ => rfl
    h_Giver_gap := ⟨A_Giver_gap, J_Giver_gap, K_Giver_gap⟩
    F_Giver_least_open := fun_mk (st := s_Giver_least_open) L_Giver_least_open C_Giver_least_open K_Giver_least_open
    p_Giver_least_open := (fun_mk (st := s_Giver_least_open) L_Giver_least_open C_Giver_least_open K_Giver_least_open).binds fun _ _ _ _ _ _ us hl => match us, hl with | [_, _, _], _ => rfl
    h_Giver_least_open := ⟨A_Giver_least_open, J_Giver_least_open, K_Giver_least_open⟩
    F_Giver_raise_by := fun_mk (st := s_Giver_raise_by) L_Giver_raise_by C_Giver_raise_by K_Giver_raise_by
    p_Giver_raise_by := (fun_mk (st := s_Giver_raise_by) L_Giver_raise_by C_Giver_raise_by K_Giver_raise_by).binds fun _ _ _ _ _ _ us hl => match us, hl with | [_, _, _, _, _], _ => rfl
    h_Giver_raise_by := ⟨A_Giver_raise_by, J_Giver_raise_by, K_Giver_raise_by⟩
    F_Giver_give := fun_mk (st := s_Giver_give) L_Giver_give C_Giver_give K_Giver_give
    p_Giver_give := (fun_mk (st := s_Giver_give) L_Giver_give C_Giver_give K_Giver_give).binds fun _ _ _ _ _ _ us hl => match us, hl with | [_, _], _ => rfl
    h_Giver_give := ⟨A_Giver_give, J_Giver_give, K_Giver_give⟩
    F_Giver_turn := fun_mk (st := s_Giver_turn) L_Giver_turn C_Giver_turn K_Giver_turn
    p_Giver_turn := (fun_mk (st := s_Giver_turn) L_Giver_turn C_Giver_turn K_Giver_turn).binds fun _ _ _ _ _ _ us hl => match us, hl with | [_, _, _, _], _ => rfl
    h_Giver_turn := ⟨A_Giver_turn, J_Giver_turn, K_Giver_turn⟩
    g_Giver := PySem.W.mg_of X G B_Giver
    c_Giver := ⟨pg_Giver, hd_Giver, po_Giver, sa_Giver⟩
    m_Giver := ⟨mk_Giver, A_Giver_init, J_Giver_init, kc_Giver⟩
    n_Giver_costs := n_Giver_costs
    n_Giver_wide := n_Giver_wide
    n_Giver_rows := n_Giver_rows
    n_Giver_columns := n_Giver_columns
    n_Giver_owner := n_Giver_owner
    g_BestError := PySem.W.mg_of X G B_BestError
    k_BestError := K_BestError
    x_BestError := X_BestError
    s_BestError := S_BestError
    t_BestError := T_BestError
    i_BestError := I_BestError
    g_NoTable := PySem.W.mg_of X G B_NoTable
    k_NoTable := K_NoTable
    x_NoTable := X_NoTable
    s_NoTable := S_NoTable
    t_NoTable := T_NoTable
    i_NoTable := I_NoTable
    e_NoTable_BestError := exm_own S_BestError I_BestError T_BestError e_NoTable_BestError
    y_NoTable := ⟨yga_NoTable, ygg_NoTable, S_NoTable, yhh_NoTable, ycl_NoTable, ysp_NoTable, ytk_NoTable, ymo_NoTable⟩
    q_NoTable_NoTable := kit_self
    q_NoTable_ValueError := kit_bty (by decide +kernel) q_NoTable_ValueError
    g_MOST_COLUMNS := PySem.W.mg_of X G g_MOST_COLUMNS
    b_ValueError := PySem.W.mg_none_of X G z_ValueError
    b_all := PySem.W.mg_none_of X G z_all
    b_any := PySem.W.mg_none_of X G z_any
    b_bool := PySem.W.mg_none_of X G z_bool
    b_int := PySem.W.mg_none_of X G z_int
    b_isinstance := PySem.W.mg_none_of X G z_isinstance
    b_len := PySem.W.mg_none_of X G z_len
    b_list := PySem.W.mg_none_of X G z_list
    b_range := PySem.W.mg_none_of X G z_range
    b_set := PySem.W.mg_none_of X G z_set
    b_sum := PySem.W.mg_none_of X G z_sum
    b_tuple := PySem.W.mg_none_of X G z_tuple
    }, rfl, fun s u => .of_eq rfl⟩
theorem walk {l : PySem.W.OpenLaw} {q : Program} {loose : List Str} {XP : (Str → Option Value) → Heap → Prop} {YP : World → Heap → Prop} {d : DefRec} {K : Params → PySem.W.Frag} (hn : l.most = some 63) (hdf : d.params.defaults = [])
    (hY : ∀ (w : World) (h : Heap), YP w h → (K w.params).In h)
    (F : ∀ (w : World) (mg : Str → Option Value) (fa : Addr) (h : Heap), (K w.params).In h → h.Ns mainGlobals mg → mg d.name = some (.ref fa) →
      ∃ d : Ad, Txt (K w.params) mg d ∧ d.a_law = fa ∧ ∀ (s : Shared) (u : Value), BindsTo s d.f_law ⟨[u], []⟩ [("_law_script", u)]) :
    PySem.W.WalkO q loose XP YP l.row.toRowW d [] (fun f vs => PySem.call f vs) :=
  L2.walk_of (n := 63) (k := 8) (x := "_law_script") (CX := fun _ => CX0) (sp := fun w => Sp_law (K w.params)) hn (by decide) hdf ⟨rfl, by decide, by decide⟩ hY
    (fun w mg fa h KX G hmg => by
      obtain ⟨dd, T, e, hb⟩ := F w mg fa h KX G hmg
      subst e
      exact ⟨dd.f_law, hb, fun base _ _ => ok_law T⟩)
    (fun w H a ns hl hO hS => Sp_law.mk (ns := ns) (.lst hS (dpAll_ints ns)) (fun _ => rfl)) fun _ _ _ _ _ z => z
end SB
open PySem PySem.W PyProof.Rows
set_option maxRecDepth 100000 in
set_option maxHeartbeats 0 in
theorem PySem.Challenge.cw_surebest_k50_whole_given_holds : PySem.Challenge.rw_surebest_k50_whole_given.Holds := by
  w_on; o_law; k_head; (case hw => w_witness2)
  k_fill
  refine SB.walk (l := PySem.Challenge.rw_surebest_k50_whole_given) rfl rfl (fun w h Y => PySem.W.kIn_of Y) ?F
  case F =>
    intro w mg fa h KX G hmg
    refine' SB.all_mk KX G hmg ?B_Giver ?A_look_table ?L_look_table ?C_look_table ?K_look_table ?A_given_columns ?L_given_columns ?C_given_columns ?K_given_columns ?A_total ?L_total ?C_total ?K_total ?A_are_prices ?L_are_prices ?C_are_prices ?K_are_prices ?A_law_cell ?L_law_cell ?C_law_cell ?K_law_cell ?A_law_mix ?L_law_mix ?C_law_mix ?K_law_mix ?A_law_whole ?L_law_whole ?C_law_whole ?K_law_whole ?A_law_wholes ?L_law_wholes ?C_law_wholes ?K_law_wholes ?A_law_number ?L_law_number ?C_law_number ?K_law_number ?A_law_cheapest ?L_law_cheapest ?C_law_cheapest ?K_law_cheapest ?A_law_refused ?L_law_refused ?C_law_refused ?K_law_refused ?A_law_fair ?L_law_fair ?C_law_fair ?K_law_fair ?A_law ?L_law ?C_law ?K_law ?A_Giver_init ?J_Giver_init ?L_Giver_init ?C_Giver_init ?K_Giver_init ?A_Giver_gap ?J_Giver_gap ?L_Giver_gap ?C_Giver_gap ?K_Giver_gap ?A_Giver_least_open ?J_Giver_least_open ?L_Giver_least_open ?C_Giver_least_open ?K_Giver_least_open ?A_Giver_raise_by ?J_Giver_raise_by ?L_Giver_raise_by ?C_Giver_raise_by ?K_Giver_raise_by ?A_Giver_give ?J_Giver_give ?L_Giver_give ?C_Giver_give ?K_Giver_give ?A_Giver_turn ?J_Giver_turn ?L_Giver_turn ?C_Giver_turn ?K_Giver_turn ?pg_Giver ?hd_Giver ?po_Giver ?sa_Giver ?mk_Giver ?kc_Giver ?n_Giver_costs ?n_Giver_wide ?n_Giver_rows ?n_Giver_columns ?n_Giver_owner ?B_BestError ?K_BestError ?X_BestError ?S_BestError ?T_BestError ?I_BestError ?B_NoTable ?K_NoTable ?X_NoTable ?S_NoTable ?T_NoTable ?I_NoTable ?e_NoTable_BestError ?yga_NoTable ?ygg_NoTable ?yhh_NoTable ?ycl_NoTable ?ymo_NoTable ?ysp_NoTable ?ytk_NoTable ?q_NoTable_ValueError ?g_MOST_COLUMNS ?z_ValueError ?z_all ?z_any ?z_bool ?z_int ?z_isinstance ?z_len ?z_list ?z_range ?z_set ?z_sum ?z_tuple
    (case B_Giver => k_is)
    (case A_look_table => k_is)
    (case L_look_table => k_is)
    (case C_look_table => k_is)
    (case K_look_table => k_is)
    (case A_given_columns => k_is)
    (case L_given_columns => k_is)
    (case C_given_columns => k_is)
    (case K_given_columns => k_is)
    (case A_total => k_is)
    (case L_total => k_is)
    (case C_total => k_is)
    (case K_total => k_is)
    (case A_are_prices => k_is)
    (case L_are_prices => k_is)
    (case C_are_prices => k_is)
    (case K_are_prices => k_is)
    (case A_law_cell => k_is)
    (case L_law_cell => k_is)
    (case C_law_cell => k_is)
    (case K_law_cell => k_is)
    (case A_law_mix => k_is)
    (case L_law_mix => k_is)
    (case C_law_mix => k_is)
    (case K_law_mix => k_is)
    (case A_law_whole => k_is)
    (case L_law_whole => k_is)
    (case C_law_whole => k_is)
    (case K_law_whole => k_is)
    (case A_law_wholes => k_is)
    (case L_law_wholes => k_is)
    (case C_law_wholes => k_is)
    (case K_law_wholes => k_is)
    (case A_law_number => k_is)
    (case L_law_number => k_is)
    (case C_law_number => k_is)
    (case K_law_number => k_is)
    (case A_law_cheapest => k_is)
    (case L_law_cheapest => k_is)
    (case C_law_cheapest => k_is)
    (case K_law_cheapest => k_is)
    (case A_law_refused => k_is)
    (case L_law_refused => k_is)
    (case C_law_refused => k_is)
    (case K_law_refused => k_is)
    (case A_law_fair => k_is)
    (case L_law_fair => k_is)
    (case C_law_fair => k_is)
    (case K_law_fair => k_is)
    (case A_law => k_is)
    (case L_law => k_is)
    (case C_law => k_is)
    (case K_law => k_is)
    (case A_Giver_init => k_is)
    (case J_Giver_init => k_is)
    (case L_Giver_init => k_is)
    (case C_Giver_init => k_is)
    (case K_Giver_init => k_is)
    (case A_Giver_gap => k_is)
    (case J_Giver_gap => k_is)
    (case L_Giver_gap => k_is)
    (case C_Giver_gap => k_is)
    (case K_Giver_gap => k_is)
    (case A_Giver_least_open => k_is)
    (case J_Giver_least_open => k_is)
    (case L_Giver_least_open => k_is)
    (case C_Giver_least_open => k_is)
    (case K_Giver_least_open => k_is)
    (case A_Giver_raise_by => k_is)
    (case J_Giver_raise_by => k_is)
    (case L_Giver_raise_by => k_is)
    (case C_Giver_raise_by => k_is)
    (case K_Giver_raise_by => k_is)
    (case A_Giver_give => k_is)
    (case J_Giver_give => k_is)
    (case L_Giver_give => k_is)
    (case C_Giver_give => k_is)
    (case K_Giver_give => k_is)
    (case A_Giver_turn => k_is)
    (case J_Giver_turn => k_is)
    (case L_Giver_turn => k_is)
    (case C_Giver_turn => k_is)
    (case K_Giver_turn => k_is)
    (case pg_Giver => k_is)
    (case hd_Giver => k_is)
    (case po_Giver => k_is)
    (case sa_Giver => k_is)
    (case mk_Giver => k_is)
    (case kc_Giver => k_is)
    (case n_Giver_costs => k_is)
    (case n_Giver_wide => k_is)
    (case n_Giver_rows => k_is)
    (case n_Giver_columns => k_is)
    (case n_Giver_owner => k_is)
    (case B_BestError => k_is)
    (case K_BestError => k_is)
    (case X_BestError => k_exc)
    (case S_BestError => k_is)
    (case T_BestError => k_is)
    (case I_BestError => k_is)
    (case B_NoTable => k_is)
    (case K_NoTable => k_is)
    (case X_NoTable => k_exc)
    (case S_NoTable => k_is)
    (case T_NoTable => k_is)
    (case I_NoTable => k_is)
    (case e_NoTable_BestError => k_is)
    (case yga_NoTable => k_is)
    (case ygg_NoTable => k_is)
    (case yhh_NoTable => k_is)
    (case ycl_NoTable => k_is)
    (case ymo_NoTable => k_is)
    (case ysp_NoTable => k_is)
    (case ytk_NoTable => k_is)
    (case q_NoTable_ValueError => k_is)
    (case g_MOST_COLUMNS => k_is)
    (case z_ValueError => k_is)
    (case z_all => k_is)
    (case z_any => k_is)
    (case z_bool => k_is)
    (case z_int => k_is)
    (case z_isinstance => k_is)
    (case z_len => k_is)
    (case z_list => k_is)
    (case z_range => k_is)
    (case z_set => k_is)
    (case z_sum => k_is)
    (case z_tuple => k_is)
#print axioms PySem.Challenge.cw_surebest_k50_whole_given_holds
