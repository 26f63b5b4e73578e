import PyProof.Rows.All
import Wide.All
import OpenK.AllK
import Wide.FinOn
import HandS.ForMost
import HandS.ForExc
import HandS.Wide
import HandS.IsInst
import HandS.ExcIs
import HandS.Style
import HandS.Flow
import HandS.Zip
import HandS.SortInts
import HandS.SortRule
import HandS.SetFor
import HandS.Strs
import HandS.More
import HandS.Dict
import HandS.Exc
import HandS.ExcValue
import HandS.Conv
import HandS.WordsDict
import PySem.Challenge.RW_surebest_k11_no_networks
set_option Elab.async false
set_option linter.all false
set_option maxRecDepth 100000
set_option maxHeartbeats 4000000
/-! plain words -/
namespace SB
/-- the item at a place -/
def nth {α : Type} [Inhabited α] (xs : List α) (i : Int) : α := xs.getD i.toNat default
theorem nth_eq {α : Type} [Inhabited α] {xs : List α} {i : Int} {x : α} (h : xs[i.toNat]? = some x) : nth xs i = x := by
  unfold nth
  rw [List.getD_eq_getElem?_getD, h]
  rfl
theorem nth_get {α : Type} [Inhabited α] {xs : List α} {i : Int} (h0 : 0 ≤ i) (h : i < xs.length) : xs[i.toNat]? = some (nth xs i) := by
  have hl : i.toNat < xs.length := by omega
  unfold nth
  rw [List.getD_eq_getElem?_getD, List.getElem?_eq_getElem hl]
  rfl
theorem nth_nat {α : Type} [Inhabited α] {xs : List α} {i : Nat} {x : α} (h : xs[i]? = some x) : nth xs (i : Int) = x := nth_eq (by simpa using h)
theorem nth_mem {α : Type} [Inhabited α] {xs : List α} {i : Int} (h0 : 0 ≤ i) (h : i < xs.length) : nth xs i ∈ xs := List.mem_of_getElem? (nth_get h0 h)
theorem drop_at {α : Type} {xs : List α} {i : Nat} {x : α} (h : xs[i]? = some x) : xs.drop i = x :: xs.drop (i + 1) := by
  obtain ⟨h1, h2⟩ := List.getElem?_eq_some_iff.mp h
  rw [List.drop_eq_getElem_cons h1, h2]
end SB
/-! The layer of these proofs: a stable heap S, owned objects O, data Dp over S; one step lemma a reading. -/
namespace SB
open PySem PySem.Spec PyProof.Rows L2

/-! ### the stable heap and the owned objects -/
structure Wd (K : PySem.W.Frag) (S H : Hp) (O : List (Addr × HO)) : Prop where
  sub : Same S H
  own : ∀ p ∈ O, H p.1 = some p.2 ∧ S p.1 = none
  nd : (O.map (·.1)).Nodup
section
variable {K : PySem.W.Frag} {S S' H : Hp} {O : List (Addr × HO)} {p q : Addr} {o u : HO} {n : Nat}
theorem Wd.all (H : Hp) : Wd K H H [] := ⟨Same.refl H, fun _ h => absurd h (by simp), List.nodup_nil⟩
theorem Wd.frS (W : Wd K S H O) (h : H q = none) : S q = none := W.sub.free h
theorem Wd.frO (W : Wd K S H O) (h : H q = none) : q ∉ O.map (·.1) := fun hm => by
  obtain ⟨r, hr, e⟩ := List.mem_map.mp hm
  have := (W.own r hr).1
  rw [e, h] at this
  cases this
theorem Wd.at (W : Wd K S H O) (n : Nat) (h : O[n]? = some (p, o)) : H p = some o := (W.own _ (List.mem_of_getElem? h)).1
theorem Wd.atS (W : Wd K S H O) (n : Nat) (h : O[n]? = some (p, o)) : S p = none := (W.own _ (List.mem_of_getElem? h)).2
theorem same_new (h : S q = none) : Same S (upd S q o) := fun b u e => by rw [upd_ne (ne_of_none e h)]; exact e
/-- a new object that is ours to change -/
theorem Wd.alloc (W : Wd K S H O) (h : H q = none) : Wd K S (upd H q o) ((q, o) :: O) := by
  refine ⟨fun b u e => ?_, fun r hr => ?_, ?_⟩
  · rw [upd_ne (ne_of_none (W.sub b u e) h)]
    exact W.sub b u e
  · rcases List.mem_cons.mp hr with rfl | hr
    · exact ⟨upd_same, W.frS h⟩
    · exact ⟨by rw [upd_ne (ne_of_none (W.own r hr).1 h)]; exact (W.own r hr).1, (W.own r hr).2⟩
  · rw [List.map_cons]
    exact List.nodup_cons.mpr ⟨W.frO h, W.nd⟩
/-- a new object that stays -/
theorem Wd.new (W : Wd K S H O) (h : H q = none) : Wd K (upd S q o) (upd H q o) O := by
  refine ⟨fun b u e => ?_, fun r hr => ?_, W.nd⟩
  · by_cases hb : b = q
    · subst hb; rw [upd_same] at e ⊢; exact e
    · rw [upd_ne hb] at e ⊢
      exact W.sub b u e
  · have hne : r.1 ≠ q := ne_of_none (W.own r hr).1 h
    exact ⟨by rw [upd_ne hne]; exact (W.own r hr).1, by rw [upd_ne hne]; exact (W.own r hr).2⟩
theorem nodup_at : ∀ {O : List (Addr × HO)} {n m : Nat} {a b : Addr × HO}, (O.map (·.1)).Nodup → O[n]? = some a → O[m]? = some b → a.1 = b.1 → n = m := fun {O n m a b} nd h1 h2 e => by
  have g1 : (O.map (·.1))[n]? = some a.1 := by rw [List.getElem?_map, h1]; rfl
  have g2 : (O.map (·.1))[m]? = some a.1 := by rw [List.getElem?_map, h2, e]; rfl
  exact nd_ix nd g1 g2
/-- one of ours is written -/
theorem Wd.put (W : Wd K S H O) (n : Nat) (h : O[n]? = some (p, o)) : Wd K S (upd H p u) (O.set n (p, u)) := by
  have hn : n < O.length := (List.getElem?_eq_some_iff.mp h).1
  have hS := W.atS n h
  refine ⟨fun b x e => ?_, fun r hr => ?_, ?_⟩
  · rw [upd_ne (ne_of_none e hS)]
    exact W.sub b x e
  · obtain ⟨m, hm⟩ := List.getElem?_of_mem hr
    by_cases hmn : m = n
    · subst hmn
      rw [List.getElem?_set_self hn] at hm
      cases hm
      exact ⟨upd_same, hS⟩
    · rw [List.getElem?_set_ne (Ne.symm hmn)] at hm
      have hne : r.1 ≠ p := fun e => hmn (nodup_at W.nd hm h e)
      have := W.own r (List.mem_of_getElem? hm)
      exact ⟨by rw [upd_ne hne]; exact this.1, this.2⟩
  · have e : (O.set n (p, u)).map (·.1) = O.map (·.1) := by
      have g : (O.map (·.1))[n]? = some p := by rw [List.getElem?_map, h]; rfl
      apply List.ext_getElem?
      intro i
      rw [List.getElem?_map, List.getElem?_map, List.getElem?_set]
      by_cases hi : n = i
      · subst hi
        rw [if_pos rfl, if_pos hn, h]
        rfl
      · rw [if_neg hi]
    rw [e]
    exact W.nd
/-- one of ours is ours no longer: it stays as it is -/
theorem Wd.give (W : Wd K S H O) (n : Nat) (h : O[n]? = some (p, o)) : Wd K (upd S p o) H (O.eraseIdx n) := by
  have hnd : ((O.eraseIdx n).map (·.1)).Nodup := W.nd.sublist ((List.eraseIdx_sublist O n).map _)
  refine ⟨fun b x e => ?_, fun r hr => ?_, hnd⟩
  · by_cases hb : b = p
    · subst hb; rw [upd_same] at e; cases e; exact W.at n h
    · rw [upd_ne hb] at e
      exact W.sub b x e
  · have hr' : r ∈ O := (List.eraseIdx_sublist O n).subset hr
    have hne : r.1 ≠ p := by
      intro e
      obtain ⟨i, hi⟩ := List.getElem?_of_mem hr
      rw [List.getElem?_eraseIdx] at hi
      split at hi
      · have := nodup_at W.nd hi h e
        omega
      · have := nodup_at W.nd hi h e
        omega
    exact ⟨by have := (W.own r hr').1; exact this, by rw [upd_ne hne]; exact (W.own r hr').2⟩
/-- a stable heap that grew -/
theorem Wd.lst (W : Wd K S H O) {xs : List V} (h : SqL K S p xs) : SqL K H p xs := W.sub.seq h
theorem same_rd {H H' : Hp} {a : Addr} {u : HO} (e : Same H H') (h : Rd H a u) : Rd H' a u := by
  rcases h with h | ⟨o, h⟩
  · exact .inl (e _ _ h)
  · exact .inr ⟨o, e _ _ h⟩
theorem same_t {K : PySem.W.Frag} {H H' : Hp} {a : Addr} {xs : List V} (e : Same H H') (h : SqT K H a xs) : SqT K H' a xs := by
  rcases h with h | h
  · exact .inl (same_rd e h)
  · exact .inr h
theorem Wd.tup (W : Wd K S H O) {xs : List V} (h : SqT K S p xs) : SqT K H p xs := same_t W.sub h
end

/-! ### data -/
section
variable {K : PySem.W.Frag} {S S' H : Hp} {O : List (Addr × HO)}
mutual
theorem dp_mono (hs : Same S S') : ∀ {v : V} {d : PyData}, Dp K S v d → Dp K S' v d
  | _, _, .non => .non
  | _, _, .bl b => .bl b
  | _, _, .int i => .int i
  | _, _, .str x => .str x
  | _, _, .lst h a => .lst (hs.seq h) (dpAll_mono hs a)
  | _, _, .tup h a => .tup (same_t hs h) (dpAll_mono hs a)
theorem dpAll_mono (hs : Same S S') : ∀ {vs : List V} {ds : List PyData}, DpAll K S vs ds → DpAll K S' vs ds
  | _, _, .nil => .nil
  | _, _, .cons h a => .cons (dp_mono hs h) (dpAll_mono hs a)
end
theorem dpAll_len : ∀ {vs : List V} {ds : List PyData}, DpAll K S vs ds → vs.length = ds.length
  | _, _, .nil => rfl
  | _, _, .cons _ a => by rw [List.length_cons, List.length_cons, dpAll_len a]
theorem dpAll_get : ∀ {vs : List V} {ds : List PyData} {i : Nat} {d : PyData}, DpAll K S vs ds → ds[i]? = some d → ∃ v, vs[i]? = some v ∧ Dp K S v d
  | _, _, _, _, .nil, h => by simp at h
  | _, _, 0, _, .cons h a, e => by
    rw [List.getElem?_cons_zero] at e
    cases e
    exact ⟨_, rfl, h⟩
  | _, _, i + 1, _, .cons h a, e => by
    rw [List.getElem?_cons_succ] at e
    obtain ⟨v, h1, h2⟩ := dpAll_get a e
    exact ⟨v, by rw [List.getElem?_cons_succ]; exact h1, h2⟩
theorem dpAll_get' : ∀ {vs : List V} {ds : List PyData} {i : Nat} {v : V}, DpAll K S vs ds → vs[i]? = some v → ∃ d, ds[i]? = some d ∧ Dp K S v d
  | _, _, _, _, .nil, h => by simp at h
  | _, _, 0, _, .cons h a, e => by
    rw [List.getElem?_cons_zero] at e
    cases e
    exact ⟨_, rfl, h⟩
  | _, _, i + 1, _, .cons h a, e => by
    rw [List.getElem?_cons_succ] at e
    obtain ⟨d, h1, h2⟩ := dpAll_get' a e
    exact ⟨d, by rw [List.getElem?_cons_succ]; exact h1, h2⟩
theorem dpAll_app : ∀ {vs : List V} {ds : List PyData} {v : V} {d : PyData}, DpAll K S vs ds → Dp K S v d → DpAll K S (vs ++ [v]) (ds ++ [d])
  | _, _, _, _, .nil, h => .cons h .nil
  | _, _, _, _, .cons h a, h' => .cons h (dpAll_app a h')
theorem dpAll_cat : ∀ {vs ws : List V} {ds es : List PyData}, DpAll K S vs ds → DpAll K S ws es → DpAll K S (vs ++ ws) (ds ++ es)
  | _, _, _, _, .nil, h => h
  | _, _, _, _, .cons h a, h' => .cons h (dpAll_cat a h')
theorem dpAll_set : ∀ {vs : List V} {ds : List PyData} {v : V} {d : PyData} (i : Nat), DpAll K S vs ds → Dp K S v d → DpAll K S (vs.set i v) (ds.set i d)
  | _, _, _, _, _, .nil, h => .nil
  | _, _, _, _, 0, .cons h a, h' => .cons h' a
  | _, _, _, _, i + 1, .cons h a, h' => .cons h (dpAll_set i a h')
theorem dpAll_take : ∀ {vs : List V} {ds : List PyData} (n : Nat), DpAll K S vs ds → DpAll K S (vs.take n) (ds.take n)
  | _, _, 0, _ => .nil
  | _, _, _ + 1, .nil => .nil
  | _, _, n + 1, .cons h a => .cons h (dpAll_take n a)
theorem dpAll_drop : ∀ {vs : List V} {ds : List PyData} (n : Nat), DpAll K S vs ds → DpAll K S (vs.drop n) (ds.drop n)
  | _, _, 0, h => h
  | _, _, _ + 1, .nil => .nil
  | _, _, n + 1, .cons h a => dpAll_drop n a
theorem dpAll_ints : ∀ ns : List Int, DpAll K S (ns.map V.int) (ns.map PyData.int)
  | [] => .nil
  | n :: ns => .cons (.int n) (dpAll_ints ns)
theorem dpAll_bools : ∀ bs : List Bool, DpAll K S (bs.map V.bl) (bs.map PyData.bool)
  | [] => .nil
  | n :: ns => .cons (.bl n) (dpAll_bools ns)
theorem ints_of : ∀ {vs : List V} {ns : List Int}, DpAll K S vs (ns.map PyData.int) → vs = ns.map V.int
  | _, [], .nil => rfl
  | _, n :: ns, .cons (.int _) a => by rw [ints_of a]; rfl
theorem bools_of : ∀ {vs : List V} {ns : List Bool}, DpAll K S vs (ns.map PyData.bool) → vs = ns.map V.bl
  | _, [], .nil => rfl
  | _, n :: ns, .cons (.bl _) a => by rw [bools_of a]; rfl
theorem dp_int_eq {v : V} {i : Int} : Dp K S v (.int i) → v = .int i
  | .int _ => rfl
theorem dp_bl_eq {v : V} {i : Bool} : Dp K S v (.bool i) → v = .bl i
  | .bl _ => rfl
theorem dp_non_eq {v : V} : Dp K S v .none → v = .non
  | .non => rfl
theorem dp_str_eq {v : V} {i : Str} : Dp K S v (.str i) → v = .str i
  | .str _ => rfl
theorem dp_lst_ex {v : V} {ds : List PyData} : Dp K S v (.list ds) → ∃ a vs, v = .ref a ∧ SqL K S a vs ∧ DpAll K S vs ds
  | .lst h a => ⟨_, _, rfl, h, a⟩
theorem dp_tup_ex {v : V} {ds : List PyData} : Dp K S v (.tuple ds) → ∃ a vs, v = .ref a ∧ SqT K S a vs ∧ DpAll K S vs ds
  | .tup h a => ⟨_, _, rfl, h, a⟩
/-- a list that is given away -/
theorem dp_give {p : Addr} {vs : List V} {ds : List PyData} (h : S p = none) (a : DpAll K S vs ds) : Dp K (upd S p (.lst vs)) (.ref p) (.list ds) :=
  .lst (.inl (.inl upd_same)) (dpAll_mono (same_new h) a)
/-- what comes, by its datum: a flat value is written out -/
def Kn (K : PySem.W.Frag) (S : Hp) (d : PyData) (P : V → Prop) : Prop :=
  match d with
  | .none => P .non
  | .bool b => P (.bl b)
  | .int i => P (.int i)
  | .str x => P (.str x)
  | d => ∀ u, Dp K S u d → P u
theorem Kn.of {d : PyData} {P : V → Prop} (h : Kn K S d P) : ∀ u, Dp K S u d → P u := fun u hu => by
  cases hu with
  | non => exact h
  | bl b => exact h
  | int i => exact h
  | str x => exact h
  | lst h1 h2 => exact h _ (.lst h1 h2)
  | tup h1 h2 => exact h _ (.tup h1 h2)
theorem kn_int {i : Int} {P : V → Prop} (h : P (.int i)) : Kn K S (.int i) P := h
theorem kn_bl {i : Bool} {P : V → Prop} (h : P (.bl i)) : Kn K S (.bool i) P := h
theorem kn_str {i : Str} {P : V → Prop} (h : P (.str i)) : Kn K S (.str i) P := h
theorem kn_non {P : V → Prop} (h : P .non) : Kn K S .none P := h
theorem kn_tup {ds : List PyData} {P : V → Prop} (h : ∀ u, Dp K S u (.tuple ds) → P u) : Kn K S (.tuple ds) P := h
theorem kn_lst {ds : List PyData} {P : V → Prop} (h : ∀ u, Dp K S u (.list ds) → P u) : Kn K S (.list ds) P := h
theorem kn_any {d : PyData} {P : V → Prop} (h : ∀ u, Dp K S u d → P u) : Kn K S d P := by
  cases d with
  | none => exact h _ .non
  | bool b => exact h _ (.bl b)
  | int i => exact h _ (.int i)
  | str x => exact h _ (.str x)
  | list ds => exact h
  | tuple ds => exact h
  | dict _ => exact h
end
end SB
/-! Step lemmas: a reading's head, what it asks. -/
namespace SB
open PySem PySem.Spec PyProof.Rows L2
/-! ### readings by names (a name keeps what follows in one piece) -/
def NewT (Q : VK) (xs : List V) (H : Hp) : Prop := xs.length ≤ sizeLine ∧ ∀ p, H p = none → Q (.ref p) (upd H p (.tup xs))
def NewL (Q : VK) (xs : List V) (H : Hp) : Prop := xs.length ≤ sizeLine ∧ ∀ p, H p = none → Q (.ref p) (upd H p (.lst xs))
def rLen (K : PySem.W.Frag) : List V → Hp → VK → Prop := fun xs H Q => ∃ p ys, xs = [.ref p] ∧ (SqL K H p ys ∨ SqT K H p ys) ∧ Q (.int (ys.length : Int)) H
def rAbs : List V → Hp → VK → Prop := fun xs H Q => ∃ i, xs = [.int i] ∧ Q (.int (if i < 0 then -i else i)) H
def rMx2 : List V → Hp → VK → Prop := fun xs H Q => ∃ i j, xs = [.int i, .int j] ∧ Q (.int (if j > i then j else i)) H
def rInt1 : List V → Hp → VK → Prop := fun xs H Q => (∃ i, xs = [.int i] ∧ Q (.int i) H) ∨ ∃ k, xs = [.bl k] ∧ Q (.int (if k then 1 else 0)) H
def rLst (K : PySem.W.Frag) : List V → Hp → VK → Prop := fun xs H Q => ∃ p ys, xs = [.ref p] ∧ (SqL K H p ys ∨ SqT K H p ys) ∧ ∀ l, H l = none → Q (.ref l) (upd H l (.lst ys))
def rNon : R2 := fun x y H Q => y = .non ∧ Q (.bl (decide (x = .non))) H
def rNotNon : R2 := fun x y H Q => y = .non ∧ Q (.bl (!decide (x = .non))) H
section
variable {X : Cx}
theorem cl_len : CallR X (.builtin "len") (rLen X.K) := call_len_seq
theorem cl_abs : CallR X (.builtin "abs") rAbs := call_abs
theorem cl_max2 (hc : X.calm = true) : CallR X (.builtin "max") rMx2 := call_max2 hc
theorem cl_int1 : CallR X (.type "int") rInt1 := call_int1
theorem cl_list : CallR X (.type "list") (rLst X.K) := call_list_of
theorem ol_isN : OpR X (compareOp .Is) rNon := op_isN
theorem ol_notN : OpR X (compareOp .IsNot) rNotNon := op_notN
end
/-- a list's method -/
def BmR (K : PySem.W.Frag) (T : String) (P : V → Hp → Prop) (x : V) (H : Hp) : Prop := tyV K T x H ∧ P x H
/-- truth -/
def TruQ (K : PySem.W.Frag) (Q : Bool → Hp → Prop) (x : V) (H : Hp) : Prop := ∃ k, TruV K x H k ∧ Q k H
def tTr (K : PySem.W.Frag) (ta : TE) : TT := fun σ H Q => ta σ H fun x H' => TruQ K Q x H'
theorem pl_truth {X : Cx} {a : Expr} {ta : TE} (ha : PE X a ta) (he : ∀ whole, isTrue a X.env whole = (do let v ← whole; standAt a.pos; holding [v] (truthy v))) : PT X a (tTr X.K ta) := pt_truth ha he
/-- a field read, stored; a method found -/
def FldR (K : PySem.W.Frag) (f : Str) (Q : VK) (x : V) (H : Hp) : Prop := ∃ a C dx fs v, x = .ref a ∧ H a = some (.ins C dx fs) ∧ Cls K C ∧ NoAttr K C f ∧ fs.lookup f = some v ∧ Q v H
def FldS (K : PySem.W.Frag) (f : Str) (y : V) (N : Hp → Prop) (x : V) (H : Hp) : Prop := ∃ a C dx fs, x = .ref a ∧ H a = some (.ins C dx fs) ∧ Cls K C ∧ NoAttr K C f ∧ fs.length < 1000 ∧ N (upd H a (.ins C dx (putF f y fs)))
def MthR (C : Addr) (m : Str) (P : V → Hp → Prop) (x : V) (H : Hp) : Prop := ∃ a dx fs, x = .ref a ∧ H a = some (.ins C dx fs) ∧ fs.lookup m = none ∧ P x H
section
variable {K : PySem.W.Frag} {S H : Hp} {O : List (Addr × HO)} {σ : L2.St} {Q : VK} {ta tb tc te : TE} {t u : TS} {x y v : V}
  {nx bk ct : L2.St → Hp → Prop} {rt : VK} {D : Ends} {i : Nat} {QA : List V → Hp → Prop} {QT : Bool → Hp → Prop} {a b : Int} {r r' : R2} {tt tu : TT}

/-! ### statements -/
theorem x_seq (h : t ⟨u ⟨nx, rt, bk, ct⟩, rt, bk, ct⟩ σ H) : tSeq t u ⟨nx, rt, bk, ct⟩ σ H := h
theorem x_next (h : nx σ H) : tNext ⟨nx, rt, bk, ct⟩ σ H := h
theorem x_brk (h : bk σ H) : tBreak ⟨nx, rt, bk, ct⟩ σ H := h
theorem x_asg {g : TG} (h : te σ H fun x H1 => g x σ H1 nx) : tAsg te g ⟨nx, rt, bk, ct⟩ σ H := h
theorem x_gname {Q : L2.St → Hp → Prop} (h : Q (σ.set i (some v)) H) : gName i v σ H Q := h
theorem x_gsub {to ti : TE} {t : TSet} {Q : L2.St → Hp → Prop} (h : to σ H fun o H1 => ti σ H1 fun i H2 => t o i v H2 fun H3 => Q σ H3) : gSub to ti t v σ H Q := h
theorem x_drop (h : te σ H fun _ H1 => nx σ H1) : tDrop te ⟨nx, rt, bk, ct⟩ σ H := h
theorem x_ret (h : te σ H rt) : tRet te ⟨nx, rt, bk, ct⟩ σ H := h
theorem x_retN (h : rt .non H) : tRetN ⟨nx, rt, bk, ct⟩ σ H := h
theorem x_if (h : tt σ H fun b H1 => if b = true then t D σ H1 else u D σ H1) : tIfS tt t u D σ H := h
theorem x_fld {f : Str} (h : te σ H fun y H1 => ta σ H1 fun x H2 => FldS K f y (nx σ) x H2) : sFld K ta te f ⟨nx, rt, bk, ct⟩ σ H := h
theorem x_fldr {f : Str} (h : ta σ H fun x H1 => FldR K f Q x H1) : tFld K ta f σ H Q := h
theorem x_gtup {n : Nat} {gs : TGs} {Q : L2.St → Hp → Prop} (h : ∃ a xs, v = .ref a ∧ SqT K H a xs ∧ xs.length = n ∧ gs xs σ H Q) : gTup K n gs v σ H Q := h
theorem x_gcons {g : TG} {gs : TGs} {vs : List V} {Q : L2.St → Hp → Prop} (h : g v σ H fun σ' H' => gs vs σ' H' Q) : gCons g gs (v :: vs) σ H Q := ⟨v, vs, rfl, h⟩
theorem x_gnil {Q : L2.St → Hp → Prop} (h : Q σ H) : gNil [] σ H Q := ⟨rfl, h⟩

/-! ### branches -/
theorem x_iteT {A B : Prop} (h : A) : if true = true then A else B := by rw [if_pos rfl]; exact h
theorem x_iteF {A B : Prop} (h : B) : if false = true then A else B := by rw [if_neg Bool.false_ne_true]; exact h
theorem x_ite {c : Bool} {A B : Prop} (h1 : c = true → A) (h2 : c = false → B) : if c = true then A else B := by
  cases c
  · rw [if_neg Bool.false_ne_true]; exact h2 rfl
  · rw [if_pos rfl]; exact h1 rfl
theorem x_iteD {p : Prop} [Decidable p] {A B : Prop} (h1 : p → A) (h2 : ¬ p → B) : if decide p = true then A else B :=
  x_ite (fun h => h1 (of_decide_eq_true h)) (fun h => h2 (of_decide_eq_false h))
theorem x_iteN {c : Bool} {A B : Prop} (h1 : c = false → A) (h2 : c = true → B) : if (!c) = true then A else B := by
  cases c
  · exact x_iteT (h1 rfl)
  · exact x_iteF (h2 rfl)
theorem x_iteND {p : Prop} [Decidable p] {A B : Prop} (h1 : ¬ p → A) (h2 : p → B) : if (!decide p) = true then A else B :=
  x_iteN (fun h => h1 (of_decide_eq_false h)) (fun h => h2 (of_decide_eq_true h))
theorem x_no {c : Bool} {A B : Prop} (e : c = false) (h : B) : if c = true then A else B := by rw [e]; exact x_iteF h
theorem x_sure {c : Bool} {A B : Prop} (e : c = true) (h : A) : if c = true then A else B := by rw [e]; exact x_iteT h
theorem x_nT {A B : Prop} (h : B) : if (!true) = true then A else B := x_no rfl h
theorem x_nF {A B : Prop} (h : A) : if (!false) = true then A else B := x_sure rfl h
theorem x_iteTo {c d : Bool} {A B : Prop} (e : c = d) (h : if d = true then A else B) : if c = true then A else B := e ▸ h

/-! ### values -/
theorem x_var (h : σ[i]? = some (some v)) (q : Q v H) : tVar i σ H Q := ⟨v, h, q⟩
theorem x_c (q : Q v H) : tC v σ H Q := q
theorem x_op (h : ta σ H fun x H1 => tb σ H1 fun y H2 => r x y H2 Q) : tOp r ta tb σ H Q := h
theorem x_un {r : V → Hp → VK → Prop} (h : ta σ H fun x H1 => r x H1 Q) : tUn r ta σ H Q := h
theorem x_I0 {g : Int → Int → V} (q : Q (g a b) H) : rI0 g (.int a) (.int b) H Q := ⟨a, b, rfl, rfl, q⟩
theorem x_I {C : Int → Int → Prop} {g : Int → Int → V} (hc : C a b) (q : Q (g a b) H) : rI C g (.int a) (.int b) H Q := ⟨a, b, rfl, rfl, hc, q⟩
theorem x_U {g : Int → V} (q : Q (g a) H) : rU g (.int a) H Q := ⟨a, rfl, q⟩
theorem x_test (h : te σ H fun x H' => ∃ k, x = .bl k ∧ QT k H') : tTest te σ H QT := h
theorem x_tB (h : te σ H fun x H' => ∃ k, x = .bl k ∧ QT k H') : tB te σ H QT := h
theorem x_k {c : Bool} (h : QT c H) : ∃ k, V.bl c = .bl k ∧ QT k H := ⟨c, rfl, h⟩
theorem x_kx {c : Bool} {P : Bool → Prop} (h : P c) : ∃ k, V.bl c = .bl k ∧ P k := ⟨c, rfl, h⟩
theorem x_chain (h : ta σ H fun x H1 => tb σ H1 fun y H2 => r x y H2 fun z H3 => ∃ k, z = .bl k ∧ (if k = true then tc σ H3 fun w' H4 => r' y w' H4 Q else Q (.bl false) H3)) : tChain r r' ta tb tc σ H Q := h
theorem x_and (h : tt σ H fun c H1 => if c = true then tu σ H1 QT else QT false H1) : tAnd tt tu σ H QT := h
theorem x_or (h : tt σ H fun c H1 => if c = true then QT true H1 else tu σ H1 QT) : tOr tt tu σ H QT := h
theorem x_not (h : tt σ H fun c H1 => QT (!c) H1) : tNot tt σ H QT := h
theorem x_andV (h : ta σ H fun x H1 => ∃ c, x = .bl c ∧ if c = true then tb σ H1 Q else Q (.bl false) H1) : tAndV ta tb σ H Q := h
theorem x_orV (h : ta σ H fun x H1 => ∃ c, x = .bl c ∧ if c = true then Q (.bl true) H1 else tb σ H1 Q) : tOrV ta tb σ H Q := h
theorem x_notV (h : ta σ H fun x H1 => ∃ c, x = .bl c ∧ Q (.bl (!c)) H1) : tNotV ta σ H Q := h
theorem x_ifE (h : tt σ H fun c H1 => if c = true then ta σ H1 Q else tb σ H1 Q) : tIf tt ta tb σ H Q := h
theorem x_isN (q : Q (.bl (decide (x = .non))) H) : rNon x .non H Q := ⟨rfl, q⟩
theorem x_notN (q : Q (.bl (!decide (x = .non))) H) : rNotNon x .non H Q := ⟨rfl, q⟩
theorem x_eqI (q : Q (.bl (decide (a = b))) H) : rEq (.int a) (.int b) H Q := ⟨rfl, by rw [dec_int, Bool.beq_eq_decide_eq]; exact q⟩
theorem x_neI (q : Q (.bl (!decide (a = b))) H) : rNe (.int a) (.int b) H Q := ⟨rfl, by rw [dec_int, Bool.beq_eq_decide_eq]; exact q⟩
theorem x_eqB {a b : Bool} (q : Q (.bl (decide (a = b))) H) : rEq (.bl a) (.bl b) H Q := ⟨rfl, by rw [dec_bl, Bool.beq_eq_decide_eq]; exact q⟩
theorem x_neB {a b : Bool} (q : Q (.bl (!decide (a = b))) H) : rNe (.bl a) (.bl b) H Q := ⟨rfl, by rw [dec_bl, Bool.beq_eq_decide_eq]; exact q⟩
theorem x_eqV {c : Bool} (h : scal x y = true) (e : decide (x = y) = c) (q : Q (.bl c) H) : rEq x y H Q := ⟨h, by rw [e]; exact q⟩
theorem x_neV {c : Bool} (h : scal x y = true) (e : decide (x = y) = c) (q : Q (.bl (!c)) H) : rNe x y H Q := ⟨h, by rw [e]; exact q⟩

/-! ### calls -/
theorem x_nil (q : QA [] H) : tNil σ H QA := q
theorem x_cons {tr : TA} (h : te σ H fun x H1 => tr σ H1 fun xs H2 => QA (x :: xs) H2) : tCons te tr σ H QA := h
theorem x_call {sp : Sp} {dvs : List V} {E : XK} {t : TA} (h : t σ H fun vs H1 => sp (vs ++ dvs) H1 Q E) : tCall sp dvs E t σ H Q := h
theorem x_call0 {sp : Sp} {E : XK} {t : TA} (h : t σ H fun vs H1 => sp vs H1 Q E) : tCall sp [] E t σ H Q := by
  have e : (fun (vs : List V) (H1 : Hp) => sp (vs ++ []) H1 Q E) = fun vs H1 => sp vs H1 Q E := by funext vs H1; rw [List.append_nil]
  show t σ H fun vs H1 => sp (vs ++ []) H1 Q E
  rw [e]
  exact h
theorem x_callS {sp : Sp} {E : L2.St → XK} {t : TA} (h : t σ H fun vs H1 => sp vs H1 Q (E σ)) : tCallS sp E t σ H Q := h
theorem x_cb {r : List V → Hp → VK → Prop} {t : TA} (h : t σ H fun vs H1 => r vs H1 Q) : tCB r t σ H Q := h
theorem x_ttup {t : TA} (h : t σ H fun xs H1 => NewT Q xs H1) : tTup t σ H Q := h
theorem x_tlst {t : TA} (h : t σ H fun xs H1 => NewL Q xs H1) : tLst t σ H Q := h
theorem x_meth {C : Addr} {m : Str} {sp : Sp} {E : XK} {t : TA} (h : ta σ H fun x H1 => MthR C m (fun x H2 => t σ H2 fun vs H3 => sp (x :: vs) H3 Q E) x H1) : tMeth C m sp [] E ta t σ H Q := by
  have e : (fun (x : V) (H1 : Hp) => MthR C m (fun x H2 => t σ H2 fun vs H3 => sp (x :: vs) H3 Q E) x H1) = fun x H1 => ∃ a dx fs, x = .ref a ∧ H1 a = some (.ins C dx fs) ∧ fs.lookup m = none ∧ t σ H1 fun vs H2 => sp (x :: (vs ++ [])) H2 Q E := by
    funext x H1
    unfold MthR
    simp only [List.append_nil]
  show ta σ H _
  rw [← e]
  exact h

/-! ### new tuples and lists -/
theorem sz {n : Nat} (h : n ≤ 1000000) : n ≤ sizeLine := Nat.le_trans h (by decide)
theorem szl {n : Nat} (h : n ≤ 1000000) : n < sizeLine := Nat.lt_of_le_of_lt h (by decide)
/-- a new tuple that stays -/
theorem x_tup {vs : List V} {ds : List PyData} (W : Wd K S H O) (hd : DpAll K S vs ds) (hl : vs.length ≤ 1000000) (k : ∀ S' H' v, Wd K S' H' O → Same S S' → Dp K S' v (.tuple ds) → Q v H') : NewT Q vs H :=
  ⟨sz hl, fun p hp => k _ _ _ (W.new hp) (same_new (W.frS hp)) (.tup (.inl (.inl upd_same)) (dpAll_mono (same_new (W.frS hp)) hd))⟩
theorem x_tup' {vs : List V} {ds : List PyData} (W : Wd K S H O) (hd : DpAll K S vs ds) (k : ∀ S' H' v, Wd K S' H' O → Same S S' → Dp K S' v (.tuple ds) → Q v H') :
    ∀ p, H p = none → Q (.ref p) (upd H p (.tup vs)) :=
  fun p hp => k _ _ _ (W.new hp) (same_new (W.frS hp)) (.tup (.inl (.inl upd_same)) (dpAll_mono (same_new (W.frS hp)) hd))
/-- a new list that stays -/
theorem x_lst {vs : List V} {ds : List PyData} (W : Wd K S H O) (hd : DpAll K S vs ds) (hl : vs.length ≤ 1000000) (k : ∀ S' H' v, Wd K S' H' O → Same S S' → Dp K S' v (.list ds) → Q v H') : NewL Q vs H :=
  ⟨sz hl, fun p hp => k _ _ _ (W.new hp) (same_new (W.frS hp)) (.lst (.inl (.inl upd_same)) (dpAll_mono (same_new (W.frS hp)) hd))⟩
theorem x_lst' {vs : List V} {ds : List PyData} (W : Wd K S H O) (hd : DpAll K S vs ds) (k : ∀ S' H' v, Wd K S' H' O → Same S S' → Dp K S' v (.list ds) → Q v H') :
    ∀ p, H p = none → Q (.ref p) (upd H p (.lst vs)) :=
  fun p hp => k _ _ _ (W.new hp) (same_new (W.frS hp)) (.lst (.inl (.inl upd_same)) (dpAll_mono (same_new (W.frS hp)) hd))
/-- a new list that is ours -/
theorem x_own {vs : List V} (W : Wd K S H O) (hl : vs.length ≤ 1000000) (k : ∀ p H', Wd K S H' ((p, .lst vs) :: O) → Q (.ref p) H') : NewL Q vs H := ⟨sz hl, fun p hp => k p _ (W.alloc hp)⟩
theorem x_own' {vs : List V} {o : HO} (W : Wd K S H O) (k : ∀ p H', Wd K S H' ((p, o) :: O) → Q (.ref p) H') :
    ∀ p, H p = none → Q (.ref p) (upd H p o) := fun p hp => k p _ (W.alloc hp)

/-! ### items -/
theorem atI_of {α : Type} {xs : List α} {i : Int} {x : α} (h0 : 0 ≤ i) (h : xs[i.toNat]? = some x) : atI xs i = some x := by
  have e : i = ((i.toNat : Nat) : Int) := by omega
  rw [e]
  exact atI_nat h
theorem atI_map {α β : Type} [Inhabited α] {xs : List α} {f : α → β} {i : Int} (h0 : 0 ≤ i) (h : i < xs.length) : atI (xs.map f) i = some (f (nth xs i)) := by
  refine atI_of h0 ?_
  rw [List.getElem?_map, nth_get h0 h]
  rfl
theorem atI_nth {α : Type} [Inhabited α] {xs : List α} {i : Int} (h0 : 0 ≤ i) (h : i < xs.length) : atI xs i = some (nth xs i) := atI_of h0 (nth_get h0 h)
theorem ixN_of {n : Nat} {i : Int} (h0 : 0 ≤ i) (h : i < n) : ixN n i = some i.toNat := by
  unfold ixN
  rw [if_pos h0, if_pos h]
theorem dp_at {vs : List V} {ds : List PyData} {i : Int} {d : PyData} (h : DpAll K S vs ds) (hi : atI ds i = some d) : ∃ u, atI vs i = some u ∧ Dp K S u d := by
  unfold atI at hi ⊢
  rw [dpAll_len h]
  cases e : ixN ds.length i with
  | none => rw [e] at hi; cases hi
  | some j =>
    rw [e] at hi
    exact dpAll_get h hi
theorem x_ixT {ds : List PyData} {i : Int} {d : PyData} (W : Wd K S H O) (h : Dp K S x (.tuple ds)) (hi : atI ds i = some d) (k : Kn K S d fun u => Q u H) : rIx K x (.int i) H Q := by
  obtain ⟨a, vs, rfl, hq, ha⟩ := dp_tup_ex h
  obtain ⟨u, hu, hd⟩ := dp_at ha hi
  exact .inr (.inl ⟨a, vs, i, u, rfl, rfl, W.tup hq, hu, k.of u hd⟩)
theorem x_ixL {ds : List PyData} {i : Int} {d : PyData} (W : Wd K S H O) (h : Dp K S x (.list ds)) (hi : atI ds i = some d) (k : Kn K S d fun u => Q u H) : rIx K x (.int i) H Q := by
  obtain ⟨a, vs, rfl, hq, ha⟩ := dp_lst_ex h
  obtain ⟨u, hu, hd⟩ := dp_at ha hi
  exact .inl ⟨a, vs, i, u, rfl, rfl, W.lst hq, hu, k.of u hd⟩
/-- of one of ours -/
theorem x_ixO {p : Addr} {vs : List V} {i : Int} {u : V} (n : Nat) (W : Wd K S H O) (h : O[n]? = some (p, .lst vs)) (hi : atI vs i = some u) (k : Q u H) : rIx K (.ref p) (.int i) H Q :=
  .inl ⟨p, vs, i, u, rfl, rfl, .of (W.at n h), hi, k⟩
theorem x_setO {p : Addr} {vs : List V} {i : Int} {j : Nat} {Q : Hp → Prop} (n : Nat) (W : Wd K S H O) (h : O[n]? = some (p, .lst vs)) (hi : ixN vs.length i = some j)
    (k : ∀ H', Wd K S H' (O.set n (p, .lst (vs.set j v))) → Q H') : rSetL (.ref p) (.int i) v H Q :=
  ⟨p, vs, i, j, rfl, rfl, W.at n h, hi, k _ (W.put n h)⟩
theorem tyV_own {p : Addr} {vs : List V} (n : Nat) (W : Wd K S H O) (h : O[n]? = some (p, .lst vs)) : tyV K "list" (.ref p) H := .inl ⟨rfl, vs, .of (W.at n h)⟩
theorem tyV_dp {ds : List PyData} (W : Wd K S H O) (h : Dp K S x (.list ds)) : tyV K "list" x H := by
  obtain ⟨a, vs, rfl, hq, ha⟩ := dp_lst_ex h
  exact .inl ⟨rfl, vs, W.lst hq⟩
theorem x_bm {T : String} {r : V → List V → Hp → VK → Prop} {t : TA} (h : ta σ H fun x H1 => BmR K T (fun x H1 => t σ H1 fun xs H2 => r x xs H2 Q) x H1) : tBM K T r ta t σ H Q := h
theorem x_bm0 {T : String} {r : V → List V → Hp → VK → Prop} (h : ta σ H fun x H1 => BmR K T (fun x H1 => r x [] H1 Q) x H1) : tBM0 K T r ta σ H Q := h
theorem x_bmo {P : V → Hp → Prop} {p : Addr} {vs : List V} (n : Nat) (W : Wd K S H O) (h : O[n]? = some (p, .lst vs)) (k : P (.ref p) H) : BmR K "list" P (.ref p) H := ⟨tyV_own n W h, k⟩
theorem x_bmd {P : V → Hp → Prop} {ds : List PyData} (W : Wd K S H O) (h : Dp K S x (.list ds)) (k : P x H) : BmR K "list" P x H := ⟨tyV_dp W h, k⟩
theorem x_app {p : Addr} {vs : List V} (n : Nat) (W : Wd K S H O) (h : O[n]? = some (p, .lst vs)) (hl : vs.length ≤ 1000000) (k : ∀ H', Wd K S H' (O.set n (p, .lst (vs ++ [v]))) → Q .non H') :
    rAppend (.ref p) [v] H Q := ⟨p, vs, v, rfl, rfl, W.at n h, szl hl, k _ (W.put n h)⟩
theorem x_pop {p : Addr} {vs : List V} (n : Nat) (W : Wd K S H O) (h : O[n]? = some (p, .lst vs)) (hu : vs[vs.length - 1]? = some v) (k : ∀ H', Wd K S H' (O.set n (p, .lst vs.dropLast)) → Q v H') :
    rPop (.ref p) [] H Q := ⟨p, vs, v, rfl, rfl, W.at n h, hu, k _ (W.put n h)⟩

/-! ### built-ins -/
theorem x_len {ds : List PyData} (W : Wd K S H O) (h : Dp K S x (.list ds)) (q : Q (.int ds.length) H) : rLen K [x] H Q := by
  obtain ⟨a, vs, rfl, hq, ha⟩ := dp_lst_ex h
  exact ⟨a, vs, rfl, .inl (W.lst hq), by rw [dpAll_len ha]; exact q⟩
theorem x_lenT {ds : List PyData} (W : Wd K S H O) (h : Dp K S x (.tuple ds)) (q : Q (.int ds.length) H) : rLen K [x] H Q := by
  obtain ⟨a, vs, rfl, hq, ha⟩ := dp_tup_ex h
  exact ⟨a, vs, rfl, .inr (W.tup hq), by rw [dpAll_len ha]; exact q⟩
theorem x_lenO {p : Addr} {vs : List V} (n : Nat) (W : Wd K S H O) (h : O[n]? = some (p, .lst vs)) (q : Q (.int vs.length) H) : rLen K [.ref p] H Q := ⟨p, vs, rfl, .inl (.of (W.at n h)), q⟩
theorem x_sum {ns : List Int} (W : Wd K S H O) (h : Dp K S x (.list (ns.map PyData.int))) (q : Q (.int ns.sum) H) : rSum K [x] H Q := by
  obtain ⟨a, vs, rfl, hq, ha⟩ := dp_lst_ex h
  rw [ints_of ha] at hq
  exact ⟨a, ns, rfl, W.lst hq, q⟩
theorem x_all {bs : List Bool} (W : Wd K S H O) (h : Dp K S x (.list (bs.map PyData.bool))) (q : Q (.bl (bs.all id)) H) : rAll K [x] H Q := by
  obtain ⟨a, vs, rfl, hq, ha⟩ := dp_lst_ex h
  rw [bools_of ha] at hq
  exact ⟨a, bs, rfl, W.lst hq, q⟩
theorem x_any {bs : List Bool} (W : Wd K S H O) (h : Dp K S x (.list (bs.map PyData.bool))) (q : Q (.bl (bs.any id)) H) : rAny K [x] H Q := by
  obtain ⟨a, vs, rfl, hq, ha⟩ := dp_lst_ex h
  rw [bools_of ha] at hq
  exact ⟨a, bs, rfl, W.lst hq, q⟩
theorem x_abs (q : Q (.int (if a < 0 then -a else a)) H) : rAbs [.int a] H Q := ⟨a, rfl, q⟩
theorem x_max2 (q : Q (.int (max a b)) H) : rMx2 [.int a, .int b] H Q := ⟨a, b, rfl, by
  have e : (if b > a then b else a) = max a b := by
    split <;> omega
  rw [e]
  exact q⟩
theorem x_intB {c : Bool} (q : Q (.int (if c then 1 else 0)) H) : rInt1 [.bl c] H Q := .inr ⟨c, rfl, q⟩
/-- list(x) of a list: a new one that stays, or that is ours -/
theorem x_listS {ds : List PyData} (W : Wd K S H O) (h : Dp K S x (.list ds)) (k : ∀ S' H' v, Wd K S' H' O → Same S S' → Dp K S' v (.list ds) → Q v H') : rLst K [x] H Q := by
  obtain ⟨a, vs, rfl, hq, ha⟩ := dp_lst_ex h
  exact ⟨a, vs, rfl, .inl (W.lst hq), x_lst' W ha k⟩
theorem x_listO {ds : List PyData} (W : Wd K S H O) (h : Dp K S x (.list ds)) (k : ∀ p vs H', DpAll K S vs ds → Wd K S H' ((p, .lst vs) :: O) → Q (.ref p) H') : rLst K [x] H Q := by
  obtain ⟨a, vs, rfl, hq, ha⟩ := dp_lst_ex h
  exact ⟨a, vs, rfl, .inl (W.lst hq), fun l hl => k l vs _ ha (W.alloc hl)⟩
theorem x_tr (h : ta σ H fun x H1 => TruQ K QT x H1) : tTr K ta σ H QT := h
theorem x_truB {c : Bool} (q : QT c H) : TruQ K QT (.bl c) H := ⟨_, rfl, q⟩
/-- truth of a list -/
theorem x_truL {ds : List PyData} (W : Wd K S H O) (h : Dp K S x (.list ds)) (q : QT (!ds.isEmpty) H) : TruQ K QT x H := by
  obtain ⟨a, vs, rfl, hq, ha⟩ := dp_lst_ex h
  refine ⟨_, .inl ⟨vs, W.lst hq, rfl⟩, ?_⟩
  have e : vs.isEmpty = ds.isEmpty := by
    have := dpAll_len ha
    cases vs <;> cases ds <;> simp_all
  rw [e]
  exact q
theorem x_truO {p : Addr} {vs : List V} (n : Nat) (W : Wd K S H O) (h : O[n]? = some (p, .lst vs)) (q : QT (!vs.isEmpty) H) : TruQ K QT (.ref p) H :=
  ⟨_, .inl ⟨vs, .of (W.at n h), rfl⟩, q⟩
/-! ### isinstance of data -/
theorem tyx_lst {ds : List PyData} (W : Wd K S H O) (h : Dp K S x (.list ds)) : TyX K H x (.type "list") := by
  obtain ⟨a, vs, rfl, hq, ha⟩ := dp_lst_ex h
  rcases W.lst hq with (e | ⟨o, e⟩) | ⟨o, its, n, e, c, _⟩
  · exact .base (.lst e)
  · exact .base (.frz e)
  · exact .kList e c
theorem tyx_tup {ds : List PyData} (W : Wd K S H O) (h : Dp K S x (.tuple ds)) : TyX K H x (.type "tuple") := by
  obtain ⟨a, vs, rfl, hq, ha⟩ := dp_tup_ex h
  rcases W.tup hq with (e | ⟨o, e⟩) | ⟨o, its, n, e, c, _⟩
  · exact .base (.tup e)
  · exact .fTuple e
  · exact .kTuple e c
theorem x_isi {t : Value} {n : String} {b : Bool} (h : TyX K H x t) (hk : PySem.W.kitOne K t (.type n) = some b) (q : Q (.bl b) H) : rIsi K [x, .ty n] H Q := ⟨x, .ty n, t, .type n, b, rfl, .ty n, h, hk, q⟩
theorem x_isiI {n : String} {b : Bool} (hk : kitB "int" n = some b) (q : Q (.bl b) H) : rIsi K [.int a, .ty n] H Q := x_isi (.base (.int a)) (kit_ty hk) q
theorem x_isiB {n : String} {b c : Bool} (hk : kitB "bool" n = some b) (q : Q (.bl b) H) : rIsi K [.bl c, .ty n] H Q := x_isi (.base (.bl c)) (kit_ty hk) q
theorem x_isiN {n : String} {b : Bool} (hk : kitB "NoneType" n = some b) (q : Q (.bl b) H) : rIsi K [.non, .ty n] H Q := x_isi (.base .non) (kit_ty hk) q
theorem x_isiS {n : String} {b : Bool} {z : Str} (hk : kitB "str" n = some b) (q : Q (.bl b) H) : rIsi K [.str z, .ty n] H Q := x_isi (.base (.str z)) (kit_ty hk) q
theorem x_isiL {n : String} {b : Bool} {ds : List PyData} (W : Wd K S H O) (h : Dp K S x (.list ds)) (hk : kitB "list" n = some b) (q : Q (.bl b) H) : rIsi K [x, .ty n] H Q := x_isi (tyx_lst W h) (kit_ty hk) q
theorem x_isiT {n : String} {b : Bool} {ds : List PyData} (W : Wd K S H O) (h : Dp K S x (.tuple ds)) (hk : kitB "tuple" n = some b) (q : Q (.bl b) H) : rIsi K [x, .ty n] H Q := x_isi (tyx_tup W h) (kit_ty hk) q
end
/-- isinstance of the exception that the suite holds, its class told by the reading -/
def rIsX (K : PySem.W.Frag) (cls : Value) (d : Option Addr) (a : Addr) : List V → Hp → VK → Prop := fun xs H Q => ∃ (D : Addr) (c : V) (cv : Value) (b : Bool),
  cls = .ref D ∧ d = none ∧ ExcC K D ∧ xs = [.ref a, c] ∧ (∀ u, RelV c u → u = cv) ∧ PySem.W.kitOne K (.ref D) cv = some b ∧ Q (.bl b) H
theorem call_isX {X : Cx} {a : Addr} {oe : Obj} {cls : Value} {d : Option Addr} {pn : List (Addr × Obj)} (hz : Zc cls d oe) (hf : ∃ vs, oe.data = .fields vs) : CallR (X.suite a ((a, oe) :: pn)) (.builtin "isinstance") (rIsX X.K cls d a) := by
  intro pins s σ H xs us Q I r h
  obtain ⟨D, c, cv, b, rfl, rfl, C, e1, e2, e3, q⟩ := h
  exact call_isE C hz hf pins s σ H xs us Q I r ⟨c, cv, b, e1, e2, e3, q⟩
end SB
/-! Loops and comprehensions. -/
namespace SB
open PySem PySem.Spec PyProof.Rows L2
section
variable {K : PySem.W.Frag} {S H : Hp} {O : List (Addr × HO)} {σ : L2.St} {Q : VK} {x y v : V} {D : Ends}
  {nx bk ct : L2.St → Hp → Prop} {rt : VK} {tt tc : TT} {tb : TS} {g : TG} {te tl : TE} {ta : TA} {vs : List Nat}

/-! ### while -/
/-- a turn of a while: n is its number -/
def Again (J : Nat → L2.St → Hp → Prop) (n : Nat) (tb : TS) (D : Ends) (σ : L2.St) (H : Hp) : Prop :=
  ∃ N : L2.St → Hp → Prop, (∀ σ' H', N σ' H' → ∃ m', m' < n ∧ J m' σ' H') ∧ tb ⟨N, D.rt, D.nx, N⟩ σ H
theorem x_again {J : Nat → L2.St → Hp → Prop} {n : Nat} (h : tb ⟨fun σ' H' => ∃ m', m' < n ∧ J m' σ' H', rt, nx, fun σ' H' => ∃ m', m' < n ∧ J m' σ' H'⟩ σ H) : Again J n tb ⟨nx, rt, bk, ct⟩ σ H := ⟨_, fun _ _ h => h, h⟩
theorem x_while (J : Nat → L2.St → Hp → Prop) (m : Nat) (h0 : J m σ H) (hs : ∀ n σ' H', J n σ' H' → tc σ' H' fun b H1 => if b = true then Again J n tb ⟨nx, rt, bk, ct⟩ σ' H1 else nx σ' H1) :
    tWhile tc tb ⟨nx, rt, bk, ct⟩ σ H := ⟨J, ⟨m, h0⟩, hs⟩

/-! ### for -/
/-- the loop when its iterable's value has come -/
def ForL (K : PySem.W.Frag) (g : TG) (tb : TS) (D : Ends) (x : V) (σ : L2.St) (H : Hp) : Prop := ∃ a, x = .ref a ∧ (∃ xs, SqL K H a xs) ∧ ∃ W : Nat → Nat → L2.St → Hp → Prop, (∃ m, W 0 m σ H) ∧ ∀ i m σ H, W i m σ H →
  ((Itl K a).stop i H ∧ D.nx σ H) ∨ ((Itl K a).go i H ∧ ∃ N : L2.St → Hp → Prop, (∀ σ' H', N σ' H' → ∃ m', m' < m ∧ W (i + 1) m' σ' H') ∧ ∀ x H', (Itl K a).yld i H x H' → g x σ H' fun σ2 H2 => tb { D with nx := N, ct := N, bk := D.nx } σ2 H2)
theorem x_for (h : tl σ H fun x H1 => ForL K g tb D x σ H1) : tFor (iList K tl) g tb D σ H := h
theorem x_forV {a : Addr} {ys : List V} (J : Nat → L2.St → Hp → Prop) (h0 : J 0 σ H) (hq : ∀ i σ' H', J i σ' H' → SqL K H' a ys)
    (hs : ∀ i y σ' H', ys[i]? = some y → J i σ' H' → g y σ' H' fun σ2 H2 => tb ⟨J (i + 1), rt, nx, J (i + 1)⟩ σ2 H2) (hd : ∀ σ' H', J ys.length σ' H' → nx σ' H') : ForL K g tb ⟨nx, rt, bk, ct⟩ (.ref a) σ H :=
  ⟨a, rfl, ⟨ys, hq 0 σ H h0⟩, for_list (K := K) (a := a) (xs := ys) (D := ⟨nx, rt, bk, ct⟩) J h0 (fun i σ' H' _ h => hq i σ' H' h) hs hd⟩
theorem x_forD {α : Type} {xs : List α} {f : α → PyData} (hv : Dp K S x (.list (xs.map f))) (J : Nat → L2.St → Hp → Prop) (h0 : J 0 σ H) (hq : ∀ i σ' H', J i σ' H' → Same S H')
    (hs : ∀ i z σ' H', xs[i]? = some z → J i σ' H' → Kn K S (f z) fun u => g u σ' H' fun σ2 H2 => tb ⟨J (i + 1), rt, nx, J (i + 1)⟩ σ2 H2) (hd : ∀ σ' H', J xs.length σ' H' → nx σ' H') : ForL K g tb ⟨nx, rt, bk, ct⟩ x σ H := by
  obtain ⟨a, us, rfl, hq', ha⟩ := dp_lst_ex hv
  have hl : us.length = xs.length := by rw [dpAll_len ha, List.length_map]
  refine x_forV (ys := us) J h0 (fun i σ' H' h => (hq i σ' H' h).seq hq') (fun i y σ' H' hy h => ?_) (fun σ' H' h => hd σ' H' (hl ▸ h))
  obtain ⟨dd, hd1, hd2⟩ := dpAll_get' ha hy
  rw [List.getElem?_map] at hd1
  cases e : xs[i]? with
  | none => rw [e] at hd1; cases hd1
  | some z =>
    rw [e] at hd1
    cases hd1
    exact (hs i z σ' H' e h).of y hd2
/-- over range(n) -/
def ForR (g : TG) (tb : TS) (D : Ends) (us : List V) (σ : L2.St) (H : Hp) : Prop := ∃ j : Int, us = [.int j] ∧ -(2 ^ 62) ≤ j ∧ j < 2 ^ 62 ∧ ∃ W : Nat → Nat → L2.St → Hp → Prop, (∃ m, W 0 m σ H) ∧ ∀ i m σ H, W i m σ H →
  ((Itr 0 j.toNat).stop i H ∧ D.nx σ H) ∨ ((Itr 0 j.toNat).go i H ∧ ∃ N : L2.St → Hp → Prop, (∀ σ' H', N σ' H' → ∃ m', m' < m ∧ W (i + 1) m' σ' H') ∧ ∀ x H', (Itr 0 j.toNat).yld i H x H' → g x σ H' fun σ2 H2 => tb { D with nx := N, ct := N, bk := D.nx } σ2 H2)
theorem x_forr (h : ta σ H fun us H1 => ForR g tb D us σ H1) : tFor (iRng1 ta) g tb D σ H := h
theorem x_forN {j : Int} (J : Nat → L2.St → Hp → Prop) (hj : j < 2 ^ 62 ∧ -(2 ^ 62) ≤ j) (h0 : J 0 σ H)
    (hs : ∀ (i : Nat) σ' H', i < j.toNat → J i σ' H' → g (.int (i : Int)) σ' H' fun σ2 H2 => tb ⟨J (i + 1), rt, nx, J (i + 1)⟩ σ2 H2) (hd : ∀ σ' H', J j.toNat σ' H' → nx σ' H') : ForR g tb ⟨nx, rt, bk, ct⟩ [.int j] σ H :=
  ⟨j, rfl, hj.2, hj.1, for_range (lo := 0) (n := j.toNat) (D := ⟨nx, rt, bk, ct⟩) J h0 (fun i σ' H' hi h => by rw [Int.zero_add]; exact hs i σ' H' hi h) hd⟩
/-- over zip(xs, ys) -/
def ForZ (K : PySem.W.Frag) (g : TG) (tb : TS) (D : Ends) (us : List V) (σ : L2.St) (H : Hp) : Prop := ∃ a b xs ys, us = [.ref a, .ref b] ∧ SqL K H a xs ∧ SqL K H b ys ∧ ∃ W : Nat → Nat → L2.St → Hp → Prop, (∃ m, W 0 m σ H) ∧ ∀ i m σ H, W i m σ H →
  ((Itz K a b).stop i H ∧ D.nx σ H) ∨ ((Itz K a b).go i H ∧ ∃ N : L2.St → Hp → Prop, (∀ σ' H', N σ' H' → ∃ m', m' < m ∧ W (i + 1) m' σ' H') ∧ ∀ x H', (Itz K a b).yld i H x H' → g x σ H' fun σ2 H2 => tb { D with nx := N, ct := N, bk := D.nx } σ2 H2)
theorem x_forz (h : ta σ H fun us H1 => ForZ K g tb D us σ H1) : tFor (iZip K ta) g tb D σ H := h
theorem x_forZ {α β : Type} {xs : List α} {ys : List β} {f : α → PyData} {h : β → PyData} {p q : Nat}
    (hx : Dp K S x (.list (xs.map f))) (hy : Dp K S y (.list (ys.map h))) (hl : xs.length = ys.length) (J : Nat → L2.St → Hp → Prop) (h0 : J 0 σ H) (hq : ∀ i σ' H', J i σ' H' → Same S H')
    (hs : ∀ i z w σ' H' T, xs[i]? = some z → ys[i]? = some w → J i σ' H' → H' T = none → Kn K S (f z) fun u => Kn K S (h w) fun v => tb ⟨J (i + 1), rt, nx, J (i + 1)⟩ ((σ'.set p (some u)).set q (some v)) (upd H' T (.tup [u, v])))
    (hd : ∀ σ' H', J xs.length σ' H' → nx σ' H') : ForZ K (gTup K 2 (gCons (gName p) (gCons (gName q) gNil))) tb ⟨nx, rt, bk, ct⟩ [x, y] σ H := by
  obtain ⟨a, us, rfl, hq1, ha⟩ := dp_lst_ex hx
  obtain ⟨b, ws, rfl, hq2, hb⟩ := dp_lst_ex hy
  have l1 : us.length = xs.length := by rw [dpAll_len ha, List.length_map]
  have l2 : ws.length = ys.length := by rw [dpAll_len hb, List.length_map]
  refine ⟨a, b, us, ws, rfl, (hq 0 σ H h0).seq hq1, (hq 0 σ H h0).seq hq2, RZ.for_zipL (K := K) (a := a) (b := b) (xs := us) (ys := ws) (D := ⟨nx, rt, bk, ct⟩) (by omega) J h0 (fun i σ' H' h => ⟨(hq i σ' H' h).seq hq1, (hq i σ' H' h).seq hq2⟩) (fun i u w T σ' H' e1 e2 hJ hT => ?_) (fun σ' H' h => hd σ' H' (l1 ▸ h))⟩
  obtain ⟨d1, g1, r1⟩ := dpAll_get' ha e1
  obtain ⟨d2, g2, r2⟩ := dpAll_get' hb e2
  rw [List.getElem?_map] at g1 g2
  cases c1 : xs[i]? with
  | none => rw [c1] at g1; cases g1
  | some z =>
    cases c2 : ys[i]? with
    | none => rw [c2] at g2; cases g2
    | some z2 =>
      rw [c1] at g1
      rw [c2] at g2
      cases g1
      cases g2
      refine ⟨T, [u, w], rfl, .inl (.inl upd_same), rfl, u, [w], rfl, w, [], rfl, rfl, ?_⟩
      exact ((hs i z z2 σ' H' T c1 c2 hJ hT).of u r1).of w r2
/-- over a tuple -/
def ForT (K : PySem.W.Frag) (g : TG) (tb : TS) (D : Ends) (x : V) (σ : L2.St) (H : Hp) : Prop := ∃ a, x = .ref a ∧ (∃ xs, SqT K H a xs) ∧ ∃ W : Nat → Nat → L2.St → Hp → Prop, (∃ m, W 0 m σ H) ∧ ∀ i m σ H, W i m σ H →
  ((Itt K a).stop i H ∧ D.nx σ H) ∨ ((Itt K a).go i H ∧ ∃ N : L2.St → Hp → Prop, (∀ σ' H', N σ' H' → ∃ m', m' < m ∧ W (i + 1) m' σ' H') ∧ ∀ x H', (Itt K a).yld i H x H' → g x σ H' fun σ2 H2 => tb { D with nx := N, ct := N, bk := D.nx } σ2 H2)
theorem x_fort (h : tl σ H fun x H1 => ForT K g tb D x σ H1) : tFor (iTup K tl) g tb D σ H := h
theorem x_forT {α : Type} {xs : List α} {f : α → PyData} (hv : Dp K S x (.tuple (xs.map f))) (J : Nat → L2.St → Hp → Prop) (h0 : J 0 σ H) (hq : ∀ i σ' H', J i σ' H' → Same S H')
    (hs : ∀ i z σ' H', xs[i]? = some z → J i σ' H' → Kn K S (f z) fun u => g u σ' H' fun σ2 H2 => tb ⟨J (i + 1), rt, nx, J (i + 1)⟩ σ2 H2) (hd : ∀ σ' H', J xs.length σ' H' → nx σ' H') : ForT K g tb ⟨nx, rt, bk, ct⟩ x σ H := by
  obtain ⟨a, us, rfl, hq', ha⟩ := dp_tup_ex hv
  have hl : us.length = xs.length := by rw [dpAll_len ha, List.length_map]
  refine ⟨a, rfl, ⟨us, same_t (hq 0 σ H h0) hq'⟩, for_tup (K := K) (a := a) (xs := us) (D := ⟨nx, rt, bk, ct⟩) J h0 (fun i σ' H' _ h => same_t (hq i σ' H' h) hq') (fun i y σ' H' hy h => ?_) (fun σ' H' h => hd σ' H' (hl ▸ h))⟩
  obtain ⟨dd, hd1, hd2⟩ := dpAll_get' ha hy
  rw [List.getElem?_map] at hd1
  cases e : xs[i]? with
  | none => rw [e] at hd1; cases hd1
  | some z =>
    rw [e] at hd1
    cases hd1
    exact (hs i z σ' H' e h).of y hd2

/-! ### comprehensions -/
/-- an element that is taken, one that is not -/
def LcY (K : PySem.W.Frag) (S : Hp) (O : List (Addr × HO)) (R : Addr) (acc : List V) (o : Option PyData) (y : V) (H : Hp) : Prop :=
  ∃ S' d, o = some d ∧ Wd K S' H ((R, .lst acc) :: O) ∧ Same S S' ∧ Dp K S' y d
def LcN (K : PySem.W.Frag) (S : Hp) (O : List (Addr × HO)) (R : Addr) (acc : List V) (o : Option PyData) (H : Hp) : Prop :=
  o = none ∧ ∃ S', Wd K S' H ((R, .lst acc) :: O) ∧ Same S S'
theorem lc_y {R : Addr} {acc : List V} {o : Option PyData} {S' : Hp} {d : PyData} (h : o = some d) (W : Wd K S' H ((R, .lst acc) :: O)) (hs : Same S S') (hd : Dp K S' y d) : LcY K S O R acc o y H := ⟨S', d, h, W, hs, hd⟩
theorem lc_n {R : Addr} {acc : List V} {o : Option PyData} {S' : Hp} (h : o = none) (W : Wd K S' H ((R, .lst acc) :: O)) (hs : Same S S') : LcN K S O R acc o H := ⟨h, S', W, hs⟩
/-- what the new list holds behind i elements -/
def LcP (K : PySem.W.Frag) {α : Type} (xs : List α) (fr : α → Option PyData) (S : Hp) (O : List (Addr × HO)) (R : Addr) : Nat → Hp → Prop := fun i H =>
  ∃ S' acc, Wd K S' H ((R, .lst acc) :: O) ∧ Same S S' ∧ DpAll K S' acc ((xs.take i).filterMap fr)
theorem lcP_turn {α : Type} {xs : List α} {fr : α → Option PyData} {R : Addr} {i : Nat} {z : α} (hlen : xs.length ≤ 1000000) (hz : xs[i]? = some z) {S' : Hp} {acc : List V} (hS : Same S S') (hA : DpAll K S' acc ((xs.take i).filterMap fr)) :
    (∀ y H4, LcY K S' O R acc (fr z) y H4 → ∃ acc', H4 R = some (.lst acc') ∧ acc'.length < sizeLine ∧ LcP K xs fr S O R (i + 1) (upd H4 R (.lst (acc' ++ [y])))) ∧
    (∀ H3, LcN K S' O R acc (fr z) H3 → LcP K xs fr S O R (i + 1) H3) := by
  have hi : i < xs.length := (List.getElem?_eq_some_iff.mp hz).1
  have ht : xs.take (i + 1) = xs.take i ++ [z] := by
    rw [List.take_add_one, hz]
    rfl
  constructor
  · rintro y H4 ⟨S4, dd, e, W4, hS4, hd⟩
    refine ⟨acc, W4.at 0 rfl, ?_, S4, acc ++ [y], W4.put 0 rfl, hS.trans hS4, ?_⟩
    · have := dpAll_len hA
      have l2 := List.length_filterMap_le fr (xs.take i)
      rw [List.length_take] at l2
      exact szl (by omega)
    · rw [ht, List.filterMap_append]
      have : List.filterMap fr [z] = [dd] := by simp [e]
      rw [this]
      exact dpAll_app (dpAll_mono hS4 hA) hd
  · rintro H3 ⟨e, S3, W3, hS3⟩
    refine ⟨S3, acc, W3, hS.trans hS3, ?_⟩
    rw [ht, List.filterMap_append]
    have : List.filterMap fr [z] = [] := by simp [e]
    rw [this, List.append_nil]
    exact dpAll_mono hS3 hA
/-- how a turn of a comprehension may end -/
def EndY (R : Addr) (N : Hp → Prop) (y : V) (H : Hp) : Prop := ∃ acc, H R = some (.lst acc) ∧ acc.length < sizeLine ∧ N (upd H R (.lst (acc ++ [y])))
structure LcE (K : PySem.W.Frag) (S : Hp) (O : List (Addr × HO)) (R : Addr) (acc : List V) (o : Option PyData) (N : Hp → Prop) : Prop where
  yes : ∀ y H, LcY K S O R acc o y H → EndY R N y H
  no : ∀ H, LcN K S O R acc o H → N H
theorem lce_y {R : Addr} {acc : List V} {o : Option PyData} {N : Hp → Prop} {S' : Hp} {d : PyData} (E : LcE K S O R acc o N) (W : Wd K S' H ((R, .lst acc) :: O)) (hs : Same S S') (hd : Dp K S' y d) (h : o = some d) : EndY R N y H := E.yes _ _ ⟨S', d, h, W, hs, hd⟩
theorem lce_n {R : Addr} {acc : List V} {o : Option PyData} {N : Hp → Prop} {S' : Hp} (E : LcE K S O R acc o N) (W : Wd K S' H ((R, .lst acc) :: O)) (hs : Same S S') (h : o = none) : N H := E.no _ ⟨h, S', W, hs⟩
theorem lcE_of {α : Type} {xs : List α} {fr : α → Option PyData} {R : Addr} {i : Nat} {z : α} (hlen : xs.length ≤ 1000000) (hz : xs[i]? = some z) {S' : Hp} {acc : List V} (hS : Same S S') (hA : DpAll K S' acc ((xs.take i).filterMap fr)) :
    LcE K S' O R acc (fr z) (LcP K xs fr S O R (i + 1)) := ⟨(lcP_turn hlen hz hS hA).1, (lcP_turn hlen hz hS hA).2⟩
/-- the body of a comprehension for an element's value u -/
def LcB (g : TG) (tt : TT) (te : TE) (vs : List Nat) (σ : L2.St) (R : Addr) (N : Hp → Prop) (u : V) (H : Hp) : Prop :=
  g u (wipe σ vs) H fun σ2 H2 => wipe σ2 vs = wipe σ vs ∧ tt σ2 H2 fun b H3 => if b = true then te σ2 H3 fun y H4 => EndY R N y H4 else N H3
theorem x_lcb {R : Addr} {N : Hp → Prop} {j : Nat} (h : tt ((wipe σ vs).set j (some x)) H fun b H3 => if b = true then te ((wipe σ vs).set j (some x)) H3 fun y H4 => EndY R N y H4 else N H3)
    (e : wipe ((wipe σ vs).set j (some x)) vs = wipe σ vs := by rfl) : LcB (gName j) tt te vs σ R N x H := ⟨e, h⟩
theorem x_yes {Q : Bool → Hp → Prop} (h : Q true H) : tYes σ H Q := h
/-- over a list -/
def LcL (K : PySem.W.Frag) (g : TG) (tt : TT) (te : TE) (vs : List Nat) (σ : L2.St) (Q : VK) (x : V) (H : Hp) : Prop := ∃ a, x = .ref a ∧ (∃ xs, SqL K H a xs) ∧ ∀ R, H R = none → ∃ W : Nat → Nat → Hp → Prop, (∃ m, W 0 m (upd H R (.lst []))) ∧ ∀ i m H, W i m H →
  ((Itl K a).stop i H ∧ Q (.ref R) H) ∨ ((Itl K a).go i H ∧ ∃ Nx : Hp → Prop, (∀ H', Nx H' → ∃ m', m' < m ∧ W (i + 1) m' H') ∧ ∀ x H', (Itl K a).yld i H x H' → g x (wipe σ vs) H' fun σ2 H2 => wipe σ2 vs = wipe σ vs ∧ tt σ2 H2 fun b H3 =>
    if b = true then te σ2 H3 fun y H4 => ∃ acc, H4 R = some (.lst acc) ∧ acc.length < sizeLine ∧ Nx (upd H4 R (.lst (acc ++ [y]))) else Nx H3)
theorem x_lcl (h : tl σ H fun x H1 => LcL K g tt te vs σ Q x H1) : tLc (iList K tl) g tt te vs σ H Q := h
/-- the new list is ours at the end -/
theorem lc_listO {α : Type} {xs : List α} {f : α → PyData} (fr : α → Option PyData) (W : Wd K S H O) (hv : Dp K S x (.list (xs.map f))) (hlen : xs.length ≤ 1000000)
    (hs : ∀ z S' H' R acc N, z ∈ xs → Wd K S' H' ((R, .lst acc) :: O) → Same S S' → LcE K S' O R acc (fr z) N → Kn K S' (f z) fun u => LcB g tt te vs σ R N u H')
    (k : ∀ S' H' R acc, Wd K S' H' ((R, .lst acc) :: O) → Same S S' → DpAll K S' acc (xs.filterMap fr) → Q (.ref R) H') : LcL K g tt te vs σ Q x H := by
  obtain ⟨a, us, rfl, hq', ha⟩ := dp_lst_ex hv
  have hl : us.length = xs.length := by rw [dpAll_len ha, List.length_map]
  refine ⟨a, rfl, ⟨us, W.lst hq'⟩, fun R hR => lc_list (K := K) (a := a) (xs := us) (Qd := fun H' => Q (.ref R) H') (LcP K xs fr S O R) ⟨S, [], W.alloc hR, Same.refl S, by simp; exact .nil⟩ (fun i H' _ ⟨S', acc, W', hS, hA⟩ => W'.lst (hS.seq hq')) (fun i y H' hy ⟨S', acc, W', hS, hA⟩ => ?_) (fun H' ⟨S', acc, W', hS, hA⟩ => ?_)⟩
  · obtain ⟨dd, hd1, hd2⟩ := dpAll_get' ha hy
    rw [List.getElem?_map] at hd1
    cases e : xs[i]? with
    | none => rw [e] at hd1; cases hd1
    | some z =>
      rw [e] at hd1
      cases hd1
      exact (hs z S' H' R acc (LcP K xs fr S O R (i + 1)) (List.mem_of_getElem? e) W' hS (lcE_of hlen e hS hA)).of y (dp_mono hS hd2)
  · rw [hl, List.take_length] at hA
    exact k S' H' R acc W' hS hA
/-- the new list stays -/
theorem lc_listS {α : Type} {xs : List α} {f : α → PyData} (fr : α → Option PyData) (W : Wd K S H O) (hv : Dp K S x (.list (xs.map f))) (hlen : xs.length ≤ 1000000)
    (hs : ∀ z S' H' R acc N, z ∈ xs → Wd K S' H' ((R, .lst acc) :: O) → Same S S' → LcE K S' O R acc (fr z) N → Kn K S' (f z) fun u => LcB g tt te vs σ R N u H')
    (k : ∀ S' H' v, Wd K S' H' O → Same S S' → Dp K S' v (.list (xs.filterMap fr)) → Q v H') : LcL K g tt te vs σ Q x H :=
  lc_listO fr W hv hlen hs fun S' H' R acc W' hS hA => k _ H' _ (W'.give 0 rfl) (hS.trans (same_new (W'.atS 0 rfl))) (dp_give (W'.atS 0 rfl) hA)
/-- over range(n) -/
def LcR (g : TG) (tt : TT) (te : TE) (vs : List Nat) (σ : L2.St) (Q : VK) (us : List V) (H : Hp) : Prop := ∃ j : Int, us = [.int j] ∧ -(2 ^ 62) ≤ j ∧ j < 2 ^ 62 ∧ ∀ R, H R = none → ∃ W : Nat → Nat → Hp → Prop, (∃ m, W 0 m (upd H R (.lst []))) ∧ ∀ i m H, W i m H →
  ((Itr 0 j.toNat).stop i H ∧ Q (.ref R) H) ∨ ((Itr 0 j.toNat).go i H ∧ ∃ Nx : Hp → Prop, (∀ H', Nx H' → ∃ m', m' < m ∧ W (i + 1) m' H') ∧ ∀ x H', (Itr 0 j.toNat).yld i H x H' → g x (wipe σ vs) H' fun σ2 H2 => wipe σ2 vs = wipe σ vs ∧ tt σ2 H2 fun b H3 =>
    if b = true then te σ2 H3 fun y H4 => ∃ acc, H4 R = some (.lst acc) ∧ acc.length < sizeLine ∧ Nx (upd H4 R (.lst (acc ++ [y]))) else Nx H3)
theorem x_lcr (h : ta σ H fun us H1 => LcR g tt te vs σ Q us H1) : tLc (iRng1 ta) g tt te vs σ H Q := h
theorem lc_rangeO {j : Int} (fr : Nat → Option PyData) (W : Wd K S H O) (hj : -(2 ^ 62) ≤ j ∧ j ≤ 1000000)
    (hs : ∀ (z : Nat) S' H' R acc N, z < j.toNat → Wd K S' H' ((R, .lst acc) :: O) → Same S S' → LcE K S' O R acc (fr z) N → LcB g tt te vs σ R N (.int (z : Int)) H')
    (k : ∀ S' H' R acc, Wd K S' H' ((R, .lst acc) :: O) → Same S S' → DpAll K S' acc ((List.range j.toNat).filterMap fr) → Q (.ref R) H') : LcR g tt te vs σ Q [.int j] H := by
  have hn : (List.range j.toNat).length ≤ 1000000 := by rw [List.length_range]; omega
  refine ⟨j, rfl, hj.1, by omega, fun R hR => lc_range (lo := 0) (n := j.toNat) (Qd := fun H' => Q (.ref R) H') (LcP K (List.range j.toNat) fr S O R) ⟨S, [], W.alloc hR, Same.refl S, by simp; exact .nil⟩ (fun i H' hi ⟨S', acc, W', hS, hA⟩ => ?_) (fun H' ⟨S', acc, W', hS, hA⟩ => ?_)⟩
  · have e : (List.range j.toNat)[i]? = some i := List.getElem?_range hi
    rw [Int.zero_add]
    exact hs i S' H' R acc (LcP K (List.range j.toNat) fr S O R (i + 1)) hi W' hS (lcE_of hn e hS hA)
  · rw [List.take_of_length_le (by rw [List.length_range]; exact Nat.le_refl _)] at hA
    exact k S' H' R acc W' hS hA
theorem lc_rangeS {j : Int} (fr : Nat → Option PyData) (W : Wd K S H O) (hj : -(2 ^ 62) ≤ j ∧ j ≤ 1000000)
    (hs : ∀ (z : Nat) S' H' R acc N, z < j.toNat → Wd K S' H' ((R, .lst acc) :: O) → Same S S' → LcE K S' O R acc (fr z) N → LcB g tt te vs σ R N (.int (z : Int)) H')
    (k : ∀ S' H' v, Wd K S' H' O → Same S S' → Dp K S' v (.list ((List.range j.toNat).filterMap fr)) → Q v H') : LcR g tt te vs σ Q [.int j] H :=
  lc_rangeO fr W hj hs fun S' H' R acc W' hS hA => k _ H' _ (W'.give 0 rfl) (hS.trans (same_new (W'.atS 0 rfl))) (dp_give (W'.atS 0 rfl) hA)
/-- over zip(xs, ys), the target two names -/
def LcZ (K : PySem.W.Frag) (g : TG) (tt : TT) (te : TE) (vs : List Nat) (σ : L2.St) (Q : VK) (us : List V) (H : Hp) : Prop := ∃ a b xs ys, us = [.ref a, .ref b] ∧ SqL K H a xs ∧ SqL K H b ys ∧ ∀ R, H R = none → ∃ W : Nat → Nat → Hp → Prop, (∃ m, W 0 m (upd H R (.lst []))) ∧ ∀ i m H, W i m H →
  ((Itz K a b).stop i H ∧ Q (.ref R) H) ∨ ((Itz K a b).go i H ∧ ∃ Nx : Hp → Prop, (∀ H', Nx H' → ∃ m', m' < m ∧ W (i + 1) m' H') ∧ ∀ x H', (Itz K a b).yld i H x H' → g x (wipe σ vs) H' fun σ2 H2 => wipe σ2 vs = wipe σ vs ∧ tt σ2 H2 fun b H3 =>
    if b = true then te σ2 H3 fun y H4 => ∃ acc, H4 R = some (.lst acc) ∧ acc.length < sizeLine ∧ Nx (upd H4 R (.lst (acc ++ [y]))) else Nx H3)
theorem x_lcz (h : ta σ H fun us H1 => LcZ K g tt te vs σ Q us H1) : tLc (iZip K ta) g tt te vs σ H Q := h
theorem lc_zipO {α β : Type} {xs : List α} {ys : List β} {f : α → PyData} {h : β → PyData} {p q : Nat} (fr : α × β → Option PyData) (W : Wd K S H O) (hx : Dp K S x (.list (xs.map f))) (hy : Dp K S y (.list (ys.map h))) (hl : xs.length = ys.length) (hlen : xs.length ≤ 1000000)
    (hs : ∀ z w S' H' R acc N, (z, w) ∈ xs.zip ys → Wd K S' H' ((R, .lst acc) :: O) → Same S S' → LcE K S' O R acc (fr (z, w)) N → Kn K S' (f z) fun u => Kn K S' (h w) fun v =>
      tt (((wipe σ vs).set p (some u)).set q (some v)) H' fun b H3 => if b = true then te (((wipe σ vs).set p (some u)).set q (some v)) H3 fun y H4 => EndY R N y H4 else N H3)
    (k : ∀ S' H' R acc, Wd K S' H' ((R, .lst acc) :: O) → Same S S' → DpAll K S' acc ((xs.zip ys).filterMap fr) → Q (.ref R) H')
    (e : ∀ u v, wipe (((wipe σ vs).set p (some u)).set q (some v)) vs = wipe σ vs := by intros; rfl) : LcZ K (gTup K 2 (gCons (gName p) (gCons (gName q) gNil))) tt te vs σ Q [x, y] H := by
  obtain ⟨a, us, rfl, hq1, ha⟩ := dp_lst_ex hx
  obtain ⟨b, ws, rfl, hq2, hb⟩ := dp_lst_ex hy
  have l1 : us.length = xs.length := by rw [dpAll_len ha, List.length_map]
  have l2 : ws.length = ys.length := by rw [dpAll_len hb, List.length_map]
  have lz : (xs.zip ys).length = xs.length := by rw [List.length_zip]; omega
  refine ⟨a, b, us, ws, rfl, W.lst hq1, W.lst hq2, fun R hR => ⟨fun i m H' => m = xs.length - i ∧ i ≤ xs.length ∧ LcP K (xs.zip ys) fr S O R i H', ⟨xs.length, rfl, Nat.zero_le _, S, [], W.alloc hR, Same.refl S, by simp; exact .nil⟩, ?_⟩⟩
  rintro i m H' ⟨rfl, hi, S', acc, W', hS, hA⟩
  have g1 : SqL K H' a us := W'.lst (hS.seq hq1)
  have g2 : SqL K H' b ws := W'.lst (hS.seq hq2)
  by_cases hlt : i < xs.length
  · have e1 : us[i]? = some us[i] := List.getElem?_eq_getElem (by omega)
    have e2 : ws[i]? = some ws[i] := List.getElem?_eq_getElem (by omega)
    refine .inr ⟨⟨us, ws, _, _, g1, g2, e1, e2⟩, LcP K (xs.zip ys) fr S O R (i + 1), fun H'' p' => ⟨xs.length - (i + 1), by omega, rfl, hlt, p'⟩, fun v H'' yy => ?_⟩
    obtain ⟨T, u, w, rfl, hT, rfl, f1, f2⟩ := yy
    have e1 := f1 us g1
    have e2 := f2 ws g2
    obtain ⟨d1, h1, r1⟩ := dpAll_get' ha e1
    obtain ⟨d2, h2, r2⟩ := dpAll_get' hb e2
    rw [List.getElem?_map] at h1 h2
    have c1 : xs[i]? = some xs[i] := List.getElem?_eq_getElem hlt
    have c2 : ys[i]? = some (ys[i]'(by omega)) := List.getElem?_eq_getElem (by omega)
    rw [c1] at h1
    rw [c2] at h2
    cases h1
    cases h2
    have cz : (xs.zip ys)[i]? = some (xs[i], ys[i]'(by omega)) := by rw [List.getElem?_zip_eq_some]; exact ⟨c1, c2⟩
    refine ⟨T, [u, w], rfl, .inl (.inl upd_same), rfl, u, [w], rfl, w, [], rfl, rfl, e u w, ?_⟩
    have W2 := W'.new (o := .tup [u, w]) hT
    have hT' := W'.frS hT
    have E2 := lcE_of (S := S) (K := K) (O := O) (R := R) (fr := fr) (by rw [lz]; exact hlen) cz (hS.trans (same_new (o := .tup [u, w]) hT')) (dpAll_mono (same_new hT') hA)
    exact ((hs _ _ _ _ R acc _ (List.mem_of_getElem? cz) W2 (hS.trans (same_new hT')) E2).of u (dp_mono (hS.trans (same_new hT')) r1)).of w (dp_mono (hS.trans (same_new hT')) r2)
  · have e3 : i = xs.length := by omega
    subst e3
    refine .inl ⟨⟨us, ws, g1, g2, Or.inl (by omega)⟩, ?_⟩
    rw [← lz, List.take_length] at hA
    exact k S' H' R acc W' hS hA
theorem lc_zipS {α β : Type} {xs : List α} {ys : List β} {f : α → PyData} {h : β → PyData} {p q : Nat} (fr : α × β → Option PyData) (W : Wd K S H O) (hx : Dp K S x (.list (xs.map f))) (hy : Dp K S y (.list (ys.map h))) (hl : xs.length = ys.length) (hlen : xs.length ≤ 1000000)
    (hs : ∀ z w S' H' R acc N, (z, w) ∈ xs.zip ys → Wd K S' H' ((R, .lst acc) :: O) → Same S S' → LcE K S' O R acc (fr (z, w)) N → Kn K S' (f z) fun u => Kn K S' (h w) fun v =>
      tt (((wipe σ vs).set p (some u)).set q (some v)) H' fun b H3 => if b = true then te (((wipe σ vs).set p (some u)).set q (some v)) H3 fun y H4 => EndY R N y H4 else N H3)
    (k : ∀ S' H' v, Wd K S' H' O → Same S S' → Dp K S' v (.list ((xs.zip ys).filterMap fr)) → Q v H')
    (e : ∀ u v, wipe (((wipe σ vs).set p (some u)).set q (some v)) vs = wipe σ vs := by intros; rfl) : LcZ K (gTup K 2 (gCons (gName p) (gCons (gName q) gNil))) tt te vs σ Q [x, y] H :=
  lc_zipO fr W hx hy hl hlen hs (fun S' H' R acc W' hS hA => k _ H' _ (W'.give 0 rfl) (hS.trans (same_new (W'.atS 0 rfl))) (dp_give (W'.atS 0 rfl) hA)) e
end
end SB
namespace SB
open L2
theorem cdivw_any {i i' j : Int} (h : CDivW i j) : CDivW i' j := h
theorem cdivw_of {i j : Int} {b : Nat} (h : 0 < j) (hb : j.natAbs < 2 ^ b) (h0 : 0 < b := by decide) (h9 : b ≤ 9000 := by decide) : CDivW i j := wide_div h hb h0 h9
theorem cmulw_of {i j : Int} {a b : Nat} (ha : i.natAbs < 2 ^ a) (hb : j.natAbs < 2 ^ b) (h0 : 0 < a := by decide) (h1 : 0 < b := by decide) (h : a + b ≤ 1000000 := by decide) : CMulW i j := wide_mul ha hb h0 h1 h
end SB
namespace SB
open PySem PySem.Spec PyProof.Rows L2
section
variable {CX : CXT} {P : Program} {w : World} {K : PySem.W.Frag} {mg : Str → Option Value} {base : Heap} {N : List Str} {qual : Str} {scope : Scope} {f : Addr} {cd : Value} {A : Around} {outer : List Env} {s : Shared} {H : Hp} {E : XK}
theorem cxK : (cxOf CX P w K mg base N qual scope f cd A outer s H E).K = K := rfl
theorem cxw : (cxOf CX P w K mg base N qual scope f cd A outer s H E).w = w := rfl
theorem cxprog : (cxOf CX P w K mg base N qual scope f cd A outer s H E).prog = P := rfl
end
end SB
namespace SB
open PySem PySem.Spec PyProof.Rows L2
theorem exm_own {K : PySem.W.Frag} {C D : Addr} {b : Bool} (hs : PySem.W.subIn K (.ref D) (.type "BaseException") = some true) (hi : PySem.W.isClsIn K D = true) (ht : PySem.W.typeIn K (.ref D) = some (.type "type"))
    (h : PySem.W.subIn K (.ref C) (.ref D) = some b) : PySem.W.exmOne K (.ref C) (.ref D) = some b := by
  have e1 : (PySem.W.subIn K (.ref D) (.type "BaseException") == some true) = true := by rw [hs]; rfl
  have hi' : (PySem.W.clsIn K D).isSome = true := hi
  have e2 : ((PySem.W.clsIn K D).isSome && PySem.W.typeIn K (.ref D) == some (.type "type")) = true := by rw [hi', ht]; rfl
  show (if (PySem.W.subIn K (.ref D) (.type "BaseException") == some true) = true then (if ((PySem.W.clsIn K D).isSome && PySem.W.typeIn K (.ref D) == some (.type "type")) = true then PySem.W.subIn K (.ref C) (.ref D) else none) else none) = some b
  rw [if_pos e1, if_pos e2]
  exact h
theorem kit_self {K : PySem.W.Frag} {C : Addr} : PySem.W.kitOne K (.ref C) (.ref C) = some true := by
  show (if ((Value.ref C : Value) == .ref C) = true then some true else _) = some true
  rw [if_pos (by simp)]
theorem kit_own {K : PySem.W.Frag} {C D : Addr} {b : Bool} (hne : C ≠ D) (hi : PySem.W.isClsIn K D = true) (ht : PySem.W.typeIn K (.ref D) = some (.type "type"))
    (h : PySem.W.subIn K (.ref C) (.ref D) = some b) : PySem.W.kitOne K (.ref C) (.ref D) = some b := by
  have hi' : (PySem.W.clsIn K D).isSome = true := hi
  have e2 : ((PySem.W.clsIn K D).isSome && PySem.W.typeIn K (.ref D) == some (.type "type")) = true := by rw [hi', ht]; rfl
  show (if ((Value.ref C : Value) == .ref D) = true then some true else (if ((PySem.W.clsIn K D).isSome && PySem.W.typeIn K (.ref D) == some (.type "type")) = true then PySem.W.subIn K (.ref C) (.ref D) else none)) = some b
  rw [if_neg (by simpa using hne), if_pos e2]
  exact h
theorem kit_bty {K : PySem.W.Frag} {C : Addr} {n : String} {b : Bool} (hm : PySem.W.kitMeta n = true) (h : PySem.W.subIn K (.ref C) (.type n) = some b) : PySem.W.kitOne K (.ref C) (.type n) = some b := by
  show (if ((Value.ref C : Value) == .type n) = true then some true else (if PySem.W.kitMeta n = true then PySem.W.subIn K (.ref C) (.type n) else none)) = some b
  rw [if_neg (by simp), if_pos hm]
  exact h
theorem x_isX {K : PySem.W.Frag} {C c a : Addr} {b : Bool} {Q : VK} {H : Hp} (hC : ExcC K C) (hk : PySem.W.kitOne K (.ref C) (.ref c) = some b) (q : Q (.bl b) H) : rIsX K (.ref C) none a [.ref a, .ref c] H Q :=
  ⟨C, .ref c, .ref c, b, rfl, rfl, hC, rfl, fun u h => h, hk, q⟩
theorem x_isXT {K : PySem.W.Frag} {C a : Addr} {n : String} {b : Bool} {Q : VK} {H : Hp} (hC : ExcC K C) (hk : PySem.W.kitOne K (.ref C) (.type n) = some b) (q : Q (.bl b) H) : rIsX K (.ref C) none a [.ref a, .ty n] H Q :=
  ⟨C, .ty n, .type n, b, rfl, rfl, hC, rfl, fun u h => h, hk, q⟩
end SB
namespace SB
open L2
theorem kb_int_int : kitB "int" "int" = some true := by decide +kernel
theorem kb_int_bool : kitB "int" "bool" = some false := by decide +kernel
theorem kb_bool_bool : kitB "bool" "bool" = some true := by decide +kernel
theorem kb_bool_int : kitB "bool" "int" = some true := by decide +kernel
theorem kb_list_list : kitB "list" "list" = some true := by decide +kernel
theorem kb_tuple_tuple : kitB "tuple" "tuple" = some true := by decide +kernel
theorem kb_dict_dict : kitB "dict" "dict" = some true := by decide +kernel
theorem kb_NoneType_int : kitB "NoneType" "int" = some false := by decide +kernel
theorem kb_tuple_list : kitB "tuple" "list" = some false := by decide +kernel
theorem kb_list_tuple : kitB "list" "tuple" = some false := by decide +kernel
theorem kb_str_int : kitB "str" "int" = some false := by decide +kernel
theorem kb_tuple_int : kitB "tuple" "int" = some false := by decide +kernel
theorem kb_list_int : kitB "list" "int" = some false := by decide +kernel
end SB
namespace SB
open PySem PySem.Spec PyProof.Rows L2
/-! ### == of data -/
def Shp (n : Nat) (d : PyData) : Prop := d.canLay0 = true ∧ d.depth ≤ n
theorem shp_shaped {n : Nat} {d : PyData} (h : Shp n d) (hn : n ≤ 64 := by decide) : SeqAt.shaped d = true := by
  unfold SeqAt.shaped
  rw [h.1, Bool.true_and]
  exact decide_eq_true (Nat.le_trans h.2 hn)
theorem shp_int {n : Nat} (i : Int) : Shp n (.int i) := ⟨rfl, Nat.zero_le _⟩
theorem shp_bl {n : Nat} (i : Bool) : Shp n (.bool i) := ⟨rfl, Nat.zero_le _⟩
theorem shp_non {n : Nat} : Shp n .none := ⟨rfl, Nat.zero_le _⟩
theorem shp_all {n : Nat} : ∀ {ds : List PyData}, (∀ d ∈ ds, Shp n d) → PyData.canLayAll0 ds = true ∧ PyData.depthAll ds ≤ n
  | [], _ => ⟨rfl, Nat.zero_le _⟩
  | d :: ds, h => by
    have h1 := h d List.mem_cons_self
    have h2 := shp_all (ds := ds) fun e he => h e (List.mem_cons_of_mem _ he)
    refine ⟨?_, ?_⟩
    · show (PyData.canLay0 d && PyData.canLayAll0 ds) = true
      rw [h1.1, h2.1]
      rfl
    · show max (PyData.depth d) (PyData.depthAll ds) ≤ n
      exact Nat.max_le.mpr ⟨h1.2, h2.2⟩
theorem shp_list {n : Nat} {ds : List PyData} (h : ∀ d ∈ ds, Shp n d) : Shp (n + 1) (.list ds) := by
  have := shp_all h
  exact ⟨this.1, Nat.succ_le_succ this.2⟩
theorem shp_tup {n : Nat} {ds : List PyData} (h : ∀ d ∈ ds, Shp n d) : Shp (n + 1) (.tuple ds) := by
  have := shp_all h
  exact ⟨this.1, Nat.succ_le_succ this.2⟩
theorem shp_map {α : Type} {n : Nat} {xs : List α} {f : α → PyData} (h : ∀ x, Shp n (f x)) : Shp (n + 1) (.list (xs.map f)) := shp_list fun d hd => by
  obtain ⟨x, _, rfl⟩ := List.mem_map.mp hd
  exact h x
theorem eqvAll_map {α : Type} [DecidableEq α] {f : α → PyData} (h : ∀ x y, PyData.eqv (f x) (f y) = decide (x = y)) : ∀ xs ys : List α, PyData.eqvAll (xs.map f) (ys.map f) = decide (xs = ys)
  | [], [] => rfl
  | [], _ :: _ => rfl
  | _ :: _, [] => rfl
  | x :: xs, y :: ys => by
    show (PyData.eqv (f x) (f y) && PyData.eqvAll (xs.map f) (ys.map f)) = _
    rw [h, eqvAll_map h xs ys]
    by_cases e : x = y
    · subst e
      by_cases e2 : xs = ys
      · subst e2; simp
      · simp [e2]
    · simp [e]
theorem eqv_map {α : Type} [DecidableEq α] {f : α → PyData} (h : ∀ x y, PyData.eqv (f x) (f y) = decide (x = y)) (xs ys : List α) : PyData.eqv (.list (xs.map f)) (.list (ys.map f)) = decide (xs = ys) := eqvAll_map h xs ys
theorem eqv_int (x y : Int) : PyData.eqv (.int x) (.int y) = decide (x = y) := Bool.beq_eq_decide_eq x y
theorem eqv_self {d : PyData} {n : Nat} (h : Shp n d) : PyData.eqv d d = true := SeqAt.eqv_refl d h.1
section
variable {K : PySem.W.Frag} {S H : Hp} {O : List (Addr × HO)} {Q : VK} {x y : V}
theorem x_eqD {d e : PyData} (W : Wd K S H O) (h1 : Dp K S x d) (h2 : Dp K S y e) (s1 : Shp 64 d) (s2 : Shp 64 e) (q : Q (.bl (PyData.eqv d e)) H) : rEqD K x y H Q :=
  ⟨d, e, dp_mono W.sub h1, dp_mono W.sub h2, shp_shaped s1, shp_shaped s2, q⟩
theorem x_neD {d e : PyData} (W : Wd K S H O) (h1 : Dp K S x d) (h2 : Dp K S y e) (s1 : Shp 64 d) (s2 : Shp 64 e) (q : Q (.bl (!PyData.eqv d e)) H) : rNeD K x y H Q :=
  ⟨d, e, dp_mono W.sub h1, dp_mono W.sub h2, shp_shaped s1, shp_shaped s2, q⟩
end
theorem Shp.mono {m n : Nat} {d : PyData} (h : Shp m d) (hn : m ≤ n) : Shp n d := ⟨h.1, Nat.le_trans h.2 hn⟩
end SB
namespace SB
open PySem PySem.Spec PyProof.Rows L2
/-! ### list + list, list * int -/
def rCatS (K : PySem.W.Frag) : R2 := fun x y H Q => ∃ l b xs zs, x = .ref l ∧ y = .ref b ∧ SqL K H l xs ∧ SqL K H b zs ∧ xs.length + zs.length ≤ sizeLine ∧ ∀ p, H p = none → Q (.ref p) (upd H p (.lst (xs ++ zs)))
theorem op_catS {X : Cx} : OpR X (binaryOp .Add) (rCatS X.K) := by
  intro pins s σ H x y v u Q I rx ry h
  obtain ⟨l, b, xs, zs, rfl, rfl, hH, hB, hz, q⟩ := h
  cases rx
  cases ry
  obtain ⟨its, r, p1, z1⟩ := I.list hH
  obtain ⟨its2, r2, p2, z2⟩ := I.list hB
  have hl := r.length
  have hl2 := r2.length
  obtain ⟨⟨cls, dd, data, sl⟩, n, ho, hc, hdn, hd⟩ := p1
  obtain ⟨⟨cls2, dd2, data2, sl2⟩, n2, ho2, hc2, hdn2, hd2⟩ := p2
  simp only at hc hd hc2 hd2
  subst hc hd hc2 hd2
  have e : its.toArray ++ its2.toArray = (its ++ its2).toArray := by simp
  refine concat_meets ⟨_, ho, rfl⟩ ⟨_, ho2, rfl⟩ noFill_list_add seq_list_add PySem.F.slot_list_add PySem.F.entry_list_add (PySem.F.args_list_add_2 _ _) (list_addW l b its.toArray its2.toArray n n2 dd dd2 sl sl2 (by rw [List.size_toArray, List.size_toArray]; omega)) ⟨ho, ho2, ?_⟩
  rw [e]
  exact ⟨.ref _, _, I.lnew (t' := s.toks) (r.append r2) (by rw [List.length_append]; omega), rfl, q _ I.fresh⟩
section
variable {K : PySem.W.Frag} {S H : Hp} {O : List (Addr × HO)} {Q : VK} {x y : V}
theorem x_catS {ds es : List PyData} (W : Wd K S H O) (h1 : Dp K S x (.list ds)) (h2 : Dp K S y (.list es)) (hl : ds.length + es.length ≤ 1000000) (k : ∀ S' H' v, Wd K S' H' O → Same S S' → Dp K S' v (.list (ds ++ es)) → Q v H') : rCatS K x y H Q := by
  obtain ⟨a, us, rfl, hq1, ha⟩ := dp_lst_ex h1
  obtain ⟨b, ws, rfl, hq2, hb⟩ := dp_lst_ex h2
  exact ⟨a, b, us, ws, rfl, rfl, W.lst hq1, W.lst hq2, sz (by rw [dpAll_len ha, dpAll_len hb]; exact hl), x_lst' W (dpAll_cat ha hb) k⟩
theorem flatten_rep {n : Nat} {v : V} : (List.replicate n [v]).flatten = List.replicate n v := by
  induction n with
  | zero => rfl
  | succ n ih => rw [List.replicate_succ, List.flatten_cons, ih]; rfl
/-- [v] * n: a new list that is ours; the first one is let go -/
theorem x_rep {p : Addr} {v : V} {n : Int} (W : Wd K S H ((p, .lst [v]) :: O)) (h0 : -1000000 ≤ n) (h1 : n ≤ 1000000) (k : ∀ S' H' q, Wd K S' H' ((q, .lst (List.replicate n.toNat v)) :: O) → Same S S' → Q (.ref q) H') : rRep (.ref p) (.int n) H Q := by
  refine ⟨p, n, [v], rfl, rfl, W.at 0 rfl, by omega, by omega, ?_, fun q hq => ?_⟩
  · show 1 * n.toNat ≤ sizeLine
    exact sz (by omega)
  · rw [flatten_rep]
    exact k _ _ q ((W.give 0 rfl).alloc hq) (same_new (W.atS 0 rfl))
end
end SB
/-! Comprehensions by what they give. -/
namespace SB
open PySem PySem.Spec PyProof.Rows L2
theorem fm_map {α β : Type} {xs : List α} {f : α → β} : xs.filterMap (fun z => some (f z)) = xs.map f := by
  induction xs with
  | nil => rfl
  | cons x r ih => simp only [List.filterMap_cons, List.map_cons, ih]
theorem fm_filt {α β : Type} {xs : List α} {p : α → Bool} {f : α → β} : xs.filterMap (fun z => if p z = true then some (f z) else none) = (xs.filter p).map f := by
  induction xs with
  | nil => rfl
  | cons x r ih =>
    cases h : p x
    · rw [List.filter_cons_of_neg (by rw [h]; exact Bool.false_ne_true), ← ih, List.filterMap_cons]
      simp only [h, Bool.false_eq_true, if_false]
    · rw [List.filter_cons_of_pos h, List.map_cons, ← ih, List.filterMap_cons]
      simp only [h, if_true]
section
variable {K : PySem.W.Frag} {S H : Hp} {O : List (Addr × HO)} {σ : L2.St} {Q : VK} {x y v : V} {tt : TT} {g : TG} {te : TE} {vs : List Nat}
theorem lc_map {α β : Type} {xs : List α} {f : α → PyData} (e : β → PyData) (G : α → β) (W : Wd K S H O) (hv : Dp K S x (.list (xs.map f))) (hlen : xs.length ≤ 1000000)
    (hs : ∀ z S' H' R acc N, z ∈ xs → Wd K S' H' ((R, .lst acc) :: O) → Same S S' → LcE K S' O R acc (some (e (G z))) N → Kn K S' (f z) fun u => LcB g tt te vs σ R N u H')
    (k : ∀ S' H' v, Wd K S' H' O → Same S S' → Dp K S' v (.list ((xs.map G).map e)) → Q v H') : LcL K g tt te vs σ Q x H :=
  lc_listS (fun z => some (e (G z))) W hv hlen hs fun S' H' v W' hS hv' => k S' H' v W' hS (by rw [fm_map] at hv'; rw [List.map_map]; exact hv')
theorem lc_filt {α β : Type} {xs : List α} {f : α → PyData} (e : β → PyData) (p : α → Bool) (G : α → β) (W : Wd K S H O) (hv : Dp K S x (.list (xs.map f))) (hlen : xs.length ≤ 1000000)
    (hs : ∀ z S' H' R acc N, z ∈ xs → Wd K S' H' ((R, .lst acc) :: O) → Same S S' → LcE K S' O R acc (if p z = true then some (e (G z)) else none) N → Kn K S' (f z) fun u => LcB g tt te vs σ R N u H')
    (k : ∀ S' H' v, Wd K S' H' O → Same S S' → Dp K S' v (.list (((xs.filter p).map G).map e)) → Q v H') : LcL K g tt te vs σ Q x H :=
  lc_listS (fun z => if p z = true then some (e (G z)) else none) W hv hlen hs fun S' H' v W' hS hv' => k S' H' v W' hS (by rw [fm_filt] at hv'; rw [List.map_map]; exact hv')
theorem lcr_map {β : Type} {j : Int} (e : β → PyData) (G : Nat → β) (W : Wd K S H O) (hj : -(2 ^ 62) ≤ j ∧ j ≤ 1000000)
    (hs : ∀ (z : Nat) S' H' R acc N, z < j.toNat → Wd K S' H' ((R, .lst acc) :: O) → Same S S' → LcE K S' O R acc (some (e (G z))) N → LcB g tt te vs σ R N (.int (z : Int)) H')
    (k : ∀ S' H' v, Wd K S' H' O → Same S S' → Dp K S' v (.list (((List.range j.toNat).map G).map e)) → Q v H') : LcR g tt te vs σ Q [.int j] H :=
  lc_rangeS (fun z => some (e (G z))) W hj hs fun S' H' v W' hS hv' => k S' H' v W' hS (by rw [fm_map] at hv'; rw [List.map_map]; exact hv')
theorem lcr_filt {β : Type} {j : Int} (e : β → PyData) (p : Nat → Bool) (G : Nat → β) (W : Wd K S H O) (hj : -(2 ^ 62) ≤ j ∧ j ≤ 1000000)
    (hs : ∀ (z : Nat) S' H' R acc N, z < j.toNat → Wd K S' H' ((R, .lst acc) :: O) → Same S S' → LcE K S' O R acc (if p z = true then some (e (G z)) else none) N → LcB g tt te vs σ R N (.int (z : Int)) H')
    (k : ∀ S' H' v, Wd K S' H' O → Same S S' → Dp K S' v (.list ((((List.range j.toNat).filter p).map G).map e)) → Q v H') : LcR g tt te vs σ Q [.int j] H :=
  lc_rangeS (fun z => if p z = true then some (e (G z)) else none) W hj hs fun S' H' v W' hS hv' => k S' H' v W' hS (by rw [fm_filt] at hv'; rw [List.map_map]; exact hv')
theorem lcz_map {α β γ : Type} {xs : List α} {ys : List β} {f : α → PyData} {h : β → PyData} {p q : Nat} (e : γ → PyData) (G : α × β → γ) (W : Wd K S H O) (hx : Dp K S x (.list (xs.map f))) (hy : Dp K S y (.list (ys.map h))) (hl : xs.length = ys.length) (hlen : xs.length ≤ 1000000)
    (hs : ∀ z w S' H' R acc N, (z, w) ∈ xs.zip ys → Wd K S' H' ((R, .lst acc) :: O) → Same S S' → LcE K S' O R acc (some (e (G (z, w)))) N → Kn K S' (f z) fun u => Kn K S' (h w) fun v =>
      tt (((wipe σ vs).set p (some u)).set q (some v)) H' fun b H3 => if b = true then te (((wipe σ vs).set p (some u)).set q (some v)) H3 fun y H4 => EndY R N y H4 else N H3)
    (k : ∀ S' H' v, Wd K S' H' O → Same S S' → Dp K S' v (.list (((xs.zip ys).map G).map e)) → Q v H')
    (ew : ∀ u v, wipe (((wipe σ vs).set p (some u)).set q (some v)) vs = wipe σ vs := by intros; rfl) : LcZ K (gTup K 2 (gCons (gName p) (gCons (gName q) gNil))) tt te vs σ Q [x, y] H :=
  lc_zipS (fun z => some (e (G z))) W hx hy hl hlen hs (fun S' H' v W' hS hv' => k S' H' v W' hS (by rw [fm_map] at hv'; rw [List.map_map]; exact hv')) ew
/-- in, not in: ints -/
theorem flat_ints (ns : List Int) : (ns.map V.int).all flatV = true := by
  rw [List.all_eq_true]
  intro z hz
  obtain ⟨i, _, rfl⟩ := List.mem_map.mp hz
  rfl
theorem inV_ints (i : Int) (ns : List Int) : inV (.int i) (ns.map V.int) = decide (i ∈ ns) := by
  unfold inV
  rw [Bool.eq_iff_iff, List.any_eq_true, decide_eq_true_iff]
  constructor
  · rintro ⟨z, hz, e⟩
    obtain ⟨j, hj, rfl⟩ := List.mem_map.mp hz
    have : j = i := by simpa [eqV] using e
    subst this
    exact hj
  · intro h
    exact ⟨.int i, List.mem_map_of_mem h, by simp [eqV]⟩
theorem x_inT {i : Int} {ns : List Int} {neg : Bool} (W : Wd K S H O) (h : Dp K S x (.tuple (ns.map PyData.int))) (q : Q (.bl (if neg then !decide (i ∈ ns) else decide (i ∈ ns))) H) : rIn K neg (.int i) x H Q := by
  obtain ⟨a, us, rfl, hq, ha⟩ := dp_tup_ex h
  rw [ints_of ha] at hq
  exact ⟨a, _, rfl, .inr (W.tup hq), rfl, flat_ints ns, by rw [inV_ints]; exact q⟩
theorem x_inL {i : Int} {ns : List Int} {neg : Bool} (W : Wd K S H O) (h : Dp K S x (.list (ns.map PyData.int))) (q : Q (.bl (if neg then !decide (i ∈ ns) else decide (i ∈ ns))) H) : rIn K neg (.int i) x H Q := by
  obtain ⟨a, us, rfl, hq, ha⟩ := dp_lst_ex h
  rw [ints_of ha] at hq
  exact ⟨a, _, rfl, .inl (W.lst hq), rfl, flat_ints ns, by rw [inV_ints]; exact q⟩
theorem x_inO {i : Int} {ns : List Int} {neg : Bool} {p : Addr} (n : Nat) (W : Wd K S H O) (h : O[n]? = some (p, .lst (ns.map V.int))) (q : Q (.bl (if neg then !decide (i ∈ ns) else decide (i ∈ ns))) H) : rIn K neg (.int i) (.ref p) H Q :=
  ⟨p, _, rfl, .inl (.of (W.at n h)), rfl, flat_ints ns, by rw [inV_ints]; exact q⟩
end
end SB
/-! Lists of ints that are ours. -/
namespace SB
open PySem PySem.Spec PyProof.Rows L2
section
variable {K : PySem.W.Frag} {S H : Hp} {O : List (Addr × HO)} {σ : L2.St} {Q : VK} {x y v : V}
theorem x_ixM {p : Addr} {xs : List Int} {i : Int} (n : Nat) (W : Wd K S H O) (h : O[n]? = some (p, .lst (xs.map V.int))) (h0 : 0 ≤ i) (h1 : i < xs.length) (k : Q (.int (nth xs i)) H) : rIx K (.ref p) (.int i) H Q :=
  x_ixO n W h (atI_map h0 h1) k
theorem x_setM {p : Addr} {xs : List Int} {i b : Int} {Q : Hp → Prop} (n : Nat) (W : Wd K S H O) (h : O[n]? = some (p, .lst (xs.map V.int))) (h0 : 0 ≤ i) (h1 : i < xs.length)
    (k : ∀ H', Wd K S H' (O.set n (p, .lst ((xs.set i.toNat b).map V.int))) → Q H') : rSetL (.ref p) (.int i) (.int b) H Q :=
  x_setO n W h (ixN_of h0 (by rw [List.length_map]; exact h1)) fun H' W' => k H' (by rw [List.map_set]; exact W')
theorem dpAll_intsV (ns : List Int) : DpAll K S (ns.map V.int) (ns.map PyData.int) := dpAll_ints ns
theorem flatten_repI {n : Nat} {i : Int} : List.replicate n (V.int i) = (List.replicate n i).map V.int := by
  rw [List.map_replicate]
theorem x_repI {p : Addr} {i n : Int} (W : Wd K S H ((p, .lst [.int i]) :: O)) (h0 : -1000000 ≤ n) (h1 : n ≤ 1000000) (k : ∀ S' H' q, Wd K S' H' ((q, .lst ((List.replicate n.toNat i).map V.int)) :: O) → Same S S' → Q (.ref q) H') : rRep (.ref p) (.int n) H Q :=
  x_rep W h0 h1 fun S' H' q W' hS => k S' H' q (by rw [← flatten_repI]; exact W') hS
end
end SB
namespace SB
open PySem PySem.Spec PyProof.Rows L2
theorem ne_true {c : Bool} (h : c = false) : ¬ c = true := by rw [h]; exact Bool.false_ne_true
section
variable {K : PySem.W.Frag} {S H : Hp} {O : List (Addr × HO)} {σ : L2.St} {Q : VK} {x y v : V} {g : TG} {tb : TS} {nx bk ct : L2.St → Hp → Prop} {rt : VK}
/-- one of ours, the first, stays from now on -/
theorem x_give {G : Prop} {p : Addr} {vs : List V} {ds : List PyData} (W : Wd K S H ((p, .lst vs) :: O)) (h : DpAll K S vs ds) (k : ∀ S', Wd K S' H O → Same S S' → Dp K S' (.ref p) (.list ds) → G) : G :=
  k _ (W.give 0 rfl) (same_new (W.atS 0 rfl)) (dp_give (W.atS 0 rfl) h)
theorem x_giveI {G : Prop} {p : Addr} {ns : List Int} (W : Wd K S H ((p, .lst (ns.map V.int)) :: O)) (k : ∀ S', Wd K S' H O → Same S S' → Dp K S' (.ref p) (.list (ns.map PyData.int)) → G) : G :=
  x_give W (dpAll_ints ns) k
/-- over range(len(xs)) -/
theorem x_forNL {α β : Type} {xs : List α} {f : α → β} (J : Nat → L2.St → Hp → Prop) (hl : xs.length ≤ 1000000) (h0 : J 0 σ H)
    (hs : ∀ (i : Nat) σ' H', i < xs.length → J i σ' H' → g (.int (i : Int)) σ' H' fun σ2 H2 => tb ⟨J (i + 1), rt, nx, J (i + 1)⟩ σ2 H2) (hd : ∀ σ' H', J xs.length σ' H' → nx σ' H') : ForR g tb ⟨nx, rt, bk, ct⟩ [.int (((xs.map f).length : Nat) : Int)] σ H := by
  have e : (((xs.map f).length : Nat) : Int).toNat = xs.length := by rw [List.length_map]; exact Int.toNat_natCast _
  refine x_forN J (by rw [List.length_map]; omega) h0 (fun i σ' H' hi h => hs i σ' H' (by rw [e] at hi; exact hi) h) (fun σ' H' h => hd σ' H' (by rw [e] at h; exact h))
end
end SB
/-! ### rules with the fragment named, for what stands in a comprehension -/
namespace SB
open PySem PySem.Spec PyProof.Rows L2
section
variable {X : Cx} {K : PySem.W.Frag}
theorem ixa (e : X.K = K) : IxR X (rIx K) := e ▸ ix_seq
theorem lena (e : X.K = K) : CallR X (.builtin "len") (rLen K) := e ▸ cl_len
theorem lista (e : X.K = K) : CallR X (.type "list") (rLst K) := e ▸ cl_list
theorem suma (e : X.K = K) (hc : X.calm = true) : CallR X (.builtin "sum") (rSum K) := e ▸ cr_sum hc
theorem alla (e : X.K = K) (hc : X.calm = true) : CallR X (.builtin "all") (rAll K) := e ▸ cr_all hc
theorem anya (e : X.K = K) (hc : X.calm = true) : CallR X (.builtin "any") (rAny K) := e ▸ cr_any hc
theorem maxa (e : X.K = K) (hc : X.calm = true) : CallR X (.builtin "max") (rMax K) := e ▸ cr_max hc
theorem mina (e : X.K = K) (hc : X.calm = true) : CallR X (.builtin "min") (rMin K) := e ▸ cr_min hc
theorem isia (e : X.K = K) : CallR X (.builtin "isinstance") (rIsi K) := e ▸ call_isi
theorem ina (e : X.K = K) : OpR X (compareOp .In) (rIn K false) := e ▸ op_in_seq
theorem notIna (e : X.K = K) : OpR X (compareOp .NotIn) (rIn K true) := e ▸ op_notIn_seq
theorem catSa (e : X.K = K) : OpR X (binaryOp .Add) (rCatS K) := e ▸ op_catS
theorem slLa (e : X.K = K) : SlR X (rSlL K) := e ▸ sl_list
theorem slTa (e : X.K = K) : SlR X (rSlT K) := e ▸ sl_tup
theorem eqDa (e : X.K = K) (hu : X.A.units + 64 < cLine) : OpR X (compareOp .Eq) (rEqD K) := e ▸ op_eqD hu
theorem neDa (e : X.K = K) (hu : X.A.units + 64 < cLine) : OpR X (compareOp .NotEq) (rNeD K) := e ▸ op_neD hu
theorem trutha (e : X.K = K) {a : Expr} {ta : TE} (ha : PE X a ta) (he : ∀ whole, isTrue a X.env whole = (do let v ← whole; standAt a.pos; holding [v] (truthy v))) : PT X a (tTr K ta) := e ▸ pl_truth ha he
theorem tupa (e : X.K = K) {pos : Pos} {es : List Expr} {k : Nat} {t : TGs} {n : Nat} (hc : X.calm = true) (h : PGs X es t)
    (hn : (assignEach es X.env).length = n := by rfl) (hst : (assignEach es X.env).findIdx? (·.1) = none := by rfl) : PG X (.Tuple es k pos) (gTup K n t) := e ▸ pg_tup hc h hn hst
end
end SB
/-! ### where ways meet -/
namespace SB
open PySem PySem.Spec PyProof.Rows L2
section
variable {K : PySem.W.Frag} {S H : Hp} {O : List (Addr × HO)} {σ : L2.St} {Q : VK} {x y v : V} {tt : TT} {t u : TS} {nx bk ct : L2.St → Hp → Prop} {rt : VK}
theorem x_ifJ (J : L2.St → Hp → Prop) (h : ∀ nx' : L2.St → Hp → Prop, (∀ σ' H', J σ' H' → nx' σ' H') → tt σ H fun b H1 => if b = true then t ⟨nx', rt, bk, ct⟩ σ H1 else u ⟨nx', rt, bk, ct⟩ σ H1)
    (hd : ∀ σ' H', J σ' H' → nx σ' H') : tIfS tt t u ⟨nx, rt, bk, ct⟩ σ H := h nx hd
theorem x_cutV {t : TE} (J : V → Hp → Prop) (h : ∀ Q' : VK, (∀ v H', J v H' → Q' v H') → t σ H Q') (hd : ∀ v H', J v H' → Q v H') : t σ H Q := h Q hd
theorem x_isB {a b : Bool} (q : Q (.bl (decide (a = b))) H) : rIsB (.bl a) (.bl b) H Q := ⟨a, b, rfl, rfl, q⟩
theorem x_notB {a b : Bool} (q : Q (.bl (!decide (a = b))) H) : rNotB (.bl a) (.bl b) H Q := ⟨a, b, rfl, rfl, q⟩
end
end SB
/-! set(xs) of a list of ints; sorted and len of it. -/
namespace SB
open PySem PySem.Spec PyProof.Rows L2
section
variable {P : Program} {w : World} {A : Around} {E : Value → Shared → Prop} {s : Shared}
/-- a set that was made just now -/
abbrev setZ (w : World) : Obj := { cls := .type "set", dict := none, data := .set #[] 0 (.fresh 0 0 (!w.params.followText "set-order")) }
set_option maxHeartbeats 3200000 in
theorem set_of_list {l : Addr} {items : Array Value} (ns : List Int) {Q : Value → Shared → Prop} (hh : A.handled = none) (hl : s.heap.IsList l items) (hit : IntsAre items.toList ns) (hb : ns.length + 1 < scanBound)
    (h : ∀ (h' : Heap) (tk c : Nat), SetR w h' s.heap.objs.size (fun j => decide (j ∈ ns)) c → c ≤ ns.length → (∀ b o, s.heap.get? b = some o → h'.get? b = some o) → Q (.ref s.heap.objs.size) { s with heap := h', toks := tk }) :
    wpAny (model P w) A (call (.type "set") [.ref l]) Q E s := by
  have hsz : items.size = ns.length := by
    have q := IntsAre.length hit
    rw [Array.length_toList] at q
    exact q
  obtain ⟨c, tl, hmro⟩ := F.called_set.mro
  have hmade := F.called_set.made
  have hsub := F.called_set.sub
  refine wpAny_call (codeAny_of_tree ?_)
  show wpAny _ _ (callAny (.type "set") _) _ _ _
  refine wpAny_pure ⟨Code.quiet_builtin _ (by decide +kernel), codeAny_builtin F.entry_type_call ?_⟩
  rw [Around.under_plain (weight_type_call_type "set" [.ref l] []) rfl]
  have h1 := F.called_set.notType
  have h2 := F.called_set.canCreate
  have hct := F.typeCall_set_1 (.ref l)
  repeat (any_goals (first | assumption | wp_step))
  refine codeAny_mono (code_set_led1 (.ref l) (E := E) (Q₁ := fun obj s₁ => obj = .ref s.heap.objs.size ∧ s₁ = { s with heap := s.heap.push (setZ w) }) ⟨rfl, rfl⟩) fun r s₁ hr => ?_
  match r, hr with
  | .error e, hr => exact hr
  | .ok (.ret obj), hr =>
    obtain ⟨rfl, rfl⟩ := hr
    have hS : (s.heap.push (setZ w)).get? s.heap.objs.size = some (setZ w) := Heap.get?_push_size _ rfl
    have hT : Shared.TypeIs { s with heap := s.heap.push (setZ w) } (.ref s.heap.objs.size) "set" := ⟨_, hS, rfl⟩
    have hli := F.called_set.init.lookup
    have hbi := F.called_set.init.bind (.ref s.heap.objs.size)
    repeat (any_goals (first | assumption | wp_step))
    refine codeAny_mono (codeAny_call_builtin (R := wants (fun r s₂ => r = .none ∧ ∃ h' tk c, s₂ = { s with heap := h', toks := tk } ∧ SetR w h' s.heap.objs.size (fun j => decide (j ∈ ns)) c ∧ c ≤ ns.length ∧
        (∀ b o, s.heap.get? b = some o → h'.get? b = some o)) E) F.called_set.init.plain F.entry_set_init (check_set_init_1 hT ?_)) fun r₂ s₂ hr₂ => ?_
    · obtain ⟨⟨ocls, odict, odata, oslots⟩, hol, hcl, nl, hdl⟩ := hl
      simp only at hcl hdl
      subst hcl
      subst hdl
      have hol' : (s.heap.push (setZ w)).get? l = some { cls := .type "list", dict := odict, data := .seq items nl, slots := oslots } := Heap.get?_push_of_some _ hol
      have g1 := F.sub_list_set
      have g2 := F.sub_list_frozenset
      have hne : (Value.type "list" == Value.type "dict") = false := by decide
      have hl1 : (s.heap.push (setZ w)).IsList l items := ⟨_, hol', rfl, nl, rfl⟩
      unfold Builtin.«set.__init__» noKeywords Builtin.Frozenset.updateFrom
      generalize hPI : pyIter = PI
      wp_walk
      subst hPI
      refine wpAny_pyIter_list hl1 ?_
      refine wpAny_bind (wpAny_runValue ?_)
      have hlS : l < s.heap.objs.size := Heap.lt_size hol
      have hh3 : A.in1.in1.in1.handled = none := by simp [hh]
      have hz : (s.heap.push (setZ w)).objs.size = s.heap.objs.size + 1 := Heap.size_push ..
      have hSf : s.heap.objs.size ∉ [(s.heap.push (setZ w)).objs.size, l] := by
        rw [hz]
        simp only [List.mem_cons, List.not_mem_nil, or_false, not_or]
        exact ⟨Nat.ne_of_lt (Nat.lt_succ_self _), Nat.ne_of_gt hlS⟩
      have hval : ∀ (i : Nat) (v : Value), items[i]? = some v → ∃ k t, ns[i]? = some k ∧ v = .int k t := fun i v hv => by
        have hi : i < ns.length := by rw [← hsz]; exact (Array.getElem?_eq_some_iff.mp hv).1
        obtain ⟨t, e⟩ := PyProof.Rows.IntsAre.int_at hit i v (by rw [Array.getElem?_toList]; exact hv)
        refine ⟨ns[i], t, List.getElem?_eq_getElem hi, ?_⟩
        rw [e, List.getD_eq_getElem?_getD, List.getElem?_eq_getElem hi]
        rfl
      refine set_update_ints ((Walks.list hh3 _ l (by rw [hz]; exact Nat.ne_of_lt (Nat.lt_succ_of_lt hlS)) items).toS) s.heap.objs.size hSf ns hsz hb hval (items.size - 0) 0 _ (by omega) (Nat.zero_le _)
        ⟨⟨_, Heap.get?_push_size _ rfl, rfl, rfl⟩, (hl1.push _)⟩ ⟨0, Nat.le_refl 0, setR_new_at (Heap.get?_push_of_some _ hS)⟩ (fun s' c' hm hc' hS' => ?_)
      obtain ⟨h', gs, dr, tk', os'⟩ := s'
      have eg : gs = s.gens := hm.gens
      have ed : dr = s.drawn := hm.drawn
      have eo : os' = s.os := hm.os
      subst eg ed eo
      show wpAny _ _ _ _ _ _
      refine wpAny_pure ?_
      show wpAny _ _ (ret Value.none) _ _ _
      rw [hsz] at hc'
      refine wpAny_pure ⟨rfl, h', tk', c', rfl, hS', hc', fun b o e => ?_⟩
      have hb0 : b < s.heap.objs.size := Heap.lt_size e
      refine hm.heap b o ?_ (Heap.get?_push_of_some _ (Heap.get?_push_of_some _ e))
      rw [hz]
      simp only [List.mem_cons, List.not_mem_nil, or_false, not_or]
      exact ⟨Nat.ne_of_lt hb0, Nat.ne_of_lt (Nat.lt_succ_of_lt hb0)⟩
    · match r₂, hr₂ with
      | .error e, hr₂ => exact hr₂
      | .ok (.ret r), hr₂ =>
        obtain ⟨rfl, h', tk, c', rfl, hS', hc', hk⟩ := hr₂
        repeat (any_goals (first | assumption | wp_step))
        exact h _ _ _ hS' hc' hk
end
/-! ### the rules -/
section
variable {X : Cx} {K : PySem.W.Frag} {w : World}
def rSetL (K : PySem.W.Frag) (w : World) : List V → Hp → VK → Prop := fun xs H Q => ∃ (p : Addr) (ns : List Int), xs = [.ref p] ∧ SqL K H p (ns.map V.int) ∧ ns.length ≤ 1000 ∧ ∀ q c, H q = none → c ≤ ns.length → Q (.ref q) (upd H q (SetO w q (fun j => decide (j ∈ ns)) c))
theorem cl_setL (e : X.K = K) (ew : X.w = w) (hc : X.calm = true) : CallR X (.type "set") (rSetL K w) := by
  subst e
  subst ew
  intro pins s σ H xs us Q I r h
  obtain ⟨l, ns, rfl, hl, hn, q⟩ := h
  rw [Vals.ref1 r]
  obtain ⟨its, rv, pl, hz⟩ := I.list hl
  have hf : H s.heap.objs.size = none := I.hok.fresh (Nat.le_refl _)
  refine set_of_list (P := X.prog) (w := X.w) ns (I.ok.hd hc) pl.isList (by simpa using rv.ints) (by unfold scanBound; omega) fun h' tk c R hcn k => ?_
  exact ⟨.ref s.heap.objs.size, upd H s.heap.objs.size (SetO X.w s.heap.objs.size _ c), I.laid (t' := tk) k (Nat.le_refl _) (setO_new R), rfl, q _ c hf hcn⟩
theorem cl_sortedSet (ew : X.w = w) (hc : X.calm = true) : CallR X (.builtin "sorted") (rSortedSet w) := by
  subst ew
  exact cr_sortedSet hc
end
def rLenSet (w : World) : List V → Hp → VK → Prop := fun xs H Q => ∃ (a : Addr) (S : Int → Bool) (n : Nat), xs = [.ref a] ∧ H a = some (SetO w a S n) ∧ n ≤ 1000 ∧ ∀ ks : List Int, ks.Nodup → (∀ k, k ∈ ks ↔ S k = true) → ks.length = n → Q (.int (n : Nat)) H
theorem cl_lenSet {X : Cx} {w : World} (ew : X.w = w) : CallR X (.builtin "len") (rLenSet w) := by
  subst ew
  intro pins s σ H xs us Q I r h
  obtain ⟨a, S, n, rfl, hH, hn, q⟩ := h
  obtain ⟨u, rfl, rx⟩ := vals1 r
  cases rx
  obtain ⟨o, es, ep, t, ho, hex, hd, g, nd, hm, hb, hf, hsz, hr, hl⟩ := setO_get I hH
  exact call_len_set ho hex hd hf (by omega) ⟨.int n, H, I.tok _, ⟨_, by rw [hsz]⟩, q _ nd (fun k => (hm k).symm) (by rw [List.length_map, Array.length_toList]; exact hsz)⟩
section
variable {K : PySem.W.Frag} {w : World} {S H : Hp} {O : List (Addr × HO)} {Q : VK} {x y v : V}
/-- set(xs): a set of the members, ours -/
theorem x_setL {ns : List Int} (W : Wd K S H O) (h : Dp K S x (.list (ns.map PyData.int))) (hl : ns.length ≤ 1000) (k : ∀ p H' c, c ≤ ns.length → Wd K S H' ((p, SetO w p (fun j => decide (j ∈ ns)) c) :: O) → Q (.ref p) H') : rSetL K w [x] H Q := by
  obtain ⟨a, us, rfl, hq, ha⟩ := dp_lst_ex h
  rw [ints_of ha] at hq
  exact ⟨a, ns, rfl, W.lst hq, hl, fun q c hq hc => k q _ c hc (W.alloc hq)⟩
/-- len(s) -/
theorem x_lenSet {ns : List Int} {p : Addr} {c : Nat} (W : Wd K S H ((p, SetO w p (fun j => decide (j ∈ ns)) c) :: O)) (hc : c ≤ 1000) (k : ∀ ks : List Int, ks.Nodup → (∀ j, j ∈ ks ↔ j ∈ ns) → ks.length = c → Q (.int (c : Nat)) H) : rLenSet w [.ref p] H Q :=
  ⟨p, _, c, rfl, W.at 0 rfl, hc, fun ks h1 h2 h3 => k ks h1 (fun j => (h2 j).trans decide_eq_true_iff) h3⟩
/-- sorted(s): what was sought, rising; the set is let go -/
theorem x_sortedSet {ns : List Int} {p : Addr} {c : Nat} (W : Wd K S H ((p, SetO w p (fun j => decide (j ∈ ns)) c) :: O)) (hc : c < 64)
    (k : ∀ S' H' v (zs : List Int), Wd K S' H' O → Same S S' → Dp K S' v (.list (zs.map PyData.int)) → zs.Pairwise (· < ·) → (∀ j, j ∈ zs ↔ j ∈ ns) → Q v H') : rSortedSet w [.ref p] H Q := by
  refine ⟨p, _, c, rfl, W.at 0 rfl, hc, fun zs q h1 h2 h3 hq => ?_⟩
  have W1 := W.give 0 rfl
  exact k _ _ _ zs (W1.new hq (o := .lst (zs.map V.int))) ((same_new (W.atS 0 rfl)).trans (same_new (W1.frS hq))) (.lst (.of upd_same) (dpAll_ints zs)) h1 fun j => (h2 j).trans decide_eq_true_iff
end
end SB
/-! dicts with int keys; pop(0), min, sorted of a dict. -/
namespace SB
open PySem PySem.Spec PyProof.Rows L2
/-! ### look, plain -/
def look {β : Type} (kvs : List (Int × β)) (k : Int) : Option β := (kvs.find? fun p => decide (p.1 = k)).map (·.2)
section
variable {β : Type}
theorem look_cons {p : Int × β} {r : List (Int × β)} {k : Int} : look (p :: r) k = if p.1 = k then some p.2 else look r k := by
  unfold look
  rw [List.find?_cons]
  by_cases h : p.1 = k
  · rw [if_pos h, decide_eq_true h]
    rfl
  · rw [if_neg h, decide_eq_false h]
theorem look_app {kvs : List (Int × β)} {c k : Int} {b : β} : look (kvs ++ [(c, b)]) k = match look kvs k with | some x => some x | none => if c = k then some b else none := by
  induction kvs with
  | nil => rw [List.nil_append, look_cons]; rfl
  | cons p r ih =>
    rw [List.cons_append, look_cons, look_cons]
    by_cases h : p.1 = k
    · rw [if_pos h, if_pos h]
    · rw [if_neg h, if_neg h, ih]
theorem look_app_old {kvs : List (Int × β)} {c k : Int} {b x : β} (h : look kvs k = some x) : look (kvs ++ [(c, b)]) k = some x := by rw [look_app, h]
theorem look_app_new {kvs : List (Int × β)} {c : Int} {b : β} (h : look kvs c = none) : look (kvs ++ [(c, b)]) c = some b := by rw [look_app, h]; exact if_pos rfl
theorem look_app_ne {kvs : List (Int × β)} {c k : Int} {b : β} (h : c ≠ k) : look (kvs ++ [(c, b)]) k = look kvs k := by
  rw [look_app, if_neg h]
  cases look kvs k <;> rfl
theorem look_none {kvs : List (Int × β)} {k : Int} : look kvs k = none ↔ k ∉ kvs.map (·.1) := by
  induction kvs with
  | nil => simp [look]
  | cons p r ih =>
    rw [look_cons, List.map_cons, List.mem_cons, not_or]
    by_cases h : p.1 = k
    · rw [if_pos h]
      simp [h.symm]
    · rw [if_neg h, ih]
      simp [Ne.symm h]
theorem look_isSome {kvs : List (Int × β)} {k : Int} : (look kvs k).isSome = true ↔ k ∈ kvs.map (·.1) := by
  have := look_none (kvs := kvs) (k := k)
  cases e : look kvs k with
  | none => rw [e] at this; simp at this ⊢; exact this
  | some x => rw [e] at this; simp at this ⊢; exact this
end
/-! ### a dict of data -/
def mkD (kvs : List (Int × V)) : HO := .dK (kvs.map fun p => (Sum.inl p.1, p.2))
def DKV (K : PySem.W.Frag) (S : Hp) {β : Type} (e : β → PyData) : List (Int × V) → List (Int × β) → Prop
  | [], [] => True
  | p :: r, q :: r' => p.1 = q.1 ∧ Dp K S p.2 (e q.2) ∧ DKV K S e r r'
  | _, _ => False
section
variable {K : PySem.W.Frag} {S S' H : Hp} {O : List (Addr × HO)} {Q : VK} {x y v : V} {β : Type} {e : β → PyData}
theorem dkv_mono (hs : Same S S') : ∀ {kvs : List (Int × V)} {xs : List (Int × β)}, DKV K S e kvs xs → DKV K S' e kvs xs
  | [], [], _ => trivial
  | _ :: _, _ :: _, h => ⟨h.1, dp_mono hs h.2.1, dkv_mono hs h.2.2⟩
  | [], _ :: _, h => h.elim
  | _ :: _, [], h => h.elim
theorem dkv_app {c : Int} {b : β} (hd : Dp K S v (e b)) : ∀ {kvs : List (Int × V)} {xs : List (Int × β)}, DKV K S e kvs xs → DKV K S e (kvs ++ [(c, v)]) (xs ++ [(c, b)])
  | [], [], _ => ⟨rfl, hd, trivial⟩
  | _ :: _, _ :: _, h => ⟨h.1, h.2.1, dkv_app hd h.2.2⟩
  | [], _ :: _, h => h.elim
  | _ :: _, [], h => h.elim
theorem dkv_len : ∀ {kvs : List (Int × V)} {xs : List (Int × β)}, DKV K S e kvs xs → kvs.length = xs.length
  | [], [], _ => rfl
  | _ :: _, _ :: _, h => by rw [List.length_cons, List.length_cons, dkv_len h.2.2]
  | [], _ :: _, h => h.elim
  | _ :: _, [], h => h.elim
theorem dkv_keys : ∀ {kvs : List (Int × V)} {xs : List (Int × β)}, DKV K S e kvs xs → kvs.map (·.1) = xs.map (·.1)
  | [], [], _ => rfl
  | _ :: _, _ :: _, h => by rw [List.map_cons, List.map_cons, dkv_keys h.2.2, h.1]
  | [], _ :: _, h => h.elim
  | _ :: _, [], h => h.elim
theorem dkv_look {k : Int} : ∀ {kvs : List (Int × V)} {xs : List (Int × β)}, DKV K S e kvs xs → (look xs k = none ∧ look kvs k = none) ∨ ∃ b v, look xs k = some b ∧ look kvs k = some v ∧ Dp K S v (e b)
  | [], [], _ => .inl ⟨rfl, rfl⟩
  | p :: r, q :: r', h => by
    rw [look_cons, look_cons, ← h.1]
    by_cases hk : p.1 = k
    · rw [if_pos hk, if_pos hk]
      exact .inr ⟨_, _, rfl, rfl, h.2.1⟩
    · rw [if_neg hk, if_neg hk]
      exact dkv_look h.2.2
  | [], _ :: _, h => h.elim
  | _ :: _, [], h => h.elim
theorem valV_mkD {k : Int} : ∀ {kvs : List (Int × V)}, valV (kvs.map fun p => ((Sum.inl p.1 : Key), p.2)) (.inl k) = look kvs k
  | [] => rfl
  | p :: r => by
    rw [List.map_cons, look_cons]
    by_cases hk : p.1 = k
    · rw [if_pos hk, valV_pos (by rw [hk])]
    · rw [if_neg hk, valV_neg (by simpa using hk), valV_mkD]
theorem putK_mkD {k : Int} {kvs : List (Int × V)} (h : look kvs k = none) : putK (kvs.map fun p => ((Sum.inl p.1 : Key), p.2)) (.inl k) v = (kvs ++ [(k, v)]).map fun p => ((Sum.inl p.1 : Key), p.2) := by
  unfold putK
  rw [valV_any, valV_mkD, h]
  simp
/-! ### readings with names -/
def DinR (Q : VK) (y x : V) (H : Hp) : Prop := ∃ a o, x = .ref a ∧ DGet H a y o ∧ Q (.bl o.isSome) H
def DninR (Q : VK) (y x : V) (H : Hp) : Prop := ∃ a o, x = .ref a ∧ DGet H a y o ∧ Q (.bl (!o.isSome)) H
def DgetR (Q : VK) (y x : V) (H : Hp) : Prop := ∃ a v, x = .ref a ∧ DGet H a y (some v) ∧ Q v H
def DputR (N : Hp → Prop) (v y x : V) (H : Hp) : Prop := ∃ a H4, x = .ref a ∧ DPut H a y v H4 ∧ N H4
def DispR (Q : VK) (p : Addr) (x y : V) (H2 : Hp) : Prop := H2 p = some (.dK []) ∧ ∃ kvs : List (Key × V), [(x, y)] = kvs.map (fun kv => (kV kv.1, kv.2)) ∧ kvs.length ≤ 15 ∧ Q (.ref p) (upd H2 p (.dK (mergeK [] kvs)))
variable {td ty tv tk : TE} {σ : L2.St} {nx bk ct : L2.St → Hp → Prop} {rt : VK}
theorem x_din (h : ty σ H fun y H1 => td σ H1 fun x H2 => DinR Q y x H2) : tDIn ty td σ H Q := h
theorem x_dnin (h : ty σ H fun y H1 => td σ H1 fun x H2 => DninR Q y x H2) : tDNotIn ty td σ H Q := h
theorem x_dget (h : td σ H fun x H1 => ty σ H1 fun y H2 => DgetR Q y x H2) : tDGet td ty σ H Q := h
theorem x_dput (h : tv σ H fun v H1 => td σ H1 fun x H2 => ty σ H2 fun y H3 => DputR (fun H4 => nx σ H4) v y x H3) : sDPut td ty tv ⟨nx, rt, bk, ct⟩ σ H := h
theorem x_disp (W : Wd K S H O) (h : ∀ p H', Wd K S H' ((p, .dK []) :: O) → tk σ H' fun x H1 => tv σ H1 fun y H2 => DispR Q p x y H2) : tDisp [(tk, tv)] σ H Q := fun p hp => h p _ (W.alloc hp)
theorem x_disp1 {p : Addr} {i : Int} (W : Wd K S H ((p, .dK []) :: O)) (k : ∀ H', Wd K S H' ((p, mkD [(i, v)]) :: O) → Q (.ref p) H') : DispR Q p (.int i) v H :=
  ⟨W.at 0 rfl, [(.inl i, v)], rfl, by simp, k _ (W.put 0 rfl)⟩
theorem dget_rd {p : Addr} {kvs : List (Int × V)} {i : Int} (h : H p = some (mkD kvs)) : DGet H p (.int i) (look kvs i) := .inl ⟨_, .inl i, .inl h, rfl, valV_mkD.symm⟩
/-- of one of ours, or of one that stays -/
theorem x_dinH {p : Addr} {kvs : List (Int × V)} {xs : List (Int × β)} {i : Int} (h : H p = some (mkD kvs)) (r : DKV K S e kvs xs) (q : Q (.bl (look xs i).isSome) H) : DinR Q (.int i) (.ref p) H := by
  refine ⟨p, _, rfl, dget_rd h, ?_⟩
  rcases dkv_look (k := i) r with ⟨e1, e2⟩ | ⟨b, v, e1, e2, _⟩ <;> rw [e2] <;> rw [e1] at q <;> exact q
theorem x_dninH {p : Addr} {kvs : List (Int × V)} {xs : List (Int × β)} {i : Int} (h : H p = some (mkD kvs)) (r : DKV K S e kvs xs) (q : Q (.bl (!(look xs i).isSome)) H) : DninR Q (.int i) (.ref p) H := by
  refine ⟨p, _, rfl, dget_rd h, ?_⟩
  rcases dkv_look (k := i) r with ⟨e1, e2⟩ | ⟨b, v, e1, e2, _⟩ <;> rw [e2] <;> rw [e1] at q <;> exact q
theorem x_dgetH {p : Addr} {kvs : List (Int × V)} {xs : List (Int × β)} {i : Int} {b : β} (h : H p = some (mkD kvs)) (r : DKV K S e kvs xs) (hb : look xs i = some b) (q : Kn K S (e b) fun u => Q u H) : DgetR Q (.int i) (.ref p) H := by
  rcases dkv_look (k := i) r with ⟨e1, e2⟩ | ⟨b', v, e1, e2, hd⟩
  · rw [e1] at hb; cases hb
  · rw [e1] at hb
    cases hb
    exact ⟨p, v, rfl, by rw [← e2]; exact dget_rd h, q.of v hd⟩
theorem x_dputO {p : Addr} {kvs : List (Int × V)} {i : Int} {N : Hp → Prop} (n : Nat) (W : Wd K S H O) (h : O[n]? = some (p, mkD kvs)) (hn : look kvs i = none) (hl : kvs.length ≤ 1000000) (k : ∀ H', Wd K S H' (O.set n (p, mkD (kvs ++ [(i, v)]))) → N H') : DputR N v (.int i) (.ref p) H := by
  refine ⟨p, _, rfl, .inl ⟨_, .inl i, W.at n h, rfl, szl (by rw [List.length_map]; exact hl), rfl⟩, ?_⟩
  rw [putK_mkD hn]
  exact k _ (W.put n h)
theorem dkv_none {k : Int} {kvs : List (Int × V)} {xs : List (Int × β)} (r : DKV K S e kvs xs) (h : look xs k = none) : look kvs k = none := by
  rcases dkv_look (k := k) r with ⟨_, e2⟩ | ⟨b, v, e1, _⟩
  · exact e2
  · rw [e1] at h; cases h
/-- a dict of ours stays from now on -/
theorem x_giveD {G : Prop} {p : Addr} {o : HO} (W : Wd K S H ((p, o) :: O)) (k : ∀ S', Wd K S' H O → Same S S' → S' p = some o → G) : G :=
  k _ (W.give 0 rfl) (same_new (W.atS 0 rfl)) upd_same
/-! ### sorted(d), pop(0), min -/
def rSortD : List V → Hp → VK → Prop := fun xs H Q => ∃ (a : Addr) (kvs : List (Key × V)) (ks : List Int), xs = [.ref a] ∧ Rd H a (.dK kvs) ∧ kvs.map (·.1) = ks.map Sum.inl ∧ ks.length < 64 ∧
    ∀ (ys : List Int) (p : Addr), ys.Perm ks → ys.Pairwise (· ≤ ·) → H p = none → Q (.ref p) (upd H p (.lst (ys.map V.int)))
theorem cl_sortedD {X : Cx} (hc : X.calm = true) : CallR X (.builtin "sorted") rSortD := call_sortedDI hc
theorem x_sortedD {p : Addr} {kvs : List (Int × V)} {xs : List (Int × β)} (W : Wd K S H O) (h : H p = some (mkD kvs)) (r : DKV K S e kvs xs) (hl : xs.length < 64)
    (k : ∀ S' H' v (ys : List Int), Wd K S' H' O → Same S S' → Dp K S' v (.list (ys.map PyData.int)) → ys.Perm (xs.map (·.1)) → ys.Pairwise (· ≤ ·) → Q v H') : rSortD [.ref p] H Q := by
  refine ⟨p, _, xs.map (·.1), rfl, .inl h, ?_, by rw [List.length_map]; exact hl, fun ys q h1 h2 hq => ?_⟩
  · rw [← dkv_keys r, List.map_map, List.map_map]
    rfl
  · exact k _ _ _ ys (W.new hq (o := .lst (ys.map V.int))) (same_new (W.frS hq)) (.lst (.of upd_same) (dpAll_ints ys)) h1 h2
theorem x_pop0 {p : Addr} {u : V} {vs : List V} (n : Nat) (W : Wd K S H O) (h : O[n]? = some (p, .lst (u :: vs))) (k : ∀ H', Wd K S H' (O.set n (p, .lst vs)) → Q u H') : rPopAt (.ref p) [.int 0] H Q :=
  ⟨p, u :: vs, 0, 0, u, rfl, rfl, W.at n h, by decide, by decide, by
    unfold seqIndex?
    simp, rfl, k _ (W.put n h)⟩
theorem x_min {ns : List Int} (W : Wd K S H O) (h : Dp K S x (.list (ns.map PyData.int))) (hl : 0 < ns.length) (q : ∀ m, m ∈ ns → (∀ y ∈ ns, m ≤ y) → Q (.int m) H) : rMin K [x] H Q := by
  obtain ⟨a, us, rfl, hq, ha⟩ := dp_lst_ex h
  rw [ints_of ha] at hq
  exact ⟨a, ns, rfl, W.lst hq, hl, q⟩
end
end SB
namespace SB
open PySem PySem.Spec PyProof.Rows L2
theorem pe_globI {X : Cx} {x : Str} {n : Int} {t : Tok} {pos : Pos} (hg : Gl X x) (hm : X.mg x = some (.int n t)) (hd : (x == ("__debug__" : Str)) = false := by decide) : PE X (.Name x pos) (tC (.int n)) := pe_glob (v := .int n) hg hm ⟨t, rfl⟩ hd
end SB
namespace SB
open PySem PySem.Spec PyProof.Rows L2
section
variable {K : PySem.W.Frag} {S H : Hp} {O : List (Addr × HO)} {Q : VK} {a b c : Addr × HO}
theorem x_ixM0 {p : Addr} {xs : List Int} {i : Int} {n : Nat} (W : Wd K S H O) (h : O[n]? = some (p, .lst (xs.map V.int))) (h0 : 0 ≤ i) (h1 : i < xs.length) (k : Q (.int (nth xs i)) H) : rIx K (.ref p) (.int i) H Q := x_ixM n W h h0 h1 k
theorem x_ixM1 {p : Addr} {xs : List Int} {i : Int} {n : Nat} (W : Wd K S H (a :: O)) (h : O[n]? = some (p, .lst (xs.map V.int))) (h0 : 0 ≤ i) (h1 : i < xs.length) (k : Q (.int (nth xs i)) H) : rIx K (.ref p) (.int i) H Q := x_ixM (n + 1) W h h0 h1 k
theorem x_ixM2 {p : Addr} {xs : List Int} {i : Int} {n : Nat} (W : Wd K S H (a :: b :: O)) (h : O[n]? = some (p, .lst (xs.map V.int))) (h0 : 0 ≤ i) (h1 : i < xs.length) (k : Q (.int (nth xs i)) H) : rIx K (.ref p) (.int i) H Q := x_ixM (n + 2) W h h0 h1 k
end
end SB
/-! instances that are ours; insert. -/
namespace SB
open PySem PySem.Spec PyProof.Rows L2
section
variable {K : PySem.W.Frag} {S H : Hp} {O : List (Addr × HO)} {σ : L2.St} {Q : VK} {E : XK} {x y v : V} {C a dx : Addr} {sp : Sp} {vs : List V} {fs : List (Str × V)} {t : TA}
def MakR (C : Addr) (sp : Sp) (Q : VK) (E : XK) (vs : List V) (H1 : Hp) : Prop := ∀ x dx, H1 x = none → H1 dx = none → dx ≠ x →
  sp (.ref x :: vs) (upd (upd H1 dx (.own x)) x (.ins C dx [])) (fun v H2 => v = .non ∧ Q (.ref x) H2) E
theorem x_make (h : t σ H fun vs H1 => MakR C sp Q E vs H1) : tMake C sp [] E t σ H Q := by
  unfold tMake
  simp only [List.append_nil]
  exact h
theorem x_mak (W : Wd K S H O) (k : ∀ p dx H', Wd K S H' ((p, .ins C dx []) :: (dx, .own p) :: O) → sp (.ref p :: vs) H' (fun v H2 => v = .non ∧ Q (.ref p) H2) E) : MakR C sp Q E vs H := fun p dx h1 h2 hne => by
  refine k p dx _ ((W.alloc h2 (o := .own p)).alloc ?_)
  rw [upd_ne (Ne.symm hne)]
  exact h1
theorem x_fldO {f : Str} {N : Hp → Prop} (n : Nat) (W : Wd K S H O) (h : O[n]? = some (a, .ins C dx fs)) (c : Cls K C) (na : NoAttr K C f) (hl : fs.length < 1000) (k : ∀ H', Wd K S H' (O.set n (a, .ins C dx (putF f y fs))) → N H') : FldS K f y N (.ref a) H :=
  ⟨a, C, dx, fs, rfl, W.at n h, c, na, hl, k _ (W.put n h)⟩
theorem x_fldrO {f : Str} (n : Nat) (W : Wd K S H O) (h : O[n]? = some (a, .ins C dx fs)) (c : Cls K C) (na : NoAttr K C f) (hv : fs.lookup f = some v) (q : Q v H) : FldR K f Q (.ref a) H :=
  ⟨a, C, dx, fs, v, rfl, W.at n h, c, na, hv, q⟩
theorem x_mthO {m : Str} {P : V → Hp → Prop} (n : Nat) (W : Wd K S H O) (h : O[n]? = some (a, .ins C dx fs)) (hm : fs.lookup m = none) (q : P (.ref a) H) : MthR C m P (.ref a) H :=
  ⟨a, dx, fs, rfl, W.at n h, hm, q⟩
end
theorem putF_len (f : Str) (v : V) : ∀ fs : List (Str × V), (putF f v fs).length ≤ fs.length + 1
  | [] => Nat.le_refl _
  | (g, x) :: r => by
    unfold putF
    split
    · rw [List.length_cons, List.length_cons]; omega
    · have := putF_len f v r
      rw [List.length_cons, List.length_cons]; omega
theorem putF_at {f g : Str} {v x : V} {r : List (Str × V)} (h : g ≠ f) : putF f v ((g, x) :: r) = (g, x) :: putF f v r := by
  show (if g = f then (g, v) :: r else (g, x) :: putF f v r) = _
  rw [if_neg h]
def rInsert : V → List V → Hp → VK → Prop := fun x vs H Q => ∃ (l : Addr) (xs : List V) (i : Int) (y : V), x = .ref l ∧ vs = [.int i, y] ∧ H l = some (.lst xs) ∧ xs.length < sizeLine ∧ 0 ≤ i ∧ i < 2 ^ 63 ∧
    Q .non (upd H l (.lst (xs.take i.toNat ++ [y] ++ xs.drop i.toNat)))
theorem mt_ins {X : Cx} : MtR X "list.insert" rInsert := mt_insert
theorem x_ins0 {K : PySem.W.Frag} {S H : Hp} {O : List (Addr × HO)} {Q : VK} {p : Addr} {vs : List V} {y : V} (n : Nat) (W : Wd K S H O) (h : O[n]? = some (p, .lst vs)) (hl : vs.length ≤ 1000000) (k : ∀ H', Wd K S H' (O.set n (p, .lst (y :: vs))) → Q .non H') : rInsert (.ref p) [.int 0, y] H Q :=
  ⟨p, vs, 0, y, rfl, rfl, W.at n h, szl hl, by decide, by decide, k _ (W.put n h)⟩
end SB
namespace SB
open PySem PySem.Spec PyProof.Rows L2
/-! ### None or an int -/
abbrev oV : Option Int → V
  | none => .non
  | some i => .int i
abbrev oD : Option Int → PyData
  | none => .none
  | some i => .int i
theorem oV_some {i : Int} : oV (some i) = .int i := rfl
theorem oV_none : oV none = .non := rfl
theorem oD_some {i : Int} : oD (some i) = .int i := rfl
theorem oD_none : oD none = .none := rfl
section
variable {K : PySem.W.Frag} {S H : Hp} {O : List (Addr × HO)} {Q : VK} {x y v : V} {A B : Prop}
theorem dp_o (o : Option Int) : Dp K S (oV o) (oD o) := by
  cases o
  · exact .non
  · exact .int _
theorem dpAll_o : ∀ os : List (Option Int), DpAll K S (os.map oV) (os.map oD)
  | [] => .nil
  | o :: os => .cons (dp_o o) (dpAll_o os)
theorem dp_o_eq {o : Option Int} (h : Dp K S v (oD o)) : v = oV o := by
  cases o
  · exact dp_non_eq h
  · exact dp_int_eq h
theorem kn_o {o : Option Int} {P : V → Prop} (h : P (oV o)) : Kn K S (oD o) P := by
  cases o
  · exact h
  · exact h
theorem x_iteNN {o : Option Int} (h1 : ∀ y, o = some y → A) (h2 : o = none → B) : if (!decide (oV o = V.non)) = true then A else B := by
  cases o with
  | none => exact x_no (by simp) (h2 rfl)
  | some y => exact x_sure (by simp) (h1 y rfl)
theorem x_iteIN {o : Option Int} (h1 : o = none → A) (h2 : ∀ y, o = some y → B) : if decide (oV o = V.non) = true then A else B := by
  cases o with
  | none => exact x_sure (by simp) (h1 rfl)
  | some y => exact x_no (by simp) (h2 y rfl)
theorem dec_isN {o : Option Int} : decide (oV o = V.non) = decide (o = none) := by cases o <;> simp
/-- one of ours -/
theorem x_ixOO {p : Addr} {xs : List (Option Int)} {i : Int} (n : Nat) (W : Wd K S H O) (h : O[n]? = some (p, .lst (xs.map oV))) (h0 : 0 ≤ i) (h1 : i < xs.length) (k : Q (oV (nth xs i)) H) : rIx K (.ref p) (.int i) H Q :=
  x_ixO n W h (atI_map h0 h1) k
theorem x_ixOS {p : Addr} {xs : List (Option Int)} {i y : Int} (n : Nat) (W : Wd K S H O) (h : O[n]? = some (p, .lst (xs.map oV))) (h0 : 0 ≤ i) (h1 : i < xs.length) (e : nth xs i = some y) (k : Q (.int y) H) : rIx K (.ref p) (.int i) H Q :=
  x_ixOO n W h h0 h1 (by rw [e]; exact k)
theorem x_setOO {p : Addr} {xs : List (Option Int)} {i b : Int} {Q : Hp → Prop} (n : Nat) (W : Wd K S H O) (h : O[n]? = some (p, .lst (xs.map oV))) (h0 : 0 ≤ i) (h1 : i < xs.length)
    (k : ∀ H', Wd K S H' (O.set n (p, .lst ((xs.set i.toNat (some b)).map oV))) → Q H') : L2.rSetL (.ref p) (.int i) (.int b) H Q :=
  x_setO n W h (ixN_of h0 (by rw [List.length_map]; exact h1)) fun H' W' => k H' (by rw [List.map_set]; exact W')
/-- one that stays -/
theorem x_ixOD {xs : List (Option Int)} {i : Int} (W : Wd K S H O) (h : Dp K S x (.list (xs.map oD))) (h0 : 0 ≤ i) (h1 : i < xs.length) (k : Q (oV (nth xs i)) H) : rIx K x (.int i) H Q :=
  x_ixL W h (atI_map (f := oD) h0 h1) (kn_o k)
theorem x_ixDS {xs : List (Option Int)} {i y : Int} (W : Wd K S H O) (h : Dp K S x (.list (xs.map oD))) (h0 : 0 ≤ i) (h1 : i < xs.length) (e : nth xs i = some y) (k : Q (.int y) H) : rIx K x (.int i) H Q :=
  x_ixOD W h h0 h1 (by rw [e]; exact k)
theorem x_giveO {G : Prop} {p : Addr} {os : List (Option Int)} (W : Wd K S H ((p, .lst (os.map oV)) :: O)) (k : ∀ S', Wd K S' H O → Same S S' → Dp K S' (.ref p) (.list (os.map oD)) → G) : G :=
  x_give W (dpAll_o os) k
/-- one of ours, wherever it stands, stays from now on -/
theorem x_giveN {G : Prop} {p : Addr} {vs : List V} {ds : List PyData} (n : Nat) (W : Wd K S H O) (h : O[n]? = some (p, .lst vs)) (hd : DpAll K S vs ds) (k : ∀ S', Wd K S' H (O.eraseIdx n) → Same S S' → Dp K S' (.ref p) (.list ds) → G) : G :=
  k _ (W.give n h) (same_new (W.atS n h)) (dp_give (W.atS n h) hd)
end
end SB
namespace SB
open PySem PySem.Spec PyProof.Rows L2
theorem x_cutT {tt : TT} {σ : L2.St} {H : Hp} {QT : Bool → Hp → Prop} (c : Bool) (h : ∀ Q' : Bool → Hp → Prop, Q' c H → tt σ H Q') (k : QT c H) : tt σ H QT := h QT k
end SB
namespace SB
open PySem PySem.Spec PyProof.Rows L2
theorem x_eqS {a b : Str} {Q : VK} {H : Hp} (q : Q (.bl (decide (a = b))) H) : rEq (.str a) (.str b) H Q := x_eqV rfl (by simp) q
theorem x_neS {a b : Str} {Q : VK} {H : Hp} (q : Q (.bl (!decide (a = b))) H) : rNe (.str a) (.str b) H Q := x_neV rfl (by simp) q
theorem shp_o {n : Nat} (o : Option Int) : Shp n (oD o) := by
  cases o
  · exact shp_non
  · exact shp_int _
/-- the item before the one at k, the last one before the first -/
theorem atI_bef {α β : Type} [Inhabited α] {xs : List α} {f : α → β} {k : Nat} (h : k < xs.length) : atI (xs.map f) ((k : Int) - 1) = some (f (nth xs (((if k = 0 then xs.length - 1 else k - 1 : Nat)) : Int))) := by
  by_cases e : k = 0
  · subst e
    rw [if_pos rfl]
    have e2 : atI (xs.map f) (((0 : Nat) : Int) - 1) = (xs.map f)[xs.length - 1]? := by
      unfold atI
      have : ixN (xs.map f).length (((0 : Nat) : Int) - 1) = some (xs.length - 1) := by
        rw [List.length_map]
        unfold ixN
        rw [if_neg (by omega), if_pos (by omega)]
        congr 1
        omega
      rw [this]
      rfl
    rw [e2, List.getElem?_map, List.getElem?_eq_getElem (by omega), Option.map_some]
    rw [nth_nat (List.getElem?_eq_getElem (show xs.length - 1 < xs.length by omega))]
  · rw [if_neg e, show ((k : Int) - 1) = ((k - 1 : Nat) : Int) by omega]
    exact atI_map (by omega) (by omega)
end SB
namespace SB
open PySem PySem.Spec PyProof.Rows L2
section
variable {A B : Prop} {i : Int} {a : Addr} {b : Bool} {z : Str}
theorem x_dNN (h : A) : if decide (V.non = V.non) = true then A else B := x_sure (by simp) h
theorem x_dNI (h : B) : if decide (V.int i = V.non) = true then A else B := x_no (by simp) h
theorem x_dNR (h : B) : if decide (V.ref a = V.non) = true then A else B := x_no (by simp) h
theorem x_nNN (h : B) : if (!decide (V.non = V.non)) = true then A else B := x_no (by simp) h
theorem x_nNI (h : A) : if (!decide (V.int i = V.non)) = true then A else B := x_sure (by simp) h
theorem x_nNR (h : A) : if (!decide (V.ref a = V.non)) = true then A else B := x_sure (by simp) h
end
end SB
namespace SB
open PySem PySem.Spec PyProof.Rows L2
/-! ### slices -/
section
variable {K : PySem.W.Frag} {S H : Hp} {O : List (Addr × HO)} {σ : L2.St} {Q : VK} {x y v : V} {te : TE} {tl th : TO}
theorem x_sl {r : V → Option Int → Option Int → Hp → VK → Prop} (h : te σ H fun x H1 => tl σ H1 fun l H2 => th σ H2 fun u H3 => r x l u H3 Q) : tSl r te tl th σ H Q := h
theorem x_poN {R : Option Int → Hp → Prop} (h : R none H) : tNoPart σ H R := h
theorem x_poS {R : Option Int → Hp → Prop} (h : te σ H fun x H1 => ∃ i, x = .int i ∧ R (some i) H1) : tPart te σ H R := h
theorem x_poI {R : Int → Prop} {i : Int} (h : R i) : ∃ j, V.int i = .int j ∧ R j := ⟨i, rfl, h⟩
def cutD {α : Type} (xs : List α) (lo hi : Option Int) : List α := (xs.drop (HT.sIx xs.length 0 lo)).take (HT.sIx xs.length xs.length hi - HT.sIx xs.length 0 lo)
theorem dpAll_cut {vs : List V} {ds : List PyData} (lo hi : Option Int) (h : DpAll K S vs ds) : DpAll K S (cutV vs lo hi) (cutD ds lo hi) := by
  unfold cutV cutD
  rw [dpAll_len h]
  exact dpAll_take _ (dpAll_drop _ h)
theorem x_slL {ds : List PyData} {lo hi : Option Int} (W : Wd K S H O) (h : Dp K S x (.list ds)) (k : ∀ S' H' v, Wd K S' H' O → Same S S' → Dp K S' v (.list (cutD ds lo hi)) → Q v H') : rSlL K x lo hi H Q := by
  obtain ⟨a, us, rfl, hq, ha⟩ := dp_lst_ex h
  exact ⟨a, us, rfl, W.lst hq, x_lst' W (dpAll_cut lo hi ha) k⟩
theorem x_slT {ds : List PyData} {lo hi : Option Int} (W : Wd K S H O) (h : Dp K S x (.tuple ds)) (hn : ¬ (HT.sIx ds.length 0 lo = 0 ∧ HT.sIx ds.length ds.length hi = ds.length)) (k : ∀ S' H' v, Wd K S' H' O → Same S S' → Dp K S' v (.tuple (cutD ds lo hi)) → Q v H') : rSlT K x lo hi H Q := by
  obtain ⟨a, us, rfl, hq, ha⟩ := dp_tup_ex h
  refine ⟨a, us, rfl, W.tup hq, by rw [dpAll_len ha]; exact hn, x_tup' W (dpAll_cut lo hi ha) k⟩
theorem cutD_to {α : Type} {xs : List α} {n : Int} (h : 0 ≤ n) : cutD xs none (some n) = xs.take n.toNat := by
  obtain ⟨m, rfl⟩ : ∃ m : Nat, n = m := ⟨n.toNat, by omega⟩
  unfold cutD
  rw [HT.sIx_none, HT.sIx_nat, List.drop_zero, Nat.sub_zero, Int.toNat_natCast]
  rw [List.take_eq_take_iff]
  omega
theorem cutD_from {α : Type} {xs : List α} {n : Int} (h : 0 ≤ n) : cutD xs (some n) none = xs.drop n.toNat := by
  obtain ⟨m, rfl⟩ : ∃ m : Nat, n = m := ⟨n.toNat, by omega⟩
  unfold cutD
  rw [HT.sIx_none, HT.sIx_nat, Int.toNat_natCast, List.take_of_length_le (by rw [List.length_drop]; omega)]
  by_cases e : m ≤ xs.length
  · rw [Nat.min_eq_left e]
  · rw [Nat.min_eq_right (by omega), List.drop_of_length_le (Nat.le_refl _), List.drop_of_length_le (by omega)]
end
end SB
namespace SB
open PySem PySem.Spec PyProof.Rows L2
/-! ### over enumerate(xs), the target two names -/
section
variable {K : PySem.W.Frag} {S H : Hp} {O : List (Addr × HO)} {σ : L2.St} {Q : VK} {x y v : V} {tt : TT} {g : TG} {te : TE} {ta : TA} {vs : List Nat}
def LcEn (K : PySem.W.Frag) (g : TG) (tt : TT) (te : TE) (vs : List Nat) (σ : L2.St) (Q : VK) (us : List V) (H : Hp) : Prop := ∃ a xs, us = [.ref a] ∧ SqL K H a xs ∧ ∀ R, H R = none → ∃ W : Nat → Nat → Hp → Prop, (∃ m, W 0 m (upd H R (.lst []))) ∧ ∀ i m H, W i m H →
  ((Ite K a).stop i H ∧ Q (.ref R) H) ∨ ((Ite K a).go i H ∧ ∃ Nx : Hp → Prop, (∀ H', Nx H' → ∃ m', m' < m ∧ W (i + 1) m' H') ∧ ∀ x H', (Ite K a).yld i H x H' → g x (wipe σ vs) H' fun σ2 H2 => wipe σ2 vs = wipe σ vs ∧ tt σ2 H2 fun b H3 =>
    if b = true then te σ2 H3 fun y H4 => ∃ acc, H4 R = some (.lst acc) ∧ acc.length < sizeLine ∧ Nx (upd H4 R (.lst (acc ++ [y]))) else Nx H3)
theorem x_lcen (h : ta σ H fun us H1 => LcEn K g tt te vs σ Q us H1) : tLc (iEnum K ta) g tt te vs σ H Q := h
theorem lc_enum {α β : Type} {xs : List α} {f : α → PyData} {p q : Nat} [Inhabited α] (e : β → PyData) (G : Nat → β) (W : Wd K S H O) (hx : Dp K S x (.list (xs.map f))) (hlen : xs.length ≤ 1000000)
    (hs : ∀ (z : Nat) S' H' R acc N, z < xs.length → Wd K S' H' ((R, .lst acc) :: O) → Same S S' → LcE K S' O R acc (some (e (G z))) N → Kn K S' (f (nth xs (z : Int))) fun u =>
      tt (((wipe σ vs).set p (some (.int (z : Int)))).set q (some u)) H' fun b H3 => if b = true then te (((wipe σ vs).set p (some (.int (z : Int)))).set q (some u)) H3 fun y H4 => EndY R N y H4 else N H3)
    (k : ∀ S' H' v, Wd K S' H' O → Same S S' → Dp K S' v (.list (((List.range xs.length).map G).map e)) → Q v H')
    (ew : ∀ u v, wipe (((wipe σ vs).set p (some u)).set q (some v)) vs = wipe σ vs := by intros; rfl) : LcEn K (gTup K 2 (gCons (gName p) (gCons (gName q) gNil))) tt te vs σ Q [x] H := by
  obtain ⟨a, us, rfl, hq1, ha⟩ := dp_lst_ex hx
  have l1 : us.length = xs.length := by rw [dpAll_len ha, List.length_map]
  have hn : (List.range xs.length).length ≤ 1000000 := by rw [List.length_range]; exact hlen
  refine ⟨a, us, rfl, W.lst hq1, fun R hR => ⟨fun i m H' => m = xs.length - i ∧ i ≤ xs.length ∧ LcP K (List.range xs.length) (fun z => some (e (G z))) S O R i H', ⟨xs.length, rfl, Nat.zero_le _, S, [], W.alloc hR, Same.refl S, by simp; exact .nil⟩, ?_⟩⟩
  rintro i m H' ⟨rfl, hi, S', acc, W', hS, hA⟩
  have g1 : SqL K H' a us := W'.lst (hS.seq hq1)
  by_cases hlt : i < xs.length
  · have e1 : us[i]? = some us[i] := List.getElem?_eq_getElem (by omega)
    refine .inr ⟨⟨us, _, g1, e1⟩, LcP K (List.range xs.length) (fun z => some (e (G z))) S O R (i + 1), fun H'' p' => ⟨xs.length - (i + 1), by omega, rfl, hlt, p'⟩, fun v H'' yy => ?_⟩
    obtain ⟨T, u, rfl, hT, rfl, f1⟩ := yy
    have e1 := f1 us g1
    obtain ⟨d1, h1, r1⟩ := dpAll_get' ha e1
    rw [List.getElem?_map, List.getElem?_eq_getElem hlt] at h1
    cases h1
    have cz : (List.range xs.length)[i]? = some i := List.getElem?_range hlt
    refine ⟨T, [.int (i : Int), u], rfl, .inl (.inl upd_same), rfl, .int (i : Int), [u], rfl, u, [], rfl, rfl, ew (.int (i : Int)) u, ?_⟩
    have W2 := W'.new (o := .tup [.int (i : Int), u]) hT
    have hT' := W'.frS hT
    have E2 := lcE_of (S := S) (K := K) (O := O) (R := R) (fr := fun z => some (e (G z))) hn cz (hS.trans (same_new (o := .tup [.int (i : Int), u]) hT')) (dpAll_mono (same_new hT') hA)
    have r2 : Dp K S u (f (nth xs (i : Int))) := by rw [nth_nat (List.getElem?_eq_getElem hlt)]; exact r1
    exact (hs i _ _ R acc _ hlt W2 (hS.trans (same_new hT')) E2).of u (dp_mono (hS.trans (same_new hT')) r2)
  · have e3 : i = xs.length := by omega
    subst e3
    refine .inl ⟨⟨us, g1, by omega⟩, ?_⟩
    rw [List.take_of_length_le (by rw [List.length_range]; exact Nat.le_refl _), fm_map] at hA
    exact k _ H' _ (W'.give 0 rfl) (hS.trans (same_new (W'.atS 0 rfl))) (dp_give (W'.atS 0 rfl) (by rw [List.map_map]; exact hA))
end
end SB
namespace SB
open PySem PySem.Spec PyProof.Rows L2
/-! ### a target of two names -/
section
variable {K : PySem.W.Frag} {S H : Hp} {O : List (Addr × HO)} {σ : L2.St} {u : V} {tt : TT} {te : TE} {vs : List Nat}
theorem x_gtup2 {p q : Nat} {d1 d2 : PyData} {Q : L2.St → Hp → Prop} (W : Wd K S H O) (h : Dp K S u (.tuple [d1, d2])) (k : Kn K S d1 fun a => Kn K S d2 fun b => Q ((σ.set p (some a)).set q (some b)) H) :
    gTup K 2 (gCons (gName p) (gCons (gName q) gNil)) u σ H Q := by
  obtain ⟨a, us, rfl, hq, ha⟩ := dp_tup_ex h
  cases ha with
  | cons h1 h2 =>
    cases h2 with
    | cons h2 h3 =>
      cases h3
      exact ⟨a, _, rfl, W.tup hq, rfl, _, _, rfl, _, _, rfl, rfl, (k.of _ h1).of _ h2⟩
theorem x_lcb2 {p q : Nat} {d1 d2 : PyData} {R : Addr} {N : Hp → Prop} (W : Wd K S H O) (h : Dp K S u (.tuple [d1, d2]))
    (k : Kn K S d1 fun a => Kn K S d2 fun b => tt (((wipe σ vs).set p (some a)).set q (some b)) H fun c H3 => if c = true then te (((wipe σ vs).set p (some a)).set q (some b)) H3 fun y H4 => EndY R N y H4 else N H3)
    (ew : ∀ u v, wipe (((wipe σ vs).set p (some u)).set q (some v)) vs = wipe σ vs := by intros; rfl) : LcB (gTup K 2 (gCons (gName p) (gCons (gName q) gNil))) tt te vs σ R N u H := by
  refine x_gtup2 W h ?_
  refine kn_any fun a ha => kn_any fun b hb => ?_
  exact ⟨ew a b, (k.of a ha).of b hb⟩
end
end SB
/-! an exception that is caught and kept beyond its suite: its class is known where it lies. -/
namespace SB
open PySem PySem.Spec PyProof.Rows L2
/-- what is kept of it -/
def ExK (cls : Value) (dd : Option Addr) (a : Addr) : HO := .ext fun h => ∃ (oe : Obj) (vs : Array Value), h.get? a = some oe ∧ Zc cls dd oe ∧ oe.data = .fields vs
section
variable {X : Cx} {pins : List (Addr × Obj)} {σ : L2.St} {H : Hp} {s : Shared} {a : Addr} {oe : Obj} {vs : Array Value} {cls : Value} {dd : Option Addr}
/-- what was looked after aside is now known -/
theorem adopt (I : Inv X ((a, oe) :: pins) σ H s) (hz : Zc cls dd oe) (hd : oe.data = .fields vs) (h0 : ∀ o, X.s_0.heap.get? a ≠ some o) (hp : ∀ p ∈ X.pn ++ pins, p.1 ≠ a) : Inv X pins σ (upd H a (ExK cls dd a)) s := by
  have mine := I.pin (a, oe) (List.mem_append.mpr (.inr List.mem_cons_self))
  obtain ⟨m1, m2, m3, m4, m5⟩ := mine
  have other : ∀ {b : Addr} {o : HO}, H b = some o → b ≠ a := fun e z => by
    rw [z, m2] at e
    cases e
  have un := I.base
  constructor
  case ok => exact I.ok
  case os => exact I.os
  case bare => exact I.bare
  case loc => exact I.loc
  case cell => exact I.cell
  case len => exact I.len
  case base =>
    constructor
    case keep => exact un.keep
    case slot => exact un.slot
    case there => exact un.there
    case free =>
      intro b o e1 e2 e3
      rw [upd_ne (show b ≠ a from fun z => by subst z; exact h0 o e1)]
      exact un.free b o e1 e2 e3
    case tups =>
      intro b xs e1
      have e2 := un.tups b xs e1
      rw [upd_ne (other e2)]
      exact e2
    case frzs =>
      intro b o u e1
      have e2 := un.frzs b o u e1
      rw [upd_ne (other e2)]
      exact e2
    case tbls =>
      intro b ps e1
      obtain ⟨more, e2⟩ := un.tbls b ps e1
      exact ⟨more, (upd_ne (other e2)).trans e2⟩
  case free =>
    rw [upd_ne (Ne.symm m3)]
    exact I.free
  case freeC =>
    intro x c e1
    obtain ⟨v, oc, g1, g2⟩ := I.cell x c e1
    have hne : c ≠ a := fun z => by
      rw [z] at g1
      rw [m1] at g1
      cases g1
      exact m5 v g2
    rw [upd_ne hne]
    exact I.freeC x c e1
  case pin =>
    intro p hm
    obtain ⟨q1, q2, q3, q4, q5⟩ := I.pin p (by
      rcases List.mem_append.mp hm with h | h
      · exact List.mem_append.mpr (.inl h)
      · exact List.mem_append.mpr (.inr (List.mem_cons_of_mem _ h)))
    exact ⟨q1, by rw [upd_ne (hp p hm)]; exact q2, q3, q4, q5⟩
  case hok =>
    exact HOk.laidN I.hok (fun _ _ e => e) m2 ⟨⟨oe, vs, m1, hz, hd⟩, ⟨oe, m1⟩, fun h1 h2 ⟨o, v, q, r⟩ k => ⟨o, v, k o q, r⟩⟩
end
/-- the clause's wish: the class fits, and behind the suite the exception is known -/
def wK (K : PySem.W.Frag) (c : Value) (i : Nat) (ts : Addr → Value → Option Addr → TS) (D : Ends) : WX := fun cls dd σ H =>
  PySem.W.exmOne K cls c = some true ∧ ∀ a, H a = none → ts a cls dd ⟨fun σ' H' => D.nx (σ'.set i none) (upd H' a (ExK cls dd a)), fun _ _ => False, fun _ _ => False, fun _ _ => False⟩ (σ.set i (some (.ref a))) H
section
variable {X : Cx} {x n : Str} {c : Value} {i : Nat} {body suite : List Stmt} {b₀ : Stmt} {np pos pos' : Pos} {tb : WX → TS} {ts : Addr → Value → Option Addr → TS}
theorem ps_tryK (hstk : X.stack = X.env :: X.outer) (hfrm : X.env.frame = some X.env.locals) (hex : X.ex = []) (nd : X.N.Nodup) (hn : X.N[i]? = some n) (hloc : X.env.kindOf n = some .local) (hc : Names X x c)
    (hb : ∀ (W : WX) (pn : List (Addr × Obj)) (xe : Value → Shared → Prop), Takes (X.tr pn xe) W → PassesOwn (model X.prog X.w) X.A X.env xe → PSs (X.tr pn xe) body (tb W))
    (hsu : ∀ (a : Addr) (oe : Obj) (cls : Value) (d : Option Addr) (pn : List (Addr × Obj)), Zc cls d oe → (∃ vs, oe.data = .fields vs) → PSs (X.suite a ((a, oe) :: pn)) (b₀ :: suite) (ts a cls d)) :
    PS X (.Try body [.ExceptHandler (some (.Name x np)) (some n) (b₀ :: suite) pos'] [] [] pos) (fun D σ H => tb (wK X.K c i ts D) D σ H) := by
  constructor
  intro pins s σ H D I h
  have ok := I.ok
  have frames : X.A.frames = some (X.env :: X.outer) := by rw [ok.frames, hstk]
  let air : Value → Shared → Prop := fun e s₁ => wpAny (model X.prog X.w) X.A (noteFrame e X.env) (fun _ s₂ => wpAny (model X.prog X.w) X.A (setFlight e none)
    (fun _ s₃ => wpAny (model X.prog X.w) X.A (handleBy e X.env [.ExceptHandler (some (.Name x np)) (some n) (b₀ :: suite) pos']) (SP X pins D) X.xe s₃) X.xe s₂) X.xe s₁
  have caught : Takes (X.tr (X.pn ++ pins) air) (wK X.K c i ts D) := by
    rintro u s' ⟨a, B, sI, pins', σ', H', cls, dd, rfl, J0, nb, up, sky, na, os, ag, hyes, hgo⟩
    have J : Inv X pins σ' H' sI := J0.ofTry ok
    rw [show (X.tr (X.pn ++ pins) air).stack = X.env :: X.outer from hstk] at sky nb
    refine Sky.land Zc.steady frames hfrm sky fun h3 fl3 up3 => ?_
    have at3 := fl3.there
    obtain ⟨o3, v3, e3, z3, d3⟩ := at3
    have far : a ∉ frs (X.env :: X.outer) := fun hm => by
      obtain ⟨_, o', q1, q2⟩ := Heap.FunFrames.mem fl3.2.2.1 hm
      rw [e3] at q1
      cases q1
      exact q2 _ d3
    have notL : a ≠ X.env.locals := fun z => far (List.mem_filterMap.mpr ⟨X.env, List.mem_cons_self, by rw [hfrm, z]⟩)
    have notF : a ∉ X.fs := fun hm => by
      obtain ⟨e, q1, q2⟩ := List.mem_filterMap.mp hm
      exact far (List.mem_filterMap.mpr ⟨e, List.mem_cons_of_mem _ q1, q2⟩)
    -- it is newer than all that stood
    have newer : ∀ o, sI.heap.get? a ≠ some o := fun o e => by
      have q := nb a o e far
      rw [fl3.2.1] at q
      cases q
    have new0 : ∀ o, X.s_0.heap.get? a ≠ some o := fun o e => by
      obtain ⟨o', e'⟩ := J.base.there a o e (by rw [hex]; simp)
      exact newer o' e'
    have newP : ∀ p ∈ X.pn ++ pins, p.1 ≠ a := fun p hm z => newer p.2 (z ▸ (J.pin p hm).1)
    have J3 : Inv X pins σ' H' { s' with heap := h3 } := J.landed (by rw [hstk]; exact nb) fl3.1 (up.trans up3) os ag
    have S3 := J3.suite e3 d3 na notL notF
    refine wpAny_handleBy_cons (codeAny_handlers_test ?_) fun q => by cases q
    have look : PySem.W.Looks (model X.prog X.w) h3 (typeOf (.ref a)) cls := fun A Q E s k q => wpAny_typeOf_ref (k _ _ e3) (by rw [z3.1]; exact q)
    have fits := PySem.W.exm_one (M := model X.prog X.w) J3.kIn look hyes
    have named : ∀ {Q : Value → Shared → Prop} {E : Value → Shared → Prop}, Q c { s' with heap := h3 } → wpAny (model X.prog X.w) (X.A.mark (some (.ref a))) (eval (.Name x np) X.env) Q E { s' with heap := h3 } := fun q => by
      rcases hc with ⟨g1, g2, g3 | ⟨g3, g4, g5⟩⟩
      · exact ld_glob (X := X.suite a ((a, o3) :: (X.pn ++ pins))) S3 g1 g3 q g2
      · exact ld_blt (X := X.suite a ((a, o3) :: (X.pn ++ pins))) S3 g1 g3 g4 q g5 g2
    refine named (fits.here (codeAny_handlers_suite_as (HandSPX.lands_againZ fl3 fun h4 fl4 up4 => ?_)))
    have J4 : Inv X pins σ' H' { s' with heap := h4 } := J.landed (by rw [hstk]; exact nb) fl4.1 ((up.trans up3).trans up4) os ag
    obtain ⟨o4, v4, e4, z4, d4⟩ := fl4.there
    have S4 := J4.suite e4 d4 na notL notF
    refine store_ok (X := X.suite a ((a, o4) :: (X.pn ++ pins))) (v := .ref a) S4 nd hn (.inl hloc) rfl (fun s5 S5 => ?_) (.inr hloc)
    refine wpAny_mono ((hsu a o4 cls dd (X.pn ++ pins) z4 ⟨_, d4⟩).run [] s5 _ H' _ S5 (hgo a na)) (fun f s6 hsp => ?_) fun _ _ z => z.elim
    cases f with
    | next =>
      obtain ⟨σ6, H6, S6, q6⟩ := hsp
      have J6 : Inv X ((a, o4) :: pins) σ6 H6 s6 :=
        ⟨ok, S6.os, S6.bare, S6.base, S6.loc, S6.cell, S6.free, S6.freeC, fun p hm => S6.pin p (List.mem_append.mpr (.inl (by
          rcases List.mem_append.mp hm with h | h
          · exact List.mem_cons_of_mem _ (List.mem_append.mpr (.inl h))
          · rcases List.mem_cons.mp h with h | h
            · rw [h]; exact List.mem_cons_self
            · exact List.mem_cons_of_mem _ (List.mem_append.mpr (.inr h))))), S6.hok, S6.len⟩
      exact gone_ok J6 nd hn hloc fun s7 J7 => ⟨_, _, adopt J7 z4 d4 new0 newP, q6⟩
    | brk =>
      obtain ⟨_, _, _, q6⟩ := hsp
      exact q6.elim
    | cont =>
      obtain ⟨_, _, _, q6⟩ := hsp
      exact q6.elim
    | ret u =>
      obtain ⟨_, _, _, _, _, q6⟩ := hsp
      exact q6.elim
  refine wpAny_Try_except (wpAny_mono ((hb (wK X.K c i ts D) (X.pn ++ pins) air caught PassesOwn.looking).run [] s σ H D (I.toTry _) h) (fun f s1 hsp => ?_) fun e s1 he => he)
  cases f with
  | next =>
    obtain ⟨σ', H', J', q⟩ := hsp
    exact wpAny_execs_nil ⟨σ', H', J'.ofTry ok, q⟩
  | ret u =>
    obtain ⟨v, σ', H', J', r, q⟩ := hsp
    exact ⟨v, σ', H', J'.ofTry ok, r, q⟩
  | brk =>
    obtain ⟨σ', H', J', q⟩ := hsp
    exact ⟨σ', H', J'.ofTry ok, q⟩
  | cont =>
    obtain ⟨σ', H', J', q⟩ := hsp
    exact ⟨σ', H', J'.ofTry ok, q⟩
end
/-! ### isinstance of it -/
def rIsK (K : PySem.W.Frag) : List V → Hp → VK → Prop := fun xs H Q => ∃ (a D : Addr) (c : V) (cv : Value) (b : Bool), xs = [.ref a, c] ∧ H a = some (ExK (.ref D) none a) ∧ ExcC K D ∧ (∀ u, RelV c u → u = cv) ∧ PySem.W.kitOne K (.ref D) cv = some b ∧ Q (.bl b) H
/-- of a new tuple of classes -/
def rIsKT (K : PySem.W.Frag) : List V → Hp → VK → Prop := fun xs H Q => ∃ (a D tp : Addr) (cs : List V) (us : List Value) (b : Bool), xs = [.ref a, .ref tp] ∧ H a = some (ExK (.ref D) none a) ∧ ExcC K D ∧ H tp = some (.tup cs) ∧ Paired ClsV cs us ∧ PySem.W.kitAny K (.ref D) us = some b ∧ Q (.bl b) H
section
variable {X : Cx} {K : PySem.W.Frag}
theorem exk_inst {pins : List (Addr × Obj)} {σ : L2.St} {H : Hp} {s : Shared} {a D : Addr} (I : Inv X pins σ H s) (h : H a = some (ExK (.ref D) none a)) : ∃ oe, PySem.W.InstAt s.heap a oe D none := by
  obtain ⟨⟨oe, vs, g1, ⟨g2, g3⟩, g4⟩, _⟩ := (show ObjOk X.prog X.w H s.heap a (ExK (.ref D) none a) from I.hok a _ h)
  refine ⟨oe, ?_⟩
  obtain ⟨oc, od, oda, osl⟩ := oe
  dsimp only at g2 g3 g4
  subst g2 g3 g4
  exact ⟨g1, rfl, rfl, trivial⟩
theorem call_isK (e : X.K = K) : CallR X (.builtin "isinstance") (rIsK K) := by
  subst e
  intro pins s σ H xs us Q I r h
  obtain ⟨a, D, c, cv, b, rfl, ha, C, hcv, hk, q⟩ := h
  obtain ⟨u1, u2, rfl, r1, r2⟩ := vals2 r
  cases (show u1 = Value.ref a from r1)
  have e2 := hcv _ r2
  subst e2
  obtain ⟨oe, J⟩ := exk_inst I ha
  exact PySem.W.kia_one (PySem.W.handS_kitx_exc C.hg C.hk C.hs C.hd C.ha C.hn C.ht C.hm) I.kIn J hk (fun z => nomatch z) fun tk => ⟨.bl b, H, I.tok tk, rfl, q⟩
theorem call_isKT (e : X.K = K) : CallR X (.builtin "isinstance") (rIsKT K) := by
  subst e
  intro pins s σ H xs us Q I r h
  obtain ⟨a, D, tp, cs, ws, b, rfl, ha, C, hT, hp, hk, q⟩ := h
  obtain ⟨u1, u2, rfl, r1, r2⟩ := vals2 r
  cases (show u1 = Value.ref a from r1)
  cases (show u2 = Value.ref tp from r2)
  obtain ⟨oe, J⟩ := exk_inst I ha
  obtain ⟨_, its, rv, o, h1, h2, n, h3⟩ := (show ObjOk X.prog X.w H s.heap tp (.tup cs) from I.hok tp _ hT)
  have e3 := ClsV.all hp rv
  subst e3
  obtain ⟨oc, od, dt, sl⟩ := o
  simp only at h2 h3
  subst h2 h3
  exact PySem.W.kia_tup (PySem.W.handS_kitx_exc C.hg C.hk C.hs C.hd C.ha C.hn C.ht C.hm) I.kIn J h1 hk (fun z => nomatch z) fun tk => ⟨.bl b, H, I.tok tk, rfl, q⟩
end
section
variable {K : PySem.W.Frag} {S H : Hp} {O : List (Addr × HO)} {Q : VK} {C c a : Addr} {b : Bool}
theorem x_isK (h : H a = some (ExK (.ref C) none a)) (hC : ExcC K C) (hk : PySem.W.kitOne K (.ref C) (.ref c) = some b) (q : Q (.bl b) H) : rIsK K [.ref a, .ref c] H Q :=
  ⟨a, C, .ref c, .ref c, b, rfl, h, hC, fun u h => h, hk, q⟩
theorem x_isKT {n : String} (h : H a = some (ExK (.ref C) none a)) (hC : ExcC K C) (hk : PySem.W.kitOne K (.ref C) (.type n) = some b) (q : Q (.bl b) H) : rIsK K [.ref a, .ty n] H Q :=
  ⟨a, C, .ty n, .type n, b, rfl, h, hC, fun u h => h, hk, q⟩
end
end SB
/-! sorted of pairs of ints; list(range(n)). -/
namespace SB
open PySem PySem.Spec PyProof.Rows L2
abbrev prD (p : Int × Int) : PyData := .tuple [.int p.1, .int p.2]
/-- the pair that a tuple holds -/
def prOf (h : Heap) (v : Value) : Int × Int := match v with
  | .ref a => match h.get? a with
    | some o => match o.data with
      | .seq its _ => match its.toList with
        | [.int x _, .int y _] => (x, y)
        | _ => (0, 0)
      | _ => (0, 0)
    | none => (0, 0)
  | _ => (0, 0)
theorem prOf_is {h : Heap} {v : Value} {x y : Int} (p : Srt.IsPair h v x y) : prOf h v = (x, y) := by
  obtain ⟨a, o, t, u, n, rfl, h1, _, h2⟩ := p
  unfold prOf
  dsimp only
  rw [h1]
  dsimp only
  rw [h2]
def rSortPS (K : PySem.W.Frag) : List V → Hp → VK → Prop := fun vs H Q => ∃ (a : Addr) (xs : List V) (ps : List (Int × Int)), vs = [.ref a] ∧ SqL K H a xs ∧ xs.length = ps.length ∧ (∀ z ∈ xs.zip ps, ∃ t, z.1 = V.ref t ∧ SqT K H t [.int z.2.1, .int z.2.2]) ∧
  ∀ (zs : List (V × (Int × Int))) (p : Addr), zs.Perm (xs.zip ps) → (zs.map (·.2)).Pairwise (fun p q => p.1 < q.1 ∨ (p.1 = q.1 ∧ p.2 ≤ q.2)) → H p = none → Q (.ref p) (upd H p (.lst (zs.map (·.1))))
section
variable {X : Cx} {K : PySem.W.Frag}
theorem cl_sortPS (e : X.K = K) : CallR X (.builtin "sorted") (rSortPS K) := by
  subst e
  intro pins s σ H vs us Q I r h
  obtain ⟨a, xs, ps, rfl, hs, hlen, hx, q⟩ := h
  obtain ⟨its, rv, hl, hz⟩ := I.list hs
  obtain ⟨u, rfl, ru⟩ := vals1 r
  cases (show u = Value.ref a from ru)
  have all : ∀ (i : Nat) (x : V), xs[i]? = some x → ∃ p, ps[i]? = some p ∧ ∃ t, x = V.ref t ∧ SqT X.K H t [.int p.1, .int p.2] := fun i x hi => by
    have hl := (List.getElem?_eq_some_iff.mp hi).1
    have hp : ps[i]? = some (ps[i]'(by omega)) := List.getElem?_eq_getElem (by omega)
    refine ⟨_, hp, ?_⟩
    exact hx (x, ps[i]'(by omega)) (List.mem_of_getElem? (by rw [List.getElem?_zip_eq_some]; exact ⟨hi, hp⟩))
  obtain ⟨e1, e2⟩ := refs_back rv fun x m => by
    obtain ⟨i, hi⟩ := List.getElem?_of_mem m
    obtain ⟨_, _, t, e, _⟩ := all i x hi
    exact ⟨t, e⟩
  have pr : ∀ (i : Nat) (v : Value), its[i]? = some v → ∃ p, ps[i]? = some p ∧ Srt.IsPair s.heap v p.1 p.2 := fun i v hv => by
    have hxv : xs[i]? = some (backV v) := by rw [e1, List.getElem?_map, hv]; rfl
    obtain ⟨p, hp, t, et, ht⟩ := all i _ hxv
    obtain ⟨t', rfl⟩ := e2 v (List.mem_of_getElem? hv)
    cases et
    obtain ⟨its2, r2, o2, _⟩ := I.tuple ht
    obtain ⟨o, ho, hc, n, hd⟩ := o2
    obtain ⟨u1, u2, rfl, ri, rj⟩ := vals2 r2
    obtain ⟨t1, rfl⟩ := ri
    obtain ⟨t2, rfl⟩ := rj
    exact ⟨p, hp, t, o, t1, t2, n, rfl, ho, hc, hd⟩
  have ezip : its.map (fun u => (backV u, prOf s.heap u)) = xs.zip ps := by
    apply List.ext_getElem?
    intro i
    rw [List.getElem?_map]
    cases hi : its[i]? with
    | none =>
      have hn : its.length ≤ i := by
        rcases Nat.lt_or_ge i its.length with h | h
        · rw [List.getElem?_eq_getElem h] at hi; cases hi
        · exact h
      have hxl : xs.length = its.length := by rw [e1, List.length_map]
      rw [List.getElem?_eq_none (by rw [List.length_zip]; omega)]
      rfl
    | some v =>
      obtain ⟨p, hp, hpr⟩ := pr i v hi
      have hxv : xs[i]? = some (backV v) := by rw [e1, List.getElem?_map, hi]; rfl
      rw [(List.getElem?_zip_eq_some.mpr ⟨hxv, hp⟩ : (xs.zip ps)[i]? = some (backV v, p)), Option.map_some, prOf_is hpr]
  refine SrtO.sorted_pairsO (k := prOf s.heap) hl.isList (by rw [← rv.length]; exact hz) (fun v hv => ?_) fun h' d out h1 h2 kp hd hn => ?_
  · obtain ⟨i, hi⟩ := List.getElem?_of_mem hv
    obtain ⟨p, _, hpr⟩ := pr i v hi
    rw [prOf_is hpr]
    exact hpr
  · have h3 : ∀ u ∈ out, ∃ a, u = Value.ref a := fun u hu => e2 u (h2.perm.mem_iff.mp hu)
    obtain ⟨n, hn⟩ := hn
    have hperm : (out.map fun u => (backV u, prOf s.heap u)).Perm (xs.zip ps) := by
      rw [← ezip]
      exact h2.perm.map _
    have em : (out.map fun u => (backV u, prOf s.heap u)).map (·.1) = out.map backV := by rw [List.map_map]; rfl
    have hq := q (out.map fun u => (backV u, prOf s.heap u)) d hperm (by
      rw [List.map_map, List.pairwise_map]
      refine h1.imp fun {v u} hh => ?_
      have := SrtO.lexB_no.mp hh
      show (prOf s.heap v).1 < (prOf s.heap u).1 ∨ ((prOf s.heap v).1 = (prOf s.heap u).1 ∧ (prOf s.heap v).2 ≤ (prOf s.heap u).2)
      omega) (I.hok.fresh hd)
    rw [em] at hq
    have hol : out.length = xs.length := by rw [h2.perm.length_eq, e1, List.length_map]
    exact ⟨.ref d, upd H d (.lst (out.map backV)), I.laid (t' := s.toks) kp hd ⟨by rw [List.length_map, hol]; exact hz, out, n, vals_back h3, hn⟩, rfl, hq⟩
end
section
variable {K : PySem.W.Frag} {S H : Hp} {O : List (Addr × HO)} {σ : L2.St} {Q : VK} {x y v : V} {ta : TE}
theorem x_sortP {ps : List (Int × Int)} (W : Wd K S H O) (h : Dp K S x (.list (ps.map fun p => .tuple [.int p.1, .int p.2])))
    (k : ∀ (S' H' : Hp) (v : V) (qs : List (Int × Int)), Wd K S' H' O → Same S S' → Dp K S' v (.list (qs.map fun p : Int × Int => .tuple [.int p.1, .int p.2])) → qs.Perm ps → qs.Pairwise (fun p q => p.1 < q.1 ∨ (p.1 = q.1 ∧ p.2 ≤ q.2)) → Q v H') : rSortPS K [x] H Q := by
  obtain ⟨a, us, rfl, hq, ha⟩ := dp_lst_ex h
  have hlen : us.length = ps.length := by rw [dpAll_len ha, List.length_map]
  have each : ∀ z ∈ us.zip ps, Dp K S z.1 (.tuple [.int z.2.1, .int z.2.2]) := fun z hz => by
    obtain ⟨i, hi⟩ := List.getElem?_of_mem hz
    obtain ⟨u, p⟩ := z
    rw [List.getElem?_zip_eq_some] at hi
    obtain ⟨d, hd, hdp⟩ := dpAll_get' ha hi.1
    rw [List.getElem?_map, hi.2] at hd
    cases hd
    exact hdp
  refine ⟨a, us, ps, rfl, W.lst hq, hlen, fun z hz => ?_, fun zs p hp hs hn => ?_⟩
  · obtain ⟨t, ws, e, hw, hall⟩ := dp_tup_ex (each z hz)
    refine ⟨t, e, ?_⟩
    cases hall with
    | cons h1 h2 =>
      cases h2 with
      | cons h2 h3 =>
        cases h3
        cases h1
        cases h2
        exact W.tup hw
  · have hd : DpAll K S (zs.map (·.1)) ((zs.map (·.2)).map fun p : Int × Int => .tuple [.int p.1, .int p.2]) := by
      have mem : ∀ z ∈ zs, Dp K S z.1 (.tuple [.int z.2.1, .int z.2.2]) := fun z hz => each z (hp.mem_iff.mp hz)
      clear hp hs
      induction zs with
      | nil => exact .nil
      | cons z r ih => exact .cons (mem z List.mem_cons_self) (ih fun y hy => mem y (List.mem_cons_of_mem _ hy))
    have hperm : (zs.map (·.2)).Perm ps := by
      have := hp.map (·.2)
      rw [List.map_snd_zip (by omega)] at this
      exact this
    exact x_lst' W hd (fun S' H' v W' hS hv => k S' H' v _ W' hS hv hperm hs) p hn
/-- list(range(n)), ours -/
def RgR (Q : VK) (n : Int) (H : Hp) : Prop := RgOk 0 n ∧ ∀ q, H q = none → Q (.ref q) (upd H q (.lst (rgV 0 n)))
theorem x_lrg (h : ta σ H fun x H1 => ∃ n, x = .int n ∧ RgR Q n H1) : tLstRg (tRg1 ta) σ H Q := h
theorem rgV_ints {n : Int} : rgV 0 n = ((List.range n.toNat).map fun i : Nat => (i : Int)).map V.int := by
  unfold rgV
  rw [List.map_map, Int.sub_zero]
  refine List.map_congr_left fun i _ => ?_
  show V.int (0 + (i : Int)) = V.int (i : Int)
  rw [Int.zero_add]
theorem x_rgO {n : Int} (W : Wd K S H O) (h0 : 0 ≤ n) (h1 : n ≤ 1000000) (k : ∀ q H', Wd K S H' ((q, .lst (((List.range n.toNat).map fun i : Nat => (i : Int)).map V.int)) :: O) → Q (.ref q) H') :
    RgR Q n H :=
  ⟨.of_le (Int.le_refl _) (by omega) (by decide) h0, fun q hq => by rw [rgV_ints]; exact k q _ (W.alloc hq)⟩
end
end SB
namespace SB
open PySem PySem.Spec PyProof.Rows L2
/-! ### dicts: len, isinstance, get, a new one -/
def rLenD : List V → Hp → VK → Prop := fun xs H Q => ∃ (a : Addr) (kvs : List (Key × V)), xs = [.ref a] ∧ H a = some (.dK kvs) ∧ Q (.int kvs.length) H
theorem cl_lenD {X : Cx} : CallR X (.builtin "len") rLenD := call_lenD
theorem call_isD {X : Cx} {K : PySem.W.Frag} (e : X.K = K) : CallR X (.builtin "isinstance") (rIsi K) := isia e
def rCatTD (K : PySem.W.Frag) : R2 := rCatT K
theorem catTa {X : Cx} {K : PySem.W.Frag} (e : X.K = K) : OpR X (binaryOp .Add) (rCatT K) := e ▸ op_catT
section
variable {K : PySem.W.Frag} {S H : Hp} {O : List (Addr × HO)} {σ : L2.St} {Q : VK} {x y v : V} {td ty : TE} {β : Type} {e : β → PyData} {p : Addr} {kvs : List (Int × V)} {xs : List (Int × β)}
theorem x_lenDH (h : H p = some (mkD kvs)) (r : DKV K S e kvs xs) (q : Q (.int xs.length) H) : rLenD [.ref p] H Q :=
  ⟨p, _, rfl, h, by rw [List.length_map, dkv_len r]; exact q⟩
theorem x_isiD {n : String} {b : Bool} (h : H p = some (mkD kvs)) (hk : kitB "dict" n = some b) (q : Q (.bl b) H) : rIsi K [.ref p, .ty n] H Q := x_isi (.base (.dK h)) (kit_ty hk) q
def GetR (ty : L2.St → Hp → VK → Prop) (σ : L2.St) (Q : VK) (x : V) (H : Hp) : Prop := ∃ a, x = .ref a ∧ IsD H a ∧ ty σ H fun y H2 => ∃ o, DGet H2 a y o ∧ Q (o.getD .non) H2
theorem x_get (h : td σ H fun x H1 => GetR ty σ Q x H1) : tDGet1 td ty σ H Q := h
theorem x_getH (h : H p = some (mkD kvs)) (k : ty σ H fun y H2 => ∃ o, DGet H2 p y o ∧ Q (o.getD .non) H2) : GetR ty σ Q (.ref p) H := ⟨p, rfl, .inl ⟨_, .inl h⟩, k⟩
theorem x_getE {i : Int} (h : H p = some (mkD kvs)) (q : Q ((look kvs i).getD .non) H) : ∃ o, DGet H p (.int i) o ∧ Q (o.getD .non) H := ⟨_, dget_rd h, q⟩
theorem x_dnew (W : Wd K S H O) (k : ∀ p H', Wd K S H' ((p, mkD []) :: O) → Q (.ref p) H') : tDNewK σ H Q := fun p hp => k p _ (W.alloc hp (o := .dK []))
theorem x_catT {ds es : List PyData} (W : Wd K S H O) (h1 : Dp K S x (.tuple ds)) (h2 : Dp K S y (.tuple es)) (n1 : ds ≠ []) (n2 : es ≠ []) (hl : ds.length + es.length ≤ 1000000) (k : ∀ S' H' v, Wd K S' H' O → Same S S' → Dp K S' v (.tuple (ds ++ es)) → Q v H') : rCatT K x y H Q := by
  obtain ⟨a, us, rfl, hq1, ha⟩ := dp_tup_ex h1
  obtain ⟨b, ws, rfl, hq2, hb⟩ := dp_tup_ex h2
  have l1 := dpAll_len ha
  have l2 := dpAll_len hb
  have e1 : us ≠ [] := fun e => by rw [e] at l1; exact n1 (List.eq_nil_of_length_eq_zero l1.symm)
  have e2 : ws ≠ [] := fun e => by rw [e] at l2; exact n2 (List.eq_nil_of_length_eq_zero l2.symm)
  exact ⟨a, b, us, ws, rfl, rfl, W.tup hq1, W.tup hq2, e1, sz (by rw [l1, l2]; exact hl), fun e => absurd e e2, fun _ => x_tup' W (dpAll_cat ha hb) k⟩
/-! ### sorted of ints, remove -/
theorem x_srtO {ns : List Int} (n : Nat) (W : Wd K S H O) (h : O[n]? = some (p, .lst (ns.map V.int))) (k : ∀ S' H' v (zs : List Int), Wd K S' H' O → Same S S' → Dp K S' v (.list (zs.map PyData.int)) → zs.Perm ns → zs.Pairwise (· ≤ ·) → Q v H') : rSortedI K [.ref p] H Q :=
  ⟨p, ns, rfl, .of (W.at n h), fun zs q h1 h2 hq => x_lst' W (dpAll_ints zs) (fun S' H' v W' hS hv => k S' H' v zs W' hS hv h1 h2) q hq⟩
theorem x_remO {ns : List Int} {i : Int} {j : Nat} (n : Nat) (W : Wd K S H O) (h : O[n]? = some (p, .lst (ns.map V.int))) (h1 : ns[j]? = some i) (h2 : ∀ m : Nat, m < j → ns[m]? ≠ some i) (k : ∀ H', Wd K S H' (O.set n (p, .lst ((ns.eraseIdx j).map V.int))) → Q .non H') : rRemI (.ref p) [.int i] H Q :=
  ⟨p, ns, i, j, rfl, rfl, W.at n h, h1, h2, k _ (W.put n h)⟩
theorem x_popI {ns : List Int} {i : Int} (n : Nat) (W : Wd K S H O) (h : O[n]? = some (p, .lst ((ns ++ [i]).map V.int))) (k : ∀ H', Wd K S H' (O.set n (p, .lst (ns.map V.int))) → Q (.int i) H') : rPop (.ref p) [] H Q := by
  refine x_pop n W h ?_ fun H' W' => k H' ?_
  · rw [List.map_append, List.length_append, List.map_cons, List.map_nil, List.length_singleton, Nat.add_sub_cancel, List.getElem?_append_right (by simp)]
    simp
  · rw [List.map_append, List.map_cons, List.map_nil, List.dropLast_concat] at W'
    exact W'
end
end SB
/-! what the laws draw from a script, plain -/
namespace SB
def cell (ns : List Int) (i : Int) : Int := if ns = [] then 0 else nth ns (i % (ns.length : Int))
def mix (ns : List Int) (i : Int) : Int :=
  let n := (cell ns i + 104729 * (i + 1)) % 4294967291 * 48271 % 4294967279
  (n / 64 * 69621 + n) % 4294967231
theorem mix_lo (ns : List Int) (i : Int) : 0 ≤ mix ns i := Int.emod_nonneg _ (by decide)
theorem mix_hi (ns : List Int) (i : Int) : mix ns i < 4294967231 := Int.emod_lt_of_pos _ (by decide)
end SB
namespace SB
/-- a whole number of up to forty figures -/
def wholeOf (ns : List Int) (i : Int) : Int := nth [mix ns i % 20 - 10, mix ns i, cell ns (i + 1) % 10 ^ 40 - 10 ^ 39, 0] (mix ns i / 20 % 4)
theorem wholeOf_sm (ns : List Int) (i : Int) : (wholeOf ns i).natAbs < 2 ^ 140 := by
  unfold wholeOf
  have h := nth_mem (xs := [mix ns i % 20 - 10, mix ns i, cell ns (i + 1) % 10 ^ 40 - 10 ^ 39, 0]) (i := mix ns i / 20 % 4) (Int.emod_nonneg _ (by decide)) (Int.emod_lt_of_pos _ (by decide))
  generalize nth [mix ns i % 20 - 10, mix ns i, cell ns (i + 1) % 10 ^ 40 - 10 ^ 39, 0] (mix ns i / 20 % 4) = z at h
  have h1 := mix_lo ns i
  have h2 := mix_hi ns i
  have h3 := Int.emod_nonneg (mix ns i) (show (20 : Int) ≠ 0 by decide)
  have h4 := Int.emod_lt_of_pos (mix ns i) (show (0 : Int) < 20 by decide)
  have h5 := Int.emod_nonneg (cell ns (i + 1)) (show (10 ^ 40 : Int) ≠ 0 by decide)
  have h6 := Int.emod_lt_of_pos (cell ns (i + 1)) (show (0 : Int) < 10 ^ 40 by decide)
  simp only [List.mem_cons, List.mem_nil_iff, or_false, List.not_mem_nil] at h
  have e : (2 : Nat) ^ 140 = 1393796574908163946345982392040522594123776 := by decide
  rw [e]
  rcases h with h | h | h | h <;> omega
end SB
/-! networks, plain -/
namespace SB
structure Arc where
  s : Int
  t : Int
  r : Int
  c : Int
  deriving DecidableEq, Inhabited
def num (n : Int) : Int := if n % 4 = 0 then nth [0, 1, -1, 2, 10 ^ 30, -10 ^ 30, 7, 5] (n / 4 % 8) else n / 4 % 12
theorem num_sm (n : Int) : -10 ^ 30 ≤ num n ∧ num n ≤ 10 ^ 30 := by
  unfold num
  split
  · have h := nth_mem (xs := [0, 1, -1, 2, 10 ^ 30, -10 ^ 30, 7, 5]) (i := n / 4 % 8) (Int.emod_nonneg _ (by decide)) (Int.emod_lt_of_pos _ (by decide))
    generalize nth [0, 1, -1, 2, 10 ^ 30, -10 ^ 30, 7, 5] (n / 4 % 8) = z at h
    simp only [List.mem_cons, List.not_mem_nil, or_false] at h
    rcases h with h | h | h | h | h | h | h | h <;> omega
  · have h1 := Int.emod_nonneg (n / 4) (show (12 : Int) ≠ 0 by decide)
    have h2 := Int.emod_lt_of_pos (n / 4) (show (0 : Int) < 12 by decide)
    omega
def netP (ns : List Int) (b : Int) : Int := 2 + mix ns b % 5
def netArc (ns : List Int) (b l : Int) (k : Nat) : Arc :=
  ⟨mix ns (b + 2 + 3 * k) % netP ns b, mix ns (b + 2 + 3 * k) / netP ns b % netP ns b, max 0 (num (mix ns (b + 3 + 3 * k))), max l (num (mix ns (b + 4 + 3 * k)) - 2 * (if decide (l < 0) = true then 1 else 0))⟩
def netN (ns : List Int) (b : Int) : Int := mix ns (b + 1) % 12
def netA (ns : List Int) (b l : Int) : List Arc := (List.range (netN ns b).toNat).map (netArc ns b l)
theorem netP_lo (ns : List Int) (b : Int) : 2 ≤ netP ns b := by
  have := Int.emod_nonneg (mix ns b) (show (5 : Int) ≠ 0 by decide)
  unfold netP
  omega
theorem netP_hi (ns : List Int) (b : Int) : netP ns b ≤ 6 := by
  have := Int.emod_lt_of_pos (mix ns b) (show (0 : Int) < 5 by decide)
  unfold netP
  omega
theorem netN_lo (ns : List Int) (b : Int) : 0 ≤ netN ns b := Int.emod_nonneg _ (by decide)
theorem netN_hi (ns : List Int) (b : Int) : netN ns b ≤ 11 := by
  have := Int.emod_lt_of_pos (mix ns (b + 1)) (show (0 : Int) < 12 by decide)
  unfold netN
  omega
theorem netA_len (ns : List Int) (b l : Int) : (netA ns b l).length ≤ 11 := by
  unfold netA
  rw [List.length_map, List.length_range]
  have := netN_hi ns b
  omega
/-- an arc between places, with a room that is none too great -/
structure ArcOk (P : Int) (a : Arc) : Prop where
  s0 : 0 ≤ a.s
  s1 : a.s < P
  t0 : 0 ≤ a.t
  t1 : a.t < P
theorem netA_ok {ns : List Int} {b l : Int} : ∀ a ∈ netA ns b l, ArcOk (netP ns b) a ∧ 0 ≤ a.r ∧ a.r ≤ 10 ^ 30 ∧ l ≤ a.c ∧ (a.c ≤ 10 ^ 30 ∨ a.c = l) := by
  intro a ha
  unfold netA at ha
  obtain ⟨k, _, rfl⟩ := List.mem_map.mp ha
  have h2 := netP_lo ns b
  have e1 := num_sm (mix ns (b + 3 + 3 * k))
  have e2 := num_sm (mix ns (b + 4 + 3 * k))
  refine ⟨⟨Int.emod_nonneg _ (by omega), Int.emod_lt_of_pos _ (by omega), Int.emod_nonneg _ (by omega), Int.emod_lt_of_pos _ (by omega)⟩, ?_, ?_, ?_, ?_⟩
  · show 0 ≤ max 0 _
    omega
  · show max 0 _ ≤ _
    omega
  · show l ≤ max l _
    omega
  · show max l _ ≤ _ ∨ max l _ = l
    split <;> omega

/-! ### sums -/
def sumStep (l : List Int) (p : Arc × Int) : List Int :=
  let l1 := l.set p.1.s.toNat (nth l p.1.s - p.2)
  l1.set p.1.t.toNat (nth l1 p.1.t + p.2)
def sumsOf (P : Int) (ps : List (Arc × Int)) : List Int := ps.foldl sumStep (List.replicate P.toNat 0)
def sums (P : Int) (as : List Arc) (ms : List Int) : List Int := sumsOf P (as.zip ms)
theorem sumStep_len (l : List Int) (p : Arc × Int) : (sumStep l p).length = l.length := by simp [sumStep]
theorem sumsOf_len (P : Int) (ps : List (Arc × Int)) : (sumsOf P ps).length = P.toNat := by
  unfold sumsOf
  suffices h : ∀ (l : List Int), (ps.foldl sumStep l).length = l.length by rw [h, List.length_replicate]
  induction ps with
  | nil => intro l; rfl
  | cons p r ih => intro l; rw [List.foldl_cons, ih, sumStep_len]
theorem sumsOf_take {P : Int} {ps : List (Arc × Int)} {i : Nat} {p : Arc × Int} (h : ps[i]? = some p) : sumsOf P (ps.take (i + 1)) = sumStep (sumsOf P (ps.take i)) p := by
  unfold sumsOf
  rw [List.take_add_one, h, List.foldl_append]
  rfl
theorem zip_get {α β : Type} {xs : List α} {ys : List β} {i : Nat} {x : α} {y : β} (h1 : xs[i]? = some x) (h2 : ys[i]? = some y) : (xs.zip ys)[i]? = some (x, y) := by
  rw [List.getElem?_zip_eq_some]
  exact ⟨h1, h2⟩
theorem nth_set_eq {l : List Int} {i v : Int} (h0 : 0 ≤ i) (h : i < l.length) : nth (l.set i.toNat v) i = v := by
  have hl : i.toNat < l.length := by omega
  apply nth_eq
  rw [List.getElem?_set, if_pos rfl, if_pos hl]
theorem nth_set_ne {l : List Int} {i j v : Int} (h0 : 0 ≤ i) (h1 : 0 ≤ j) (h : i ≠ j) : nth (l.set i.toNat v) j = nth l j := by
  unfold nth
  rw [List.getD_eq_getElem?_getD, List.getD_eq_getElem?_getD, List.getElem?_set, if_neg (by omega)]
/-- the sums, place by place -/
theorem nth_sumStep {l : List Int} {p : Arc × Int} {k : Int} (ok : ArcOk l.length p.1) (h0 : 0 ≤ k) (h1 : k < l.length) :
    nth (sumStep l p) k = nth l k - (if p.1.s = k then p.2 else 0) + (if p.1.t = k then p.2 else 0) := by
  obtain ⟨a, m⟩ := p
  obtain ⟨s0, s1, t0, t1⟩ := ok
  dsimp only at s0 s1 t0 t1 h0 h1 ⊢
  show nth ((l.set a.s.toNat (nth l a.s - m)).set a.t.toNat (nth (l.set a.s.toNat (nth l a.s - m)) a.t + m)) k = _
  have s0' : 0 ≤ a.s := s0
  have t0' : 0 ≤ a.t := t0
  by_cases ht : a.t = k
  · subst ht
    rw [nth_set_eq t0 (by rw [List.length_set]; exact t1), if_pos rfl]
    by_cases hs : a.s = a.t
    · rw [if_pos hs, ← hs, nth_set_eq s0 s1]
    · rw [if_neg hs, nth_set_ne s0 t0 hs]
      omega
  · rw [nth_set_ne t0 h0 ht, if_neg ht]
    by_cases hs : a.s = k
    · subst hs
      rw [if_pos rfl, nth_set_eq s0 s1]
      omega
    · rw [if_neg hs, nth_set_ne s0 h0 hs]
      omega
theorem nth_replicate {n : Nat} {k : Int} : nth (List.replicate n (0 : Int)) k = 0 := by
  unfold nth
  rw [List.getD_eq_getElem?_getD, List.getElem?_replicate]
  split <;> rfl
/-- what comes into a place less what goes out -/
def into (ps : List (Arc × Int)) (k : Int) : Int := (ps.map fun p => (if p.1.t = k then p.2 else 0) - (if p.1.s = k then p.2 else 0)).sum
theorem nth_sumsOf {P : Int} {ps : List (Arc × Int)} (hP : 0 ≤ P) (ok : ∀ p ∈ ps, ArcOk P p.1) {k : Int} (h0 : 0 ≤ k) (h1 : k < P) : nth (sumsOf P ps) k = into ps k := by
  unfold sumsOf into
  suffices h : ∀ (l : List Int), (l.length : Int) = P → nth (ps.foldl sumStep l) k = nth l k + (ps.map fun p => (if p.1.t = k then p.2 else 0) - (if p.1.s = k then p.2 else 0)).sum by
    rw [h _ (by rw [List.length_replicate]; omega), nth_replicate]
    omega
  induction ps with
  | nil => intro l _; simp
  | cons p r ih =>
    intro l hl
    have okp : ArcOk l.length p.1 := by rw [hl]; exact ok p List.mem_cons_self
    rw [List.foldl_cons, ih (fun q hq => ok q (List.mem_cons_of_mem _ hq)) _ (by rw [sumStep_len]; exact hl), nth_sumStep okp h0 (by omega), List.map_cons, List.sum_cons]
    omega
end SB
namespace SB
def amtOk (p : Arc × Int) : Bool := decide (0 ≤ p.2) && decide (p.2 ≤ p.1.r)
def isFlow (P : Int) (as : List Arc) (s g : Int) (ms : List Int) : Bool :=
  decide (ms.length = as.length) && (as.zip ms).all amtOk && (((List.range P.toNat).filter fun k : Nat => !decide ((k : Int) ∈ [s, g])).map fun k : Nat => decide (nth (sums P as ms) k = 0)).all id
def leaves (ks : List Int) (a : Arc) : Bool := decide (a.s ∈ ks) && !decide (a.t ∈ ks)
def cutSize (as : List Arc) (ks : List Int) : Int := ((as.filter fun a => leaves ks a).map fun a => a.r).sum
def costOf (as : List Arc) (ms : List Int) : Int := ((as.zip ms).map fun p => p.1.c * p.2).sum
end SB
namespace SB
theorem isFlow_eq {P : Int} {as : List Arc} {s g : Int} {ms : List Int} (hl : as.length = ms.length) : isFlow P as s g ms =
    ((((List.range as.length).map fun k : Nat => amtOk (nth as (k : Int), nth ms (k : Int))).all id) && (((((List.range P.toNat).filter fun k : Nat => !decide ((k : Int) ∈ [s, g])).map fun k : Nat => nth (sums P as ms) (k : Int)).map fun z : Int => decide (z = 0)).all id)) := by
  unfold isFlow
  rw [decide_eq_true hl.symm, Bool.true_and, List.map_map]
  congr 1
  rw [Bool.eq_iff_iff, List.all_eq_true, List.all_eq_true]
  constructor
  · intro h b hb
    obtain ⟨k, hk, rfl⟩ := List.mem_map.mp hb
    have hk' := List.mem_range.mp hk
    exact h _ (List.mem_of_getElem? (zip_get (nth_get (i := (k : Int)) (by omega) (by omega)) (nth_get (i := (k : Int)) (by omega) (by omega))))
  · intro h p hp
    obtain ⟨k, hk⟩ := List.getElem?_of_mem hp
    obtain ⟨a, m⟩ := p
    rw [List.getElem?_zip_eq_some] at hk
    have hk' : k < as.length := (List.getElem?_eq_some_iff.mp hk.1).1
    have := h _ (List.mem_map.mpr ⟨k, List.mem_range.mpr hk', rfl⟩)
    rw [nth_nat hk.1, nth_nat hk.2] at this
    exact this
theorem isFlow_len {P : Int} {as : List Arc} {s g : Int} {ms : List Int} (hl : ms.length ≠ as.length) : isFlow P as s g ms = false := by
  unfold isFlow
  rw [decide_eq_false hl]
  rfl
def cutStep (ks : List Int) (a : Arc) : Int := if leaves ks a = true then a.r else 0
theorem cutSize_eq (as : List Arc) (ks : List Int) : cutSize as ks = (as.map (cutStep ks)).sum := by
  unfold cutSize
  induction as with
  | nil => rfl
  | cons a r ih =>
    rw [List.map_cons, List.sum_cons, ← ih]
    by_cases h : leaves ks a = true
    · rw [List.filter_cons_of_pos h, List.map_cons, List.sum_cons, cutStep, if_pos h]
    · rw [List.filter_cons_of_neg h, cutStep, if_neg h, Int.zero_add]
theorem sum_take {α : Type} {xs : List α} {f : α → Int} {i : Nat} {x : α} (h : xs[i]? = some x) : ((xs.take (i + 1)).map f).sum = ((xs.take i).map f).sum + f x := by
  rw [List.take_add_one, h, List.map_append, List.sum_append]
  simp
end SB
namespace SB
structure LookOk (P : Int) (as : List Arc) : Prop where
  lo : 1 ≤ P
  hi : P ≤ 12
  few : as.length ≤ 40
  arcs : ∀ a ∈ as, ArcOk P a
end SB
/-! networks as data -/
namespace SB
open PySem PySem.Spec PyProof.Rows L2
abbrev arcD (a : Arc) : PyData := .tuple [.int a.s, .int a.t, .int a.r, .int a.c]
abbrev netD (P : Int) (as : List Arc) : PyData := .tuple [.int P, .list (as.map arcD)]
theorem shp_arc (a : Arc) : Shp 63 (arcD a) := (shp_tup (n := 0) fun d hd => by
  simp only [List.mem_cons, List.not_mem_nil, or_false] at hd
  rcases hd with rfl | rfl | rfl | rfl <;> exact shp_int _).mono (by decide)
/-- the fields of ways -/
abbrev wFs (x : V) (l m : Addr) : List (Str × V) := [("arcs", x), ("lengths", .ref l), ("last", .ref m)]
section
variable {K : PySem.W.Frag} {S H : Hp} {O : List (Addr × HO)} {Q : VK} {C p dx l m : Addr} {x : V}
theorem wsA (n : Nat) (W : Wd K S H O) (h : O[n]? = some (p, .ins C dx (wFs x l m))) (c : Cls K C) (na : NoAttr K C "arcs") (q : Q x H) : FldR K "arcs" Q (.ref p) H := x_fldrO n W h c na (by rfl) q
theorem wsL (n : Nat) (W : Wd K S H O) (h : O[n]? = some (p, .ins C dx (wFs x l m))) (c : Cls K C) (na : NoAttr K C "lengths") (q : Q (.ref l) H) : FldR K "lengths" Q (.ref p) H := x_fldrO n W h c na (by rfl) q
theorem wsM (n : Nat) (W : Wd K S H O) (h : O[n]? = some (p, .ins C dx (wFs x l m))) (c : Cls K C) (na : NoAttr K C "last") (q : Q (.ref m) H) : FldR K "last" Q (.ref p) H := x_fldrO n W h c na (by rfl) q
end
end SB
/-! flows, plain -/
namespace SB
/-! ### sums over places -/
def sumR : Nat → (Nat → Int) → Int
  | 0, _ => 0
  | n + 1, f => sumR n f + f n
theorem sumR_add {n : Nat} {f g : Nat → Int} : sumR n (fun k => f k + g k) = sumR n f + sumR n g := by
  induction n with
  | zero => rfl
  | succ n ih => simp only [sumR]; rw [ih]; omega
theorem sumR_zero {n : Nat} : sumR n (fun _ => 0) = 0 := by
  induction n with
  | zero => rfl
  | succ n ih => simp only [sumR]; rw [ih]; rfl
theorem sumR_congr {n : Nat} {f g : Nat → Int} (h : ∀ k, k < n → f k = g k) : sumR n f = sumR n g := by
  induction n with
  | zero => rfl
  | succ n ih =>
    simp only [sumR]
    rw [ih (fun k hk => h k (by omega)), h n (by omega)]
theorem sumR_one {n : Nat} {v c : Int} : sumR n (fun k => if v = (k : Int) then c else 0) = if 0 ≤ v ∧ v < n then c else 0 := by
  induction n with
  | zero =>
    show (0 : Int) = _
    rw [if_neg (by omega)]
  | succ n ih =>
    simp only [sumR]
    rw [ih]
    by_cases h1 : v = (n : Int)
    · rw [if_neg (by omega), if_pos h1, if_pos (by omega)]
      omega
    · rw [if_neg h1]
      by_cases h2 : 0 ≤ v ∧ v < n
      · rw [if_pos h2, if_pos (by omega)]
        omega
      · rw [if_neg h2, if_neg (by omega)]
        rfl

/-! ### cuts -/
def across (X : Int → Bool) (ps : List (Arc × Int)) : Int := (ps.map fun p => (if X p.1.t = true then 0 else p.2) - (if X p.1.s = true then 0 else p.2)).sum
theorem into_cons {p : Arc × Int} {r : List (Arc × Int)} {k : Int} : into (p :: r) k = ((if p.1.t = k then p.2 else 0) - (if p.1.s = k then p.2 else 0)) + into r k := by
  unfold into
  rw [List.map_cons, List.sum_cons]
theorem across_eq {P : Int} {ps : List (Arc × Int)} (ok : ∀ p ∈ ps, ArcOk P p.1) (X : Int → Bool) :
    sumR P.toNat (fun k => if X (k : Int) = true then 0 else into ps (k : Int)) = across X ps := by
  induction ps with
  | nil =>
    rw [sumR_congr (g := fun _ => 0) (fun k _ => by simp [into])]
    exact sumR_zero
  | cons p r ih =>
    have okp := ok p List.mem_cons_self
    have e : across X (p :: r) = ((if X p.1.t = true then 0 else p.2) - (if X p.1.s = true then 0 else p.2)) + across X r := by
      unfold across
      rw [List.map_cons, List.sum_cons]
    rw [e, ← ih (fun q hq => ok q (List.mem_cons_of_mem _ hq))]
    rw [sumR_congr (g := fun k : Nat => ((if p.1.t = (k : Int) then (if X p.1.t = true then 0 else p.2) else 0) + (if p.1.s = (k : Int) then -(if X p.1.s = true then 0 else p.2) else 0)) + (if X (k : Int) = true then 0 else into r (k : Int)))]
    · have h1 : 0 ≤ p.1.t ∧ p.1.t < (P.toNat : Int) := by
        have := okp.t0
        have := okp.t1
        omega
      have h2 : 0 ≤ p.1.s ∧ p.1.s < (P.toNat : Int) := by
        have := okp.s0
        have := okp.s1
        omega
      rw [sumR_add, sumR_add, sumR_one, sumR_one, if_pos h1, if_pos h2]
      omega
    · intro k _
      rw [into_cons]
      by_cases h1 : p.1.t = (k : Int)
      · by_cases h2 : p.1.s = (k : Int)
        · rw [if_pos h1, if_pos h2, if_pos h1, if_pos h2, h1, h2]
          split <;> omega
        · rw [if_pos h1, if_neg h2, if_pos h1, if_neg h2, h1]
          split <;> omega
      · by_cases h2 : p.1.s = (k : Int)
        · rw [if_neg h1, if_pos h2, if_neg h1, if_pos h2, h2]
          split <;> omega
        · rw [if_neg h1, if_neg h2, if_neg h1, if_neg h2]
          split <;> omega
structure Flow (as : List Arc) (s g : Int) (ms : List Int) : Prop where
  len : ms.length = as.length
  bd : ∀ j : Nat, j < as.length → 0 ≤ nth ms (j : Int) ∧ nth ms (j : Int) ≤ (nth as (j : Int)).r
  cons : ∀ v, v ≠ s → v ≠ g → into (as.zip ms) v = 0
theorem flow_across {P s g : Int} {as : List Arc} {ms : List Int} (F : Flow as s g ms) (ok : ∀ a ∈ as, ArcOk P a) (X : Int → Bool) (hs : X s = true) (hg : X g = false) (g0 : 0 ≤ g) (g1 : g < P) :
    across X (as.zip ms) = into (as.zip ms) g := by
  rw [← across_eq (P := P) (fun p hp => ok p.1 (List.of_mem_zip hp).1) X, sumR_congr (g := fun k : Nat => if g = (k : Int) then into (as.zip ms) g else 0)]
  · rw [sumR_one, if_pos (by omega)]
  · intro k _
    by_cases h : X (k : Int) = true
    · rw [if_pos h, if_neg (fun e => by rw [e, h] at hg; cases hg)]
    · rw [if_neg h]
      by_cases e : g = (k : Int)
      · rw [if_pos e, e]
      · rw [if_neg e]
        exact F.cons _ (fun e2 => h (by rw [e2]; exact hs)) (fun e2 => e e2.symm)
def cutX (X : Int → Bool) (as : List Arc) : Int := (as.map fun a => if (X a.s && !X a.t) = true then a.r else 0).sum
theorem across_cons {X : Int → Bool} {p : Arc × Int} {r : List (Arc × Int)} : across X (p :: r) = ((if X p.1.t = true then 0 else p.2) - (if X p.1.s = true then 0 else p.2)) + across X r := by
  unfold across
  rw [List.map_cons, List.sum_cons]
theorem cutX_cons {X : Int → Bool} {a : Arc} {r : List Arc} : cutX X (a :: r) = (if (X a.s && !X a.t) = true then a.r else 0) + cutX X r := by
  unfold cutX
  rw [List.map_cons, List.sum_cons]
theorem cutX_mem (as : List Arc) (ks : List Int) : cutX (fun v => decide (v ∈ ks)) as = cutSize as ks := by
  rw [cutSize_eq]
  rfl
theorem zip_bd {as : List Arc} {ms : List Int} {C : Arc → Int → Prop} (hl : ms.length = as.length) (h : ∀ j : Nat, j < as.length → C (nth as (j : Int)) (nth ms (j : Int))) : ∀ p ∈ as.zip ms, C p.1 p.2 := by
  intro p hp
  obtain ⟨j, hj⟩ := List.getElem?_of_mem hp
  obtain ⟨a, m⟩ := p
  rw [List.getElem?_zip_eq_some] at hj
  have hj' : j < as.length := (List.getElem?_eq_some_iff.mp hj.1).1
  have := h j hj'
  rw [nth_nat hj.1, nth_nat hj.2] at this
  exact this
theorem across_le : ∀ {as : List Arc} {ms : List Int} {X : Int → Bool}, ms.length = as.length → (∀ p ∈ as.zip ms, 0 ≤ p.2 ∧ p.2 ≤ p.1.r) → across X (as.zip ms) ≤ cutX X as
  | [], [], _, _, _ => Int.le_refl _
  | [], _ :: _, _, h, _ => by simp at h
  | _ :: _, [], _, h, _ => by simp at h
  | a :: as, m :: ms, X, hl, h => by
    have ih := across_le (as := as) (ms := ms) (X := X) (by simpa using hl) fun p hp => h p (List.mem_cons_of_mem _ hp)
    have h0 := h (a, m) List.mem_cons_self
    dsimp only at h0
    rw [List.zip_cons_cons, across_cons, cutX_cons]
    dsimp only
    generalize across X (as.zip ms) = A at *
    generalize cutX X as = B at *
    cases X a.s <;> cases X a.t <;> simp <;> omega
theorem across_tight : ∀ {as : List Arc} {ms : List Int} {X : Int → Bool}, ms.length = as.length → (∀ p ∈ as.zip ms, (X p.1.s = true → X p.1.t = false → p.2 = p.1.r) ∧ (X p.1.t = true → X p.1.s = false → p.2 = 0)) → across X (as.zip ms) = cutX X as
  | [], [], _, _, _ => rfl
  | [], _ :: _, _, h, _ => by simp at h
  | _ :: _, [], _, h, _ => by simp at h
  | a :: as, m :: ms, X, hl, h => by
    have ih := across_tight (as := as) (ms := ms) (X := X) (by simpa using hl) fun p hp => h p (List.mem_cons_of_mem _ hp)
    have h0 := h (a, m) List.mem_cons_self
    dsimp only at h0
    rw [List.zip_cons_cons, across_cons, cutX_cons, ih]
    dsimp only
    generalize cutX X as = B at *
    revert h0
    cases X a.s <;> cases X a.t <;> simp <;> omega

/-! ### steps and ways -/
structure Step where
  m : Int
  to : Int
  k : Int
  d : Int
  deriving DecidableEq, Inhabited
def stA (as : List Arc) (ms : List Int) (pl : Int) (k : Nat) : List Step := if (decide ((nth as (k : Int)).s = pl) && decide (nth ms (k : Int) < (nth as (k : Int)).r)) = true then [⟨(nth as (k : Int)).r - nth ms (k : Int), (nth as (k : Int)).t, k, 1⟩] else []
def stB (as : List Arc) (ms : List Int) (pl : Int) (k : Nat) : List Step := if (decide ((nth as (k : Int)).t = pl) && decide (nth ms (k : Int) > 0)) = true then [⟨nth ms (k : Int), (nth as (k : Int)).s, k, -1⟩] else []
def stepsAt (as : List Arc) (ms : List Int) (pl : Int) (k : Nat) : List Step := stA as ms pl k ++ stB as ms pl k
theorem stA_yes {as : List Arc} {ms : List Int} {pl : Int} {k : Nat} (h1 : (nth as (k : Int)).s = pl) (h2 : nth ms (k : Int) < (nth as (k : Int)).r) : stA as ms pl k = [⟨(nth as (k : Int)).r - nth ms (k : Int), (nth as (k : Int)).t, k, 1⟩] := if_pos (by simp [h1, h2])
theorem stA_no {as : List Arc} {ms : List Int} {pl : Int} {k : Nat} (h : ¬ (nth as (k : Int)).s = pl ∨ ¬ nth ms (k : Int) < (nth as (k : Int)).r) : stA as ms pl k = [] := if_neg (by rcases h with h | h <;> simp [h])
theorem stB_yes {as : List Arc} {ms : List Int} {pl : Int} {k : Nat} (h1 : (nth as (k : Int)).t = pl) (h2 : nth ms (k : Int) > 0) : stB as ms pl k = [⟨nth ms (k : Int), (nth as (k : Int)).s, k, -1⟩] := if_pos (by simp [h1, h2])
theorem stB_no {as : List Arc} {ms : List Int} {pl : Int} {k : Nat} (h : ¬ (nth as (k : Int)).t = pl ∨ ¬ nth ms (k : Int) > 0) : stB as ms pl k = [] := if_neg (by rcases h with h | h <;> simp [h])
def stepsOf (as : List Arc) (ms : List Int) (pl : Int) : List Step := (List.range as.length).flatMap (stepsAt as ms pl)
structure Orient (as : List Arc) (pl : Int) (st : Step) : Prop where
  k0 : 0 ≤ st.k
  k1 : st.k < as.length
  ends : (st.d = 1 ∧ (nth as st.k).s = pl ∧ (nth as st.k).t = st.to) ∨ (st.d = -1 ∧ (nth as st.k).t = pl ∧ (nth as st.k).s = st.to)
structure Room' (as : List Arc) (ms : List Int) (st : Step) : Prop where
  pos : 0 < st.m
  most : (st.d = 1 ∧ st.m = (nth as st.k).r - nth ms st.k) ∨ (st.d = -1 ∧ st.m = nth ms st.k)
theorem stepsOf_ok {as : List Arc} {ms : List Int} {pl : Int} {st : Step} (h : st ∈ stepsOf as ms pl) : Orient as pl st ∧ Room' as ms st := by
  obtain ⟨k, hk, hs⟩ := List.mem_flatMap.mp h
  have hk' := List.mem_range.mp hk
  unfold stepsAt stA stB at hs
  rcases List.mem_append.mp hs with hs | hs
  · split at hs
    · rename_i hc
      rw [Bool.and_eq_true, decide_eq_true_eq, decide_eq_true_eq] at hc
      rw [List.mem_singleton] at hs
      subst hs
      exact ⟨⟨by show (0 : Int) ≤ k; omega, by show (k : Int) < _; omega, .inl ⟨rfl, hc.1, rfl⟩⟩, ⟨by show 0 < _ - _; omega, .inl ⟨rfl, rfl⟩⟩⟩
    · cases hs
  · split at hs
    · rename_i hc
      rw [Bool.and_eq_true, decide_eq_true_eq, decide_eq_true_eq] at hc
      rw [List.mem_singleton] at hs
      subst hs
      exact ⟨⟨by show (0 : Int) ≤ k; omega, by show (k : Int) < _; omega, .inr ⟨rfl, hc.1, rfl⟩⟩, ⟨by show 0 < nth ms (k : Int); omega, .inr ⟨rfl, rfl⟩⟩⟩
    · cases hs
theorem stepsOf_fwd {as : List Arc} {ms : List Int} {k : Nat} (hk : k < as.length) (h : nth ms (k : Int) < (nth as (k : Int)).r) : ∃ st ∈ stepsOf as ms (nth as (k : Int)).s, st.to = (nth as (k : Int)).t :=
  ⟨⟨_, _, _, _⟩, List.mem_flatMap.mpr ⟨k, List.mem_range.mpr hk, List.mem_append.mpr (.inl (by rw [stA_yes rfl h]; exact List.mem_singleton.mpr rfl))⟩, rfl⟩
theorem stepsOf_back {as : List Arc} {ms : List Int} {k : Nat} (hk : k < as.length) (h : 0 < nth ms (k : Int)) : ∃ st ∈ stepsOf as ms (nth as (k : Int)).t, st.to = (nth as (k : Int)).s :=
  ⟨⟨_, _, _, _⟩, List.mem_flatMap.mpr ⟨k, List.mem_range.mpr hk, List.mem_append.mpr (.inr (by rw [stB_yes rfl h]; exact List.mem_singleton.mpr rfl))⟩, rfl⟩
inductive Way (as : List Arc) (s : Int) (idx : Int → Nat) : Int → List Step → Prop
  | nil : Way as s idx s []
  | cons {pl : Int} {st : Step} {r : List Step} : Orient as pl st → idx pl < idx st.to → Way as s idx pl r → Way as s idx st.to (st :: r)
theorem way_far {as : List Arc} {s : Int} {idx : Int → Nat} {c : Int} {sts : List Step} (h : Way as s idx c sts) : ∀ st ∈ sts, idx (nth as st.k).s ≤ idx c ∧ idx (nth as st.k).t ≤ idx c := by
  induction h with
  | nil => intro st h; cases h
  | @cons pl st r o hi _ ih =>
    intro st' h
    rcases List.mem_cons.mp h with rfl | h
    · rcases o.ends with ⟨_, e1, e2⟩ | ⟨_, e1, e2⟩ <;> rw [e1, e2] <;> omega
    · have := ih st' h
      omega
theorem way_nodup {as : List Arc} {s : Int} {idx : Int → Nat} {c : Int} {sts : List Step} (h : Way as s idx c sts) : (sts.map (·.k)).Nodup := by
  induction h with
  | nil => exact List.nodup_nil
  | @cons pl st r o hi hw ih =>
    rw [List.map_cons]
    refine List.nodup_cons.mpr ⟨fun hm => ?_, ih⟩
    obtain ⟨st', h', e⟩ := List.mem_map.mp hm
    have := way_far hw st' h'
    rw [e] at this
    rcases o.ends with ⟨_, e1, e2⟩ | ⟨_, e1, e2⟩ <;> rw [e1, e2] at this <;> omega
theorem way_orient {as : List Arc} {s : Int} {idx : Int → Nat} {c : Int} {sts : List Step} (h : Way as s idx c sts) : ∀ st ∈ sts, ∃ pl, Orient as pl st := by
  induction h with
  | nil => intro st h; cases h
  | cons o _ _ ih =>
    intro st' h
    rcases List.mem_cons.mp h with rfl | h
    · exact ⟨_, o⟩
    · exact ih st' h

/-! ### more along a way -/
def augOne (much : Int) (ms : List Int) (st : Step) : List Int := ms.set st.k.toNat (nth ms st.k + much * st.d)
def aug (much : Int) (ms : List Int) (sts : List Step) : List Int := sts.foldl (augOne much) ms
theorem aug_len {much : Int} : ∀ {sts : List Step} {ms : List Int}, (aug much ms sts).length = ms.length
  | [], _ => rfl
  | st :: r, ms => by
    show (aug much (augOne much ms st) r).length = _
    rw [aug_len, augOne, List.length_set]
theorem into_setN {v x : Int} : ∀ {as : List Arc} {ms : List Int} {j : Nat} {a : Arc} {m : Int}, as[j]? = some a → ms[j]? = some m →
    into (as.zip (ms.set j x)) v = into (as.zip ms) v + (((if a.t = v then x else 0) - (if a.s = v then x else 0)) - ((if a.t = v then m else 0) - (if a.s = v then m else 0)))
  | [], _, _, _, _, h, _ => by simp at h
  | _ :: _, [], _, _, _, _, h => by simp at h
  | a :: as, m :: ms, 0, _, _, h1, h2 => by
    simp at h1 h2
    subst h1 h2
    rw [List.set_cons_zero, List.zip_cons_cons, List.zip_cons_cons, into_cons, into_cons]
    dsimp only
    omega
  | a :: as, m :: ms, j + 1, _, _, h1, h2 => by
    rw [List.getElem?_cons_succ] at h1 h2
    rw [List.set_cons_succ, List.zip_cons_cons, List.zip_cons_cons, into_cons, into_cons, into_setN h1 h2]
    omega
theorem into_augOne {much : Int} {as : List Arc} {ms : List Int} {pl v : Int} {st : Step} (hl : ms.length = as.length) (o : Orient as pl st) :
    into (as.zip (augOne much ms st)) v = into (as.zip ms) v + ((if st.to = v then much else 0) - (if pl = v then much else 0)) := by
  have e1 := nth_get (xs := as) (i := st.k) o.k0 o.k1
  have e2 := nth_get (xs := ms) (i := st.k) o.k0 (by rw [hl]; exact o.k1)
  unfold augOne
  rw [into_setN e1 e2]
  rcases o.ends with ⟨d, e3, e4⟩ | ⟨d, e3, e4⟩
  · rw [d, e3, e4]
    split <;> split <;> omega
  · rw [d, e3, e4]
    split <;> split <;> omega
theorem into_aug {much : Int} {as : List Arc} {s c v : Int} {idx : Int → Nat} {sts : List Step} (h : Way as s idx c sts) : ∀ {ms : List Int}, ms.length = as.length →
    into (as.zip (aug much ms sts)) v = into (as.zip ms) v + ((if c = v then much else 0) - (if s = v then much else 0)) := by
  induction h with
  | nil => intro ms _; show into (as.zip ms) v = _; omega
  | @cons pl st r o _ _ ih =>
    intro ms hl
    show into (as.zip (aug much (augOne much ms st) r)) v = _
    rw [ih (by rw [augOne, List.length_set]; exact hl), into_augOne hl o]
    omega
theorem aug_nth {much : Int} {n : Nat} : ∀ {sts : List Step} {ms : List Int}, ms.length = n → (∀ st ∈ sts, 0 ≤ st.k ∧ st.k < n) → (sts.map (·.k)).Nodup → ∀ j : Int, 0 ≤ j →
    (∃ st ∈ sts, st.k = j ∧ nth (aug much ms sts) j = nth ms j + much * st.d) ∨ nth (aug much ms sts) j = nth ms j
  | [], _, _, _, _, _, _ => .inr rfl
  | st :: r, ms, hl, hr, nd, j, h0 => by
    rw [List.map_cons] at nd
    obtain ⟨hn, nd⟩ := List.nodup_cons.mp nd
    have hst := hr st List.mem_cons_self
    have ih := aug_nth (much := much) (n := n) (sts := r) (ms := augOne much ms st) (by rw [augOne, List.length_set]; exact hl) (fun st' h => hr st' (List.mem_cons_of_mem _ h)) nd j h0
    have e : aug much ms (st :: r) = aug much (augOne much ms st) r := rfl
    rw [e]
    by_cases hj : st.k = j
    · subst hj
      rcases ih with ⟨st', h', e', _⟩ | ih
      · exact absurd (List.mem_map.mpr ⟨st', h', e'⟩) hn
      · refine .inl ⟨st, List.mem_cons_self, rfl, ?_⟩
        rw [ih, augOne, nth_set_eq hst.1 (by omega)]
    · have e2 : nth (augOne much ms st) j = nth ms j := by rw [augOne, nth_set_ne hst.1 h0 hj]
      rw [e2] at ih
      rcases ih with ⟨st', h', e', ih⟩ | ih
      · exact .inl ⟨st', List.mem_cons_of_mem _ h', e', ih⟩
      · exact .inr ih
theorem flow_aug {as : List Arc} {s g much : Int} {ms : List Int} {idx : Int → Nat} {sts : List Step} (F : Flow as s g ms) (w : Way as s idx g sts) (hr : ∀ st ∈ sts, Room' as ms st) (h0 : 0 ≤ much) (hm : ∀ st ∈ sts, much ≤ st.m) :
    Flow as s g (aug much ms sts) := by
  refine ⟨by rw [aug_len]; exact F.len, fun j hj => ?_, fun v h1 h2 => ?_⟩
  · have hb := F.bd j hj
    rcases aug_nth (much := much) (n := as.length) (sts := sts) (ms := ms) F.len (fun st h => by obtain ⟨pl, o⟩ := way_orient w st h; exact ⟨o.k0, o.k1⟩) (way_nodup w) (j : Int) (by omega) with ⟨st, h, e, e2⟩ | e2
    · have r := (hr st h).most
      have m := hm st h
      rw [e] at r
      rw [e2]
      rcases r with ⟨d, r⟩ | ⟨d, r⟩ <;> rw [d] <;> omega
    · rw [e2]
      exact hb
  · rw [into_aug w F.len, F.cons v h1 h2, if_neg (fun e => h2 e.symm), if_neg (fun e => h1 e.symm)]
    rfl
def rooms (as : List Arc) : Int := (as.map fun a => a.r).sum
theorem into_le {v : Int} : ∀ {as : List Arc} {ms : List Int}, ms.length = as.length → (∀ p ∈ as.zip ms, 0 ≤ p.2 ∧ p.2 ≤ p.1.r) → into (as.zip ms) v ≤ rooms as
  | [], [], _, _ => Int.le_refl _
  | [], _ :: _, h, _ => by simp at h
  | _ :: _, [], h, _ => by simp at h
  | a :: as, m :: ms, hl, h => by
    have ih := into_le (v := v) (as := as) (ms := ms) (by simpa using hl) fun p hp => h p (List.mem_cons_of_mem _ hp)
    have h0 := h (a, m) List.mem_cons_self
    dsimp only at h0
    rw [List.zip_cons_cons, into_cons]
    unfold rooms at ih ⊢
    rw [List.map_cons, List.sum_cons]
    dsimp only
    split <;> split <;> omega
theorem flow_none {as : List Arc} {s g : Int} (hr : ∀ a ∈ as, 0 ≤ a.r) : Flow as s g (List.replicate as.length 0) := by
  refine ⟨List.length_replicate, fun j hj => ?_, fun v _ _ => ?_⟩
  · rw [nth_replicate]
    exact ⟨Int.le_refl _, hr _ (nth_mem (by omega) (by omega))⟩
  · clear hr
    induction as with
    | nil => rfl
    | cons a r ih => rw [List.length_cons, List.replicate_succ, List.zip_cons_cons, into_cons, ih]; simp
end SB
/-! what is reached, plain -/
namespace SB
abbrev Ent := Option (Int × Step)
structure Reach (P : Int) (as : List Arc) (ms : List Int) (s : Int) (idx : Int → Nat) (found : List (Int × Ent)) : Prop where
  root : look found s = some none
  only : ∀ c, look found c = some none → c = s
  par : ∀ c pl st, look found c = some (some (pl, st)) → st ∈ stepsOf as ms pl ∧ st.to = c ∧ (look found pl).isSome = true ∧ idx pl < idx c
  lt : ∀ c, (look found c).isSome = true → idx c < found.length
  nodup : (found.map (·.1)).Nodup
  rng : ∀ c ∈ found.map (·.1), 0 ≤ c ∧ c < P
theorem look_one {β : Type} {k c : Int} {b : β} : look [(c, b)] k = if c = k then some b else none := by
  rw [look_cons]
  rfl
theorem reach_one {P : Int} {as : List Arc} {ms : List Int} {s : Int} (h0 : 0 ≤ s) (h1 : s < P) : Reach P as ms s (fun _ => 0) [(s, none)] := by
  refine ⟨?_, fun c h => ?_, fun c pl st h => ?_, fun c _ => by simp, by simp, fun c hc => ?_⟩
  · rw [look_one, if_pos rfl]
  · rw [look_one] at h
    split at h
    · rename_i e; exact e.symm
    · cases h
  · rw [look_one] at h
    split at h
    · cases h
    · cases h
  · simp only [List.map_cons, List.map_nil, List.mem_singleton] at hc
    subst hc
    exact ⟨h0, h1⟩
theorem reach_add {P : Int} {as : List Arc} {ms : List Int} {s pl : Int} {idx : Int → Nat} {found : List (Int × Ent)} {st : Step} (R : Reach P as ms s idx found) (hn : look found st.to = none)
    (hp : (look found pl).isSome = true) (hs : st ∈ stepsOf as ms pl) (h0 : 0 ≤ st.to) (h1 : st.to < P) : Reach P as ms s (fun v => if v = st.to then found.length else idx v) (found ++ [(st.to, some (pl, st))]) := by
  have old : ∀ {c : Int}, (look found c).isSome = true → c ≠ st.to := fun h e => by rw [e, hn] at h; cases h
  refine ⟨look_app_old R.root, fun c h => ?_, fun c pl' st' h => ?_, fun c h => ?_, ?_, fun c hc => ?_⟩
  · by_cases e : st.to = c
    · subst e
      rw [look_app_new hn] at h
      cases h
    · rw [look_app_ne e] at h
      exact R.only c h
  · by_cases e : st.to = c
    · subst e
      rw [look_app_new hn] at h
      cases h
      refine ⟨hs, rfl, ?_, ?_⟩
      · obtain ⟨b, hb⟩ := Option.isSome_iff_exists.mp hp
        rw [look_app_old hb]
        rfl
      · rw [if_neg (old hp), if_pos rfl]
        exact R.lt _ hp
    · rw [look_app_ne e] at h
      obtain ⟨a, b, c1, d1⟩ := R.par c pl' st' h
      refine ⟨a, b, ?_, ?_⟩
      · obtain ⟨z, hz⟩ := Option.isSome_iff_exists.mp c1
        rw [look_app_old hz]
        rfl
      · rw [if_neg (old c1), if_neg (Ne.symm e)]
        exact d1
  · rw [List.length_append]
    by_cases e : c = st.to
    · rw [if_pos e]
      simp
    · rw [if_neg e]
      rw [look_app_ne (Ne.symm e)] at h
      have := R.lt c h
      simp
      omega
  · rw [List.map_append]
    refine List.nodup_append.mpr ⟨R.nodup, by simp, fun a ha b hb => ?_⟩
    simp only [List.map_cons, List.map_nil, List.mem_singleton] at hb
    subst hb
    exact fun e => look_none.mp hn (e ▸ ha)
  · rw [List.map_append, List.mem_append] at hc
    rcases hc with hc | hc
    · exact R.rng c hc
    · simp only [List.map_cons, List.map_nil, List.mem_singleton] at hc
      subst hc
      exact ⟨h0, h1⟩
theorem nodup_sub {α : Type} [DecidableEq α] : ∀ {ks l : List α}, ks.Nodup → ks ⊆ l → ks.length ≤ l.length
  | [], _, _, _ => Nat.zero_le _
  | k :: r, l, nd, h => by
    obtain ⟨h1, h2⟩ := List.nodup_cons.mp nd
    have hk : k ∈ l := h List.mem_cons_self
    have := nodup_sub (l := l.erase k) h2 fun x hx => (List.mem_erase_of_ne (fun e => h1 (by rw [← e]; exact hx))).mpr (h (List.mem_cons_of_mem _ hx))
    rw [List.length_erase_of_mem hk] at this
    have := List.length_pos_of_mem hk
    rw [List.length_cons]
    omega
theorem nodup_len {ks : List Int} {P : Int} (nd : ks.Nodup) (h : ∀ k ∈ ks, 0 ≤ k ∧ k < P) : ks.length ≤ P.toNat := by
  have h2 : (ks.map Int.toNat).Nodup := by
    rw [List.Nodup, List.pairwise_map]
    refine nd.imp_of_mem fun {a b} ha hb hab e => hab ?_
    have := h a ha
    have := h b hb
    omega
  have h3 : ks.map Int.toNat ⊆ List.range P.toNat := fun x hx => by
    obtain ⟨k, hk, rfl⟩ := List.mem_map.mp hx
    have := h k hk
    rw [List.mem_range]
    omega
  have := nodup_sub h2 h3
  rw [List.length_map, List.length_range] at this
  exact this
theorem reach_len {P : Int} {as : List Arc} {ms : List Int} {s : Int} {idx : Int → Nat} {found : List (Int × Ent)} (R : Reach P as ms s idx found) : found.length ≤ P.toNat := by
  have := nodup_len R.nodup R.rng
  rw [List.length_map] at this
  exact this
/-- back along what is found -/
inductive Back (found : List (Int × Ent)) : Int → List Step → Prop
  | nil {c : Int} : look found c = some none → Back found c []
  | cons {c pl : Int} {st : Step} {r : List Step} : look found c = some (some (pl, st)) → Back found pl r → Back found c (st :: r)
theorem back_ex {P : Int} {as : List Arc} {ms : List Int} {s : Int} {idx : Int → Nat} {found : List (Int × Ent)} (R : Reach P as ms s idx found) : ∀ (n : Nat) (c : Int), idx c < n → (look found c).isSome = true →
    ∃ sts, Back found c sts ∧ Way as s idx c sts ∧ (∀ st ∈ sts, Room' as ms st) ∧ sts.length ≤ idx c
  | 0, _, h, _ => absurd h (Nat.not_lt_zero _)
  | n + 1, c, hi, hc => by
    obtain ⟨b, hb⟩ := Option.isSome_iff_exists.mp hc
    cases b with
    | none =>
      have e := R.only c hb
      subst e
      exact ⟨[], .nil hb, .nil, fun st h => (by cases h), Nat.zero_le _⟩
    | some q =>
      obtain ⟨pl, st⟩ := q
      obtain ⟨h1, h2, h3, h4⟩ := R.par c pl st hb
      obtain ⟨r, k1, k2, k3, k4⟩ := back_ex R n pl (by omega) h3
      subst h2
      refine ⟨st :: r, .cons hb k1, .cons (stepsOf_ok h1).1 h4 k2, fun st' h => ?_, by rw [List.length_cons]; omega⟩
      rcases List.mem_cons.mp h with rfl | h
      · exact (stepsOf_ok h1).2
      · exact k3 st' h
def Closed (as : List Arc) (ms : List Int) (found : List (Int × Ent)) (left : List Int) : Prop :=
  ∀ pl, (look found pl).isSome = true → pl ∉ left → ∀ st ∈ stepsOf as ms pl, (look found st.to).isSome = true
/-- where the goal is not reached, the reached ones are a cut as great -/
theorem tight {P s g : Int} {as : List Arc} {ms : List Int} {idx : Int → Nat} {found : List (Int × Ent)} (F : Flow as s g ms) (ok : ∀ a ∈ as, ArcOk P a) (R : Reach P as ms s idx found) (C : Closed as ms found [])
    (hg : (look found g).isSome = false) (g0 : 0 ≤ g) (g1 : g < P) : into (as.zip ms) g = cutX (fun v => (look found v).isSome) as := by
  rw [← flow_across F ok (fun v => (look found v).isSome) (by rw [R.root]; rfl) hg g0 g1]
  refine across_tight F.len (zip_bd (C := fun a m => ((look found a.s).isSome = true → (look found a.t).isSome = false → m = a.r) ∧ ((look found a.t).isSome = true → (look found a.s).isSome = false → m = 0)) F.len fun j hj => ⟨fun h1 h2 => ?_, fun h1 h2 => ?_⟩)
  · have hb := F.bd j hj
    by_cases e : nth ms (j : Int) < (nth as (j : Int)).r
    · obtain ⟨st, hs, he⟩ := stepsOf_fwd hj e
      have := C _ h1 (by simp) st hs
      rw [he] at this
      rw [h2] at this
      cases this
    · omega
  · have hb := F.bd j hj
    by_cases e : 0 < nth ms (j : Int)
    · obtain ⟨st, hs, he⟩ := stepsOf_back hj e
      have := C _ h1 (by simp) st hs
      rw [he] at this
      rw [h2] at this
      cases this
    · omega
theorem flow_le {P s g : Int} {as : List Arc} {ms : List Int} (F : Flow as s g ms) (ok : ∀ a ∈ as, ArcOk P a) (X : Int → Bool) (hs : X s = true) (hg : X g = false) (g0 : 0 ≤ g) (g1 : g < P) : into (as.zip ms) g ≤ cutX X as := by
  rw [← flow_across F ok X hs hg g0 g1]
  exact across_le F.len (zip_bd (C := fun a m => 0 ≤ m ∧ m ≤ a.r) F.len F.bd)
/-- the answer of greatest -/
structure Great (P : Int) (as : List Arc) (s g : Int) (ms side : List Int) : Prop where
  flow : Flow as s g ms
  up : side.Pairwise (· < ·)
  rng : ∀ v ∈ side, 0 ≤ v ∧ v < P
  st : s ∈ side
  gl : g ∉ side
  size : into (as.zip ms) g = cutSize as side
  cl : ∀ v ∈ side, ∀ st ∈ stepsOf as ms v, st.to ∈ side
  mn : ∀ X : Int → Prop, X s → (∀ v, X v → ∀ st ∈ stepsOf as ms v, X st.to) → ∀ v ∈ side, X v
theorem reach_mn {P s : Int} {as : List Arc} {ms : List Int} {idx : Int → Nat} {found : List (Int × Ent)} (R : Reach P as ms s idx found) {X : Int → Prop} (h1 : X s) (h2 : ∀ v, X v → ∀ st ∈ stepsOf as ms v, X st.to) : ∀ (n : Nat) (v : Int), idx v < n → (look found v).isSome = true → X v
  | 0, _, h, _ => absurd h (Nat.not_lt_zero _)
  | n + 1, v, hi, hv => by
    obtain ⟨b, hb⟩ := Option.isSome_iff_exists.mp hv
    cases b with
    | none => rw [R.only v hb]; exact h1
    | some q =>
      obtain ⟨pl, st⟩ := q
      obtain ⟨g1, g2, g3, g4⟩ := R.par v pl st hb
      rw [← g2]
      exact h2 pl (reach_mn R h1 h2 n pl (by omega) g3) st g1
theorem pairwise_lt {ys : List Int} (h : ys.Pairwise (· ≤ ·)) (nd : ys.Nodup) : ys.Pairwise (· < ·) := by
  refine (h.and nd).imp fun {a b} h => ?_
  have := h.1
  have := h.2
  omega
theorem great_of {P s g : Int} {as : List Arc} {ms ys : List Int} {idx : Int → Nat} {found : List (Int × Ent)} (F : Flow as s g ms) (ok : ∀ a ∈ as, ArcOk P a) (R : Reach P as ms s idx found) (C : Closed as ms found [])
    (hg : (look found g).isSome = false) (g0 : 0 ≤ g) (g1 : g < P) (pm : ys.Perm (found.map (·.1))) (le : ys.Pairwise (· ≤ ·)) : Great P as s g ms ys := by
  have hX : ∀ v, (look found v).isSome = decide (v ∈ ys) := fun v => by
    rw [Bool.eq_iff_iff, look_isSome, decide_eq_true_iff, pm.mem_iff]
  refine ⟨F, pairwise_lt le (pm.nodup_iff.mpr R.nodup), fun v hv => R.rng v (pm.mem_iff.mp hv), ?_, ?_, ?_, fun v hv st hst => ?_, fun X h1 h2 v hv => ?_⟩
  · rw [pm.mem_iff, ← look_isSome, R.root]
    rfl
  · rw [pm.mem_iff, ← look_isSome, hg]
    exact Bool.false_ne_true
  · rw [tight F ok R C hg g0 g1, ← cutX_mem]
    unfold cutX
    simp only [hX]
  · have := C v (by rw [hX, decide_eq_true hv]) (by simp) st hst
    rw [hX] at this
    exact of_decide_eq_true this
  · exact reach_mn R h1 h2 _ v (Nat.lt_succ_self _) (by rw [hX, decide_eq_true hv])
theorem great_size {P s g : Int} {as : List Arc} {ms ms' side side' : List Int} (ok : ∀ a ∈ as, ArcOk P a) (g0 : 0 ≤ g) (g1 : g < P) (G : Great P as s g ms side) (G' : Great P as s g ms' side') : into (as.zip ms) g = into (as.zip ms') g := by
  refine Int.le_antisymm ?_ ?_
  · rw [G'.size, ← cutX_mem]
    exact flow_le G.flow ok _ (decide_eq_true G'.st) (decide_eq_false G'.gl) g0 g1
  · rw [G.size, ← cutX_mem]
    exact flow_le G'.flow ok _ (decide_eq_true G.st) (decide_eq_false G.gl) g0 g1
end SB
namespace SB
theorem closed_add {as : List Arc} {ms : List Int} {found : List (Int × Ent)} {left : List Int} {c : Int} {b : Ent} (C : Closed as ms found left) : Closed as ms (found ++ [(c, b)]) (left ++ [c]) := by
  intro pl hp hl st hs
  have hl' : pl ∉ left := fun h => hl (List.mem_append.mpr (.inl h))
  have hc : c ≠ pl := fun e => hl (List.mem_append.mpr (.inr (by rw [e]; exact List.mem_singleton.mpr rfl)))
  rw [look_app_ne hc] at hp
  obtain ⟨z, hz⟩ := Option.isSome_iff_exists.mp (C pl hp hl' st hs)
  rw [look_app_old hz]
  rfl
theorem some_add {found : List (Int × Ent)} {c v : Int} {b : Ent} (h : (look found v).isSome = true) : (look (found ++ [(c, b)]) v).isSome = true := by
  obtain ⟨z, hz⟩ := Option.isSome_iff_exists.mp h
  rw [look_app_old hz]
  rfl
theorem closed_one {as : List Arc} {ms : List Int} {s : Int} : Closed as ms [(s, none)] [s] := by
  intro pl hp hl
  rw [look_one] at hp
  split at hp
  · rename_i e
    exact absurd (List.mem_singleton.mpr e.symm) hl
  · cases hp
theorem stepsOf_rng {P : Int} {as : List Arc} {ms : List Int} {pl : Int} {st : Step} (ok : ∀ a ∈ as, ArcOk P a) (h : st ∈ stepsOf as ms pl) : 0 ≤ st.to ∧ st.to < P := by
  have o := (stepsOf_ok h).1
  have a := ok _ (nth_mem o.k0 o.k1)
  rcases o.ends with ⟨_, _, e⟩ | ⟨_, _, e⟩ <;> rw [← e]
  · exact ⟨a.t0, a.t1⟩
  · exact ⟨a.s0, a.s1⟩
end SB
namespace SB
structure GoodG (P : Int) (as : List Arc) (s g : Int) : Prop where
  look : LookOk P as
  ne : s ≠ g
  s0 : 0 ≤ s
  s1 : s < P
  g0 : 0 ≤ g
  g1 : g < P
  pos : ∀ a ∈ as, 0 ≤ a.r
theorem way_ne {as : List Arc} {s g : Int} {idx : Int → Nat} {sts : List Step} (h : Way as s idx g sts) (hne : s ≠ g) : 0 < sts.length := by
  cases h with
  | nil => exact absurd rfl hne
  | cons _ _ _ => simp
theorem aug_take {much : Int} {ms : List Int} {sts : List Step} {i : Nat} {st : Step} (h : sts[i]? = some st) : aug much ms (sts.take (i + 1)) = augOne much (aug much ms (sts.take i)) st := by
  unfold aug
  rw [List.take_add_one, h, List.foldl_append]
  rfl
end SB
namespace SB
theorem up_ext : ∀ {xs ys : List Int}, xs.Pairwise (· < ·) → ys.Pairwise (· < ·) → (∀ j, j ∈ xs ↔ j ∈ ys) → xs = ys
  | [], [], _, _, _ => rfl
  | [], y :: ys, _, _, h => absurd ((h y).mpr List.mem_cons_self) (by simp)
  | x :: xs, [], _, _, h => absurd ((h x).mp List.mem_cons_self) (by simp)
  | x :: xs, y :: ys, hx, hy, h => by
    obtain ⟨hx1, hx2⟩ := List.pairwise_cons.mp hx
    obtain ⟨hy1, hy2⟩ := List.pairwise_cons.mp hy
    have e : x = y := by
      rcases List.mem_cons.mp ((h x).mp List.mem_cons_self) with e | e
      · exact e
      · rcases List.mem_cons.mp ((h y).mpr List.mem_cons_self) with e2 | e2
        · exact e2.symm
        · have := hy1 x e
          have := hx1 y e2
          omega
    subst e
    rw [up_ext hx2 hy2 fun j => ⟨fun hj => ?_, fun hj => ?_⟩]
    · rcases List.mem_cons.mp ((h j).mp (List.mem_cons_of_mem _ hj)) with e | e
      · have := hx1 j hj
        omega
      · exact e
    · rcases List.mem_cons.mp ((h j).mpr (List.mem_cons_of_mem _ hj)) with e | e
      · have := hy1 j hj
        omega
      · exact e
theorem goal_ne {s r P : Int} (s0 : 0 ≤ s) (s1 : s < P) (r0 : 0 ≤ r) (r1 : r < P - 1) : s ≠ (s + 1 + r) % P := by
  by_cases h : s + 1 + r < P
  · rw [Int.emod_eq_of_lt (by omega) h]
    omega
  · have e : (s + 1 + r) % P = s + 1 + r - P := by
      have e1 : s + 1 + r = (s + 1 + r - P) + P * 1 := by omega
      rw [e1, Int.add_mul_emod_self_left, Int.emod_eq_of_lt (by omega) (by omega)]
      omega
    rw [e]
    omega
end SB
/-! shortest ways, plain -/
namespace SB
/-! ### what can be reached -/
def ClosedX (as : List Arc) (X : Int → Prop) : Prop := ∀ a ∈ as, X a.s → X a.t
structure RchOk (P : Int) (as : List Arc) (s : Int) (xs : List Int) : Prop where
  st : s ∈ xs
  rng : ∀ v ∈ xs, 0 ≤ v ∧ v < P
  nd : xs.Nodup
  all : ∀ X : Int → Prop, X s → ClosedX as X → ∀ v ∈ xs, X v
structure RchAll (P : Int) (as : List Arc) (s : Int) (xs : List Int) : Prop extends RchOk P as s xs where
  cl : ClosedX as (· ∈ xs)
def rchStep (xs : List Int) (a : Arc) : List Int := if (decide (a.s ∈ xs) && !decide (a.t ∈ xs)) = true then xs ++ [a.t] else xs
theorem rchStep_ok {P s : Int} {as : List Arc} {xs : List Int} {a : Arc} (R : RchOk P as s xs) (ha : a ∈ as) (ok : ArcOk P a) : RchOk P as s (rchStep xs a) := by
  unfold rchStep
  split
  · rename_i h
    rw [Bool.and_eq_true, decide_eq_true_eq, Bool.not_eq_true', decide_eq_false_iff_not] at h
    refine ⟨List.mem_append.mpr (.inl R.st), fun v hv => ?_, List.nodup_append.mpr ⟨R.nd, by simp, fun b hb c hc => ?_⟩, fun X h1 h2 v hv => ?_⟩
    · rcases List.mem_append.mp hv with h' | h'
      · exact R.rng v h'
      · rw [List.mem_singleton.mp h']
        exact ⟨ok.t0, ok.t1⟩
    · rw [List.mem_singleton.mp hc]
      exact fun e => h.2 (e ▸ hb)
    · rcases List.mem_append.mp hv with h' | h'
      · exact R.all X h1 h2 v h'
      · rw [List.mem_singleton.mp h']
        exact h2 a ha (R.all X h1 h2 _ h.1)
  · exact R
def rchRound (xs : List Int) (as : List Arc) : List Int := as.foldl rchStep xs
theorem rchRound_sub : ∀ {as : List Arc} {xs : List Int}, xs.length ≤ (rchRound xs as).length ∧ ((rchRound xs as).length = xs.length → rchRound xs as = xs ∧ ∀ a ∈ as, a.s ∈ xs → a.t ∈ xs)
  | [], _ => ⟨Nat.le_refl _, fun _ => ⟨rfl, fun a h => by cases h⟩⟩
  | a :: r, xs => by
    have ih := rchRound_sub (as := r) (xs := rchStep xs a)
    have e : rchRound xs (a :: r) = rchRound (rchStep xs a) r := rfl
    rw [e]
    by_cases h : (decide (a.s ∈ xs) && !decide (a.t ∈ xs)) = true
    · have e2 : rchStep xs a = xs ++ [a.t] := if_pos h
      rw [e2] at ih ⊢
      rw [List.length_append, List.length_singleton] at ih
      exact ⟨by omega, fun h' => by omega⟩
    · have e2 : rchStep xs a = xs := if_neg h
      rw [e2] at ih ⊢
      refine ⟨ih.1, fun h' => ⟨(ih.2 h').1, fun b hb => ?_⟩⟩
      rcases List.mem_cons.mp hb with rfl | hb
      · intro h1
        by_cases h2 : b.t ∈ xs
        · exact h2
        · exact absurd (by simp [h1, h2]) h
      · exact (ih.2 h').2 b hb
end SB
namespace SB
/-! ### lengths and last arcs -/
structure BF where
  L : List (Option Int)
  A : List (Option Int)
  f : Option Int
def better (L : List (Option Int)) (a : Arc) : Option Int := match nth L a.s with
  | none => none
  | some y => match nth L a.t with
    | none => some (y + a.c)
    | some z => if y + a.c < z then some (y + a.c) else none
def relax (as : List Arc) (b : BF) (j : Nat) : BF := match better b.L (nth as (j : Int)) with
  | none => b
  | some w => ⟨b.L.set (nth as (j : Int)).t.toNat (some w), b.A.set (nth as (j : Int)).t.toNat (some (j : Int)), some (nth as (j : Int)).t⟩
/-- a path of last arcs, from u to v -/
inductive PP (as : List Arc) (A : List (Option Int)) : Int → Int → Int → Prop
  | one {v k : Int} : 0 ≤ v → nth A v = some k → PP as A (nth as k).s v (nth as k).c
  | cons {u v k c : Int} : 0 ≤ v → nth A v = some k → PP as A u (nth as k).s c → PP as A u v (c + (nth as k).c)
structure BInv (P : Int) (as : List Arc) (s : Int) (L A : List (Option Int)) : Prop where
  lenL : L.length = P.toNat
  lenA : A.length = P.toNat
  par : ∀ v k, 0 ≤ v → nth A v = some k → 0 ≤ k ∧ k < as.length ∧ (nth as k).t = v ∧ ∃ y x, nth L (nth as k).s = some y ∧ nth L v = some x ∧ y + (nth as k).c ≤ x
  root : ∀ v x, 0 ≤ v → nth A v = none → nth L v = some x → v = s ∧ x = 0
  st : ∃ x, nth L s = some x ∧ x ≤ 0 ∧ (nth A s ≠ none → x < 0)
  reach : ∀ (X : Int → Int → Prop), X s 0 → (∀ a ∈ as, ∀ x, X a.s x → X a.t (x + a.c)) → ∀ v x, 0 ≤ v → nth L v = some x → X v x
  neg : ∀ v c, PP as A v v c → c < 0
theorem pp_src {as : List Arc} {A L : List (Option Int)} (h : ∀ v k, 0 ≤ v → nth A v = some k → ∃ y, nth L (nth as k).s = some y) {u v c : Int} (p : PP as A u v c) : ∃ y, nth L u = some y := by
  induction p with
  | one h0 e => exact h _ _ h0 e
  | cons _ _ _ ih => exact ih
theorem pp_le {P : Int} {as : List Arc} {s : Int} {L A : List (Option Int)} (I : BInv P as s L A) {u v c : Int} (p : PP as A u v c) : ∃ y x, nth L u = some y ∧ nth L v = some x ∧ y + c ≤ x := by
  induction p with
  | one h0 e =>
    obtain ⟨_, _, _, h⟩ := I.par _ _ h0 e
    exact h
  | @cons u v k c h0 e _ ih =>
    obtain ⟨_, _, _, y, x, h1, h2, h3⟩ := I.par _ _ h0 e
    obtain ⟨y', x', g1, g2, g3⟩ := ih
    rw [h1] at g2
    cases g2
    exact ⟨y', x, g1, h2, by omega⟩
theorem better_some {L : List (Option Int)} {a : Arc} {w : Int} (h : better L a = some w) : ∃ y, nth L a.s = some y ∧ w = y + a.c ∧ ∀ z, nth L a.t = some z → w < z := by
  unfold better at h
  split at h
  · cases h
  · rename_i y e
    split at h
    · rename_i e2
      cases h
      exact ⟨y, e, rfl, fun z hz => by rw [e2] at hz; cases hz⟩
    · rename_i z e2
      split at h
      · rename_i lt
        cases h
        exact ⟨y, e, rfl, fun z' hz => by rw [e2] at hz; cases hz; exact lt⟩
      · cases h
theorem better_none {L : List (Option Int)} {a : Arc} {y : Int} (h : better L a = none) (e : nth L a.s = some y) : ∃ z, nth L a.t = some z ∧ z ≤ y + a.c := by
  unfold better at h
  rw [e] at h
  dsimp only at h
  split at h
  · cases h
  · rename_i z e2
    split at h
    · cases h
    · exact ⟨z, e2, by omega⟩
theorem oset_eq {L : List (Option Int)} {i : Int} {v : Option Int} (h0 : 0 ≤ i) (h : i < L.length) : nth (L.set i.toNat v) i = v := by
  have hl : i.toNat < L.length := by omega
  apply nth_eq
  rw [List.getElem?_set, if_pos rfl, if_pos hl]
theorem oset_ne {L : List (Option Int)} {i j : Int} {v : Option Int} (h : i.toNat ≠ j.toNat) : nth (L.set i.toNat v) j = nth L j := by
  unfold nth
  rw [List.getD_eq_getElem?_getD, List.getD_eq_getElem?_getD, List.getElem?_set, if_neg h]
end SB
namespace SB
theorem relax_inv {P s : Int} {as : List Arc} {L A : List (Option Int)} {j : Nat} {w : Int} (ok : ∀ a ∈ as, ArcOk P a) (hP : 0 ≤ P) (s0 : 0 ≤ s) (I : BInv P as s L A) (hj : j < as.length) (hw : better L (nth as (j : Int)) = some w) :
    BInv P as s (L.set (nth as (j : Int)).t.toNat (some w)) (A.set (nth as (j : Int)).t.toNat (some (j : Int))) := by
  have ha := nth_mem (xs := as) (i := (j : Int)) (by omega) (by omega)
  obtain ⟨o1, o2, o3, o4⟩ := ok _ ha
  obtain ⟨y, hy, hwy, hlt⟩ := better_some hw
  have lL := I.lenL
  have lA := I.lenA
  generalize hu : (nth as (j : Int)).s = u at *
  generalize ht : (nth as (j : Int)).t = t at *
  generalize hc : (nth as (j : Int)).c = c at *
  have L1 : nth (L.set t.toNat (some w)) t = some w := oset_eq o3 (by omega)
  have A1 : nth (A.set t.toNat (some (j : Int))) t = some (j : Int) := oset_eq o3 (by omega)
  have L2 : ∀ v, 0 ≤ v → v ≠ t → nth (L.set t.toNat (some w)) v = nth L v := fun v h0 h => oset_ne (by omega)
  have A2 : ∀ v, 0 ≤ v → v ≠ t → nth (A.set t.toNat (some (j : Int))) v = nth A v := fun v h0 h => oset_ne (by omega)
  have src : ∀ k : Int, 0 ≤ k → k < as.length → 0 ≤ (nth as k).s := fun k h0 h1 => (ok _ (nth_mem h0 h1)).s0
  -- a place's length does not grow
  have dn : ∀ v x, 0 ≤ v → nth L v = some x → ∃ x', nth (L.set t.toNat (some w)) v = some x' ∧ x' ≤ x := fun v x h0 h => by
    by_cases e : v = t
    · subst e
      exact ⟨w, L1, Int.le_of_lt (hlt x h)⟩
    · exact ⟨x, by rw [L2 v h0 e]; exact h, Int.le_refl _⟩
  refine ⟨by rw [List.length_set]; exact lL, by rw [List.length_set]; exact lA, fun v k h0 h => ?_, fun v x h0 h1 h2 => ?_, ?_, fun X h1 h2 v x h0 h => ?_, fun v c' p => ?_⟩
  · by_cases e : v = t
    · subst e
      rw [A1] at h
      cases h
      refine ⟨by omega, by omega, ht, ?_⟩
      rw [hu, hc]
      obtain ⟨y', hy', hle⟩ := dn u y o1 hy
      exact ⟨y', w, hy', L1, by omega⟩
    · rw [A2 v h0 e] at h
      obtain ⟨k0, k1, k2, y2, x2, g1, g2, g3⟩ := I.par v k h0 h
      obtain ⟨y3, hy3, hle⟩ := dn _ y2 (src k k0 k1) g1
      exact ⟨k0, k1, k2, y3, x2, hy3, by rw [L2 v h0 e]; exact g2, by omega⟩
  · by_cases e : v = t
    · subst e
      rw [A1] at h1
      cases h1
    · rw [A2 v h0 e] at h1
      rw [L2 v h0 e] at h2
      exact I.root v x h0 h1 h2
  · obtain ⟨x, hx, hx0, hx1⟩ := I.st
    by_cases e : s = t
    · have := hlt x (by rw [← e]; exact hx)
      refine ⟨w, by rw [e]; exact L1, by omega, fun _ => by omega⟩
    · exact ⟨x, by rw [L2 s s0 e]; exact hx, hx0, by rw [A2 s s0 e]; exact hx1⟩
  · by_cases e : v = t
    · subst e
      rw [L1] at h
      cases h
      have g1 := I.reach X h1 h2 u y o1 hy
      have g3 := h2 _ ha y (by rw [hu]; exact g1)
      rw [ht, hc, ← hwy] at g3
      exact g3
    · rw [L2 v h0 e] at h
      exact I.reach X h1 h2 v x h0 h
  · have main : ∀ {a b c2 : Int}, PP as (A.set t.toNat (some (j : Int))) a b c2 → PP as A a b c2 ∨ ∀ ya xb, nth L a = some ya → nth L b = some xb → ya + c2 < xb := fun {a b c2} p => by
      induction p with
      | @one v k h0 e =>
        by_cases ev : v = t
        · subst ev
          rw [A1] at e
          cases e
          refine .inr fun ya xb g1 g2 => ?_
          rw [hu, hy] at g1
          cases g1
          have := hlt xb g2
          rw [hc]
          omega
        · rw [A2 v h0 ev] at e
          exact .inl (.one h0 e)
      | @cons a v k c3 h0 e _ ih =>
        by_cases ev : v = t
        · subst ev
          rw [A1] at e
          cases e
          refine .inr fun ya xb g1 g2 => ?_
          have := hlt xb g2
          rw [hc]
          rw [hu] at ih
          rcases ih with p | p
          · obtain ⟨y4, x4, q1, q2, q3⟩ := pp_le I p
            rw [g1] at q1
            rw [hy] at q2
            cases q1
            cases q2
            omega
          · have := p ya y g1 hy
            omega
        · rw [A2 v h0 ev] at e
          rcases ih with p | p
          · exact .inl (.cons h0 e p)
          · refine .inr fun ya xb g1 g2 => ?_
            obtain ⟨_, _, _, y5, x5, q1, q2, q3⟩ := I.par v k h0 e
            rw [g2] at q2
            cases q2
            have := p ya y5 g1 q1
            omega
    obtain ⟨yv, hyv⟩ : ∃ y, nth L v = some y := by
      refine pp_src (A := A.set t.toNat (some (j : Int))) (L := L) (fun v k h0 e => ?_) p
      by_cases ev : v = t
      · subst ev
        rw [A1] at e
        cases e
        exact ⟨y, by rw [hu]; exact hy⟩
      · rw [A2 v h0 ev] at e
        obtain ⟨_, _, _, y5, x5, q1, _, _⟩ := I.par v k h0 e
        exact ⟨y5, q1⟩
    rcases main p with q | q
    · exact I.neg v c' q
    · have := q yv yv hyv hyv
      omega
end SB
namespace SB
theorem oreplicate {n : Nat} {k : Int} : nth (List.replicate n (none : Option Int)) k = none := by
  unfold nth
  rw [List.getD_eq_getElem?_getD, List.getElem?_replicate]
  split <;> rfl
theorem pp_none {as : List Arc} {n : Nat} {u v c : Int} (p : PP as (List.replicate n none) u v c) : False := by
  cases p with
  | one _ e => rw [oreplicate] at e; cases e
  | cons _ e _ => rw [oreplicate] at e; cases e
theorem binv_first {P s : Int} {as : List Arc} (s0 : 0 ≤ s) (s1 : s < P) : BInv P as s ((List.replicate P.toNat none).set s.toNat (some 0)) (List.replicate P.toNat none) := by
  have e1 : nth ((List.replicate P.toNat (none : Option Int)).set s.toNat (some 0)) s = some 0 := oset_eq s0 (by rw [List.length_replicate]; omega)
  have e2 : ∀ v, 0 ≤ v → v ≠ s → nth ((List.replicate P.toNat (none : Option Int)).set s.toNat (some 0)) v = none := fun v h0 h => by rw [oset_ne (by omega), oreplicate]
  have e3 : ∀ v x, 0 ≤ v → nth ((List.replicate P.toNat (none : Option Int)).set s.toNat (some 0)) v = some x → v = s ∧ x = 0 := fun v x h0 h => by
    by_cases e : v = s
    · subst e
      rw [e1] at h
      cases h
      exact ⟨rfl, rfl⟩
    · rw [e2 v h0 e] at h
      cases h
  refine ⟨by rw [List.length_set, List.length_replicate], List.length_replicate, fun v k _ h => ?_, fun v x h0 _ h => e3 v x h0 h, ⟨0, e1, Int.le_refl _, fun h => absurd oreplicate h⟩, fun X h1 _ v x h0 h => ?_, fun v c p => (pp_none p).elim⟩
  · rw [oreplicate] at h
    cases h
  · obtain ⟨rfl, rfl⟩ := e3 v x h0 h
    exact h1
theorem BInv.rch {P : Int} {as : List Arc} {s : Int} {L A : List (Option Int)} (I : BInv P as s L A) {X : Int → Prop} (h1 : X s) (h2 : ClosedX as X) {v x : Int} (h0 : 0 ≤ v) (h : nth L v = some x) : X v :=
  I.reach (fun v _ => X v) h1 (fun a ha _ h => h2 a ha h) v x h0 h
/-! ### rounds -/
/-- an arc that was gone along since its begin was changed last -/
def Good (L : List (Option Int)) (tm : Int → Nat) (q : Nat) (a : Arc) : Prop :=
  ∀ y, nth L a.s = some y → tm a.s < q → ∃ z, nth L a.t = some z ∧ z ≤ y + a.c ∧ (z = y + a.c → tm a.t ≤ tm a.s + 1)
/-- in round q + 1, before arc j -/
structure RInv (as : List Arc) (s : Int) (L A : List (Option Int)) (tm : Int → Nat) (q j : Nat) : Prop where
  done : ∀ i : Nat, i < j → i < as.length → Good L tm (q + 1) (nth as (i : Int))
  left : ∀ i : Nat, j ≤ i → i < as.length → Good L tm q (nth as (i : Int))
  most : ∀ v, tm v ≤ q + 1
  root : ∀ v x, 0 ≤ v → nth A v = none → nth L v = some x → tm v = 0
theorem rinv_keep {P s : Int} {as : List Arc} {L A : List (Option Int)} {tm : Int → Nat} {q j : Nat} (I : RInv as s L A tm q j) (hw : better L (nth as (j : Int)) = none) : RInv as s L A tm q (j + 1) := by
  refine ⟨fun i h1 h2 => ?_, fun i h1 h2 => I.left i (by omega) h2, I.most, I.root⟩
  by_cases e : i < j
  · exact I.done i e h2
  · have e2 : i = j := by omega
    subst e2
    intro y hy _
    obtain ⟨z, hz, hle⟩ := better_none hw hy
    refine ⟨z, hz, hle, fun he => ?_⟩
    by_cases hq : tm (nth as (i : Int)).s < q
    · obtain ⟨z', g1, _, g3⟩ := I.left i (Nat.le_refl _) h2 y hy hq
      rw [hz] at g1
      cases g1
      exact g3 he
    · have := I.most (nth as (i : Int)).t
      omega
theorem rinv_relax {P s : Int} {as : List Arc} {L A : List (Option Int)} {tm : Int → Nat} {q j : Nat} {w : Int} (ok : ∀ a ∈ as, ArcOk P a) (hP : 0 ≤ P) (lL : L.length = P.toNat) (lA : A.length = P.toNat) (I : RInv as s L A tm q j) (hj : j < as.length) (hw : better L (nth as (j : Int)) = some w) :
    RInv as s (L.set (nth as (j : Int)).t.toNat (some w)) (A.set (nth as (j : Int)).t.toNat (some (j : Int))) (fun v => if v = (nth as (j : Int)).t then q + 1 else tm v) q (j + 1) := by
  have ha := nth_mem (xs := as) (i := (j : Int)) (by omega) (by omega)
  obtain ⟨o1, o2, o3, o4⟩ := ok _ ha
  obtain ⟨y, hy, hwy, hlt⟩ := better_some hw
  have gj : ∀ y', nth L (nth as (j : Int)).s = some y' → tm (nth as (j : Int)).s < q → False := fun y' h1 h2 => by
    obtain ⟨z, hz, hle, _⟩ := I.left j (Nat.le_refl _) hj y' h1 h2
    have := hlt z hz
    rw [hy] at h1
    cases h1
    omega
  generalize hu : (nth as (j : Int)).s = u at *
  generalize ht : (nth as (j : Int)).t = t at *
  generalize hc : (nth as (j : Int)).c = c at *
  have L1 : nth (L.set t.toNat (some w)) t = some w := oset_eq o3 (by omega)
  have A1 : nth (A.set t.toNat (some (j : Int))) t = some (j : Int) := oset_eq o3 (by omega)
  have L2 : ∀ v, 0 ≤ v → v ≠ t → nth (L.set t.toNat (some w)) v = nth L v := fun v h0 h => oset_ne (by omega)
  have A2 : ∀ v, 0 ≤ v → v ≠ t → nth (A.set t.toNat (some (j : Int))) v = nth A v := fun v h0 h => oset_ne (by omega)
  have old : ∀ (r : Nat) (a : Arc), r ≤ q + 1 → ArcOk P a → Good L tm r a → Good (L.set t.toNat (some w)) (fun v => if v = t then q + 1 else tm v) r a := fun r a hr ao g y2 h1 h2 => by
    dsimp only at h2 ⊢
    by_cases es : a.s = t
    · rw [if_pos es] at h2
      omega
    · rw [if_neg es] at h2 ⊢
      rw [L2 _ ao.s0 es] at h1
      obtain ⟨z, g1, g2, g3⟩ := g y2 h1 h2
      by_cases et : a.t = t
      · rw [if_pos et, et]
        rw [et] at g1
        have := hlt z g1
        exact ⟨w, L1, by omega, fun he => by omega⟩
      · rw [if_neg et, L2 _ ao.t0 et]
        exact ⟨z, g1, g2, g3⟩
  refine ⟨fun i h1 h2 => ?_, fun i h1 h2 => old q _ (by omega) (ok _ (nth_mem (by omega) (by omega))) (I.left i (by omega) h2), fun v => ?_, fun v x h0 h1 h2 => ?_⟩
  · by_cases e : i < j
    · exact old (q + 1) _ (Nat.le_refl _) (ok _ (nth_mem (by omega) (by omega))) (I.done i e h2)
    · have e2 : i = j := by omega
      subst e2
      intro y2 h3 h4
      dsimp only at h4 ⊢
      rw [hu] at h3 h4 ⊢
      rw [ht, hc]
      by_cases es : u = t
      · rw [if_pos es] at h4
        omega
      · rw [if_neg es] at h4 ⊢
        rw [L2 _ o1 es, hy] at h3
        cases h3
        refine ⟨w, L1, by omega, fun _ => ?_⟩
        rw [if_pos rfl]
        by_cases hq : tm u < q
        · exact (gj y hy hq).elim
        · omega
  · show (if v = t then q + 1 else tm v) ≤ _
    split
    · exact Nat.le_refl _
    · exact I.most v
  · show (if v = t then q + 1 else tm v) = 0
    by_cases e : v = t
    · subst e
      rw [A1] at h1
      cases h1
    · rw [A2 v h0 e] at h1
      rw [L2 v h0 e] at h2
      rw [if_neg e]
      exact I.root v x h0 h1 h2
end SB
namespace SB
/-! ### back along the last arcs -/
def up (as : List Arc) (A : List (Option Int)) (v : Int) : Int := match nth A v with
  | some k => (nth as k).s
  | none => v
def upN (as : List Arc) (A : List (Option Int)) : Nat → Int → Int
  | 0, v => v
  | n + 1, v => upN as A n (up as A v)
theorem upN_add {as : List Arc} {A : List (Option Int)} : ∀ {m n : Nat} {v : Int}, upN as A (m + n) v = upN as A n (upN as A m v)
  | 0, n, v => by rw [Nat.zero_add]; rfl
  | m + 1, n, v => by
    rw [show m + 1 + n = (m + n) + 1 by omega]
    show upN as A (m + n) (up as A v) = _
    rw [upN_add]
    rfl
theorem up_some {as : List Arc} {A : List (Option Int)} {v k : Int} (h : nth A v = some k) : up as A v = (nth as k).s := by unfold up; rw [h]
theorem up_none {as : List Arc} {A : List (Option Int)} {v : Int} (h : nth A v = none) : up as A v = v := by unfold up; rw [h]
theorem upN_none {as : List Arc} {A : List (Option Int)} : ∀ {n : Nat} {v : Int}, nth A v = none → upN as A n v = v
  | 0, _, _ => rfl
  | n + 1, v, h => by
    show upN as A n (up as A v) = v
    rw [up_none h]
    exact upN_none h
theorem up_rng {P s : Int} {as : List Arc} {L A : List (Option Int)} (ok : ∀ a ∈ as, ArcOk P a) (I : BInv P as s L A) {v x : Int} (h0 : 0 ≤ v) (h1 : v < P) (hx : nth L v = some x) : 0 ≤ up as A v ∧ up as A v < P ∧ ∃ y, nth L (up as A v) = some y := by
  cases e : nth A v with
  | none =>
    rw [up_none e]
    exact ⟨h0, h1, x, hx⟩
  | some k =>
    rw [up_some e]
    obtain ⟨k0, k1, _, y, _, h, _, _⟩ := I.par v k h0 e
    have a := ok _ (nth_mem k0 k1)
    exact ⟨a.s0, a.s1, y, h⟩
theorem upN_rng {P s : Int} {as : List Arc} {L A : List (Option Int)} (ok : ∀ a ∈ as, ArcOk P a) (I : BInv P as s L A) : ∀ {n : Nat} {v x : Int}, 0 ≤ v → v < P → nth L v = some x → 0 ≤ upN as A n v ∧ upN as A n v < P ∧ ∃ y, nth L (upN as A n v) = some y
  | 0, _, x, h0, h1, hx => ⟨h0, h1, x, hx⟩
  | n + 1, v, x, h0, h1, hx => by
    obtain ⟨a, b, y, c⟩ := up_rng ok I h0 h1 hx
    exact upN_rng (n := n) (v := up as A v) ok I a b c
/-- two of P + 1 are alike -/
theorem pigeon {P : Int} {f : Nat → Int} (hP : 0 ≤ P) (h : ∀ n, n ≤ P.toNat → 0 ≤ f n ∧ f n < P) : ∃ i j, i < j ∧ j ≤ P.toNat ∧ f i = f j := by
  refine Classical.byContradiction fun hn => ?_
  have nd : ((List.range (P.toNat + 1)).map f).Nodup := by
    rw [List.Nodup, List.pairwise_map]
    refine List.Pairwise.imp_of_mem (fun {a b} ha hb hab e => ?_) (List.pairwise_lt_range (n := P.toNat + 1))
    have := List.mem_range.mp hb
    exact hn ⟨a, b, hab, by omega, e⟩
  have := nodup_len nd (P := P) fun k hk => by
    obtain ⟨n, hn', rfl⟩ := List.mem_map.mp hk
    have := List.mem_range.mp hn'
    exact h n (by omega)
  rw [List.length_map, List.length_range] at this
  omega
/-- the sum of the last arcs back over n places -/
def upC (as : List Arc) (A : List (Option Int)) : Nat → Int → Int
  | 0, _ => 0
  | n + 1, v => (match nth A v with | some k => (nth as k).c | none => 0) + upC as A n (up as A v)
theorem pp_up {P s : Int} {as : List Arc} {L A : List (Option Int)} (ok : ∀ a ∈ as, ArcOk P a) (I : BInv P as s L A) : ∀ {n : Nat} {v : Int}, 0 ≤ v → (∀ i, i ≤ n → nth A (upN as A i v) ≠ none) → PP as A (upN as A (n + 1) v) v (upC as A (n + 1) v)
  | 0, v, h0, h => by
    have h' := h 0 (Nat.le_refl _)
    cases e : nth A v with
    | none => exact absurd e h'
    | some k =>
      have e1 : upN as A (0 + 1) v = (nth as k).s := up_some e
      have e2 : upC as A (0 + 1) v = (nth as k).c := by
        show (match nth A v with | some k => (nth as k).c | none => 0) + 0 = _
        rw [e, Int.add_zero]
      rw [e1, e2]
      exact .one h0 e
  | n + 1, v, h0, h => by
    have h' := h 0 (Nat.zero_le _)
    cases e : nth A v with
    | none => exact absurd e h'
    | some k =>
      obtain ⟨k0, k1, _, _⟩ := I.par v k h0 e
      have a := ok _ (nth_mem k0 k1)
      have ih := pp_up ok I (n := n) (v := (nth as k).s) a.s0 fun i hi => by
        have := h (i + 1) (by omega)
        rw [show upN as A (i + 1) v = upN as A i (nth as k).s by show upN as A i (up as A v) = _; rw [up_some e]] at this
        exact this
      have e1 : upN as A (n + 1 + 1) v = upN as A (n + 1) (nth as k).s := by
        show upN as A (n + 1) (up as A v) = _
        rw [up_some e]
      have e2 : upC as A (n + 1 + 1) v = upC as A (n + 1) (nth as k).s + (nth as k).c := by
        show (match nth A v with | some k => (nth as k).c | none => 0) + upC as A (n + 1) (up as A v) = _
        rw [e, up_some e]
        dsimp only
        omega
      rw [e1, e2]
      exact .cons h0 e ih
end SB
namespace SB
/-! ### a round with no change -/
structure Still (as : List Arc) (L : List (Option Int)) : Prop where
  all : ∀ i : Nat, i < as.length → better L (nth as (i : Int)) = none
theorem still_arc {as : List Arc} {L : List (Option Int)} (S : Still as L) {a : Arc} (ha : a ∈ as) {y : Int} (hy : nth L a.s = some y) : ∃ z, nth L a.t = some z ∧ z ≤ y + a.c := by
  obtain ⟨i, hi⟩ := List.getElem?_of_mem ha
  have := S.all i (List.getElem?_eq_some_iff.mp hi).1
  rw [nth_nat hi] at this
  exact better_none this hy
theorem still_at {P s : Int} {as : List Arc} {L A : List (Option Int)} (ok : ∀ a ∈ as, ArcOk P a) (I : BInv P as s L A) (S : Still as L) (s0 : 0 ≤ s) : nth L s = some 0 ∧ nth A s = none := by
  obtain ⟨x, hx, hx0, hx1⟩ := I.st
  obtain ⟨z, hz, h⟩ := I.reach (fun v y => ∃ z, nth L v = some z ∧ z ≤ x + y) ⟨x, hx, by omega⟩
    (fun a ha y ⟨z, hz, hle⟩ => by
      obtain ⟨z', hz', hle'⟩ := still_arc S ha hz
      exact ⟨z', hz', by omega⟩) s x s0 hx
  rw [hx] at hz
  cases hz
  have hx2 : x = 0 := by omega
  subst hx2
  refine ⟨hx, ?_⟩
  cases e : nth A s with
  | none => rfl
  | some k => exact absurd (hx1 (by rw [e]; simp)) (by omega)
/-- the last arc is as long as told -/
theorem still_par {P s : Int} {as : List Arc} {L A : List (Option Int)} (I : BInv P as s L A) (S : Still as L) {v k : Int} (h0 : 0 ≤ v) (h : nth A v = some k) :
    0 ≤ k ∧ k < as.length ∧ (nth as k).t = v ∧ ∃ y, nth L (nth as k).s = some y ∧ nth L v = some (y + (nth as k).c) := by
  obtain ⟨k0, k1, k2, y, x, h1, h2, h3⟩ := I.par v k h0 h
  obtain ⟨z, hz, hle⟩ := still_arc S (nth_mem k0 k1) h1
  rw [k2, h2] at hz
  cases hz
  exact ⟨k0, k1, k2, y, h1, by rw [h2]; congr 1; omega⟩
theorem still_pp {P s : Int} {as : List Arc} {L A : List (Option Int)} (I : BInv P as s L A) (S : Still as L) {u v c : Int} (p : PP as A u v c) : ∃ y, nth L u = some y ∧ nth L v = some (y + c) := by
  induction p with
  | one h0 e =>
    obtain ⟨_, _, _, y, h1, h2⟩ := still_par I S h0 e
    exact ⟨y, h1, h2⟩
  | @cons u v k c h0 e _ ih =>
    obtain ⟨_, _, _, y, h1, h2⟩ := still_par I S h0 e
    obtain ⟨y', g1, g2⟩ := ih
    rw [h1] at g2
    cases g2
    exact ⟨y', g1, by rw [h2]; congr 1; omega⟩
/-- back from what is reached one comes to the start -/
theorem still_back {P s : Int} {as : List Arc} {L A : List (Option Int)} (ok : ∀ a ∈ as, ArcOk P a) (hP : 0 ≤ P) (s0 : 0 ≤ s) (I : BInv P as s L A) (S : Still as L) {v x : Int} (h0 : 0 ≤ v) (h1 : v < P) (hx : nth L v = some x) : upN as A P.toNat v = s := by
  have hs := still_at ok I S s0
  have ex : ∃ n, n ≤ P.toNat ∧ nth A (upN as A n v) = none := by
    refine Classical.byContradiction fun hn => ?_
    obtain ⟨i, j, hij, hj, e⟩ := pigeon (f := fun n => upN as A n v) hP fun n _ => let r := upN_rng ok I (n := n) h0 h1 hx; ⟨r.1, r.2.1⟩
    have r := upN_rng ok I (n := i) h0 h1 hx
    have p := pp_up ok I (n := j - i - 1) (v := upN as A i v) r.1 fun m hm => by
      rw [← upN_add]
      exact fun h => hn ⟨i + m, by omega, h⟩
    rw [← upN_add, show i + (j - i - 1 + 1) = j by omega, ← e] at p
    obtain ⟨y, q1, q2⟩ := still_pp I S p
    rw [q1] at q2
    have := Option.some.inj q2
    have := I.neg _ _ p
    omega
  obtain ⟨n, hn, e⟩ := ex
  obtain ⟨r0, _, y, hy⟩ := upN_rng ok I (n := n) h0 h1 hx
  have := (I.root _ y r0 e hy).1
  rw [show P.toNat = n + (P.toNat - n) by omega, upN_add, upN_none e]
  exact this
/-! ### a change in the last round -/
theorem late {P s : Int} {as : List Arc} {L A : List (Option Int)} {tm : Int → Nat} {q j : Nat} (ok : ∀ a ∈ as, ArcOk P a) (I : BInv P as s L A) (R : RInv as s L A tm q j) (hj : as.length ≤ j) :
    ∀ (k : Nat) (v x : Int), k ≤ q → 0 ≤ v → v < P → nth L v = some x → nth A (upN as A k v) = none → tm v ≤ k
  | 0, v, x, _, h0, _, hx, h => by
    have := R.root v x h0 h hx
    omega
  | k + 1, v, x, hk, h0, h1, hx, h => by
    cases e : nth A v with
    | none =>
      have := R.root v x h0 e hx
      omega
    | some a =>
      obtain ⟨k0, k1, k2, y, x', g1, g2, g3⟩ := I.par v a h0 e
      rw [hx] at g2
      cases g2
      have ha := nth_mem (xs := as) k0 k1
      have ao := ok _ ha
      have ih := late ok I R hj k (nth as a).s y (by omega) ao.s0 ao.s1 g1 (by rw [← up_some e]; exact h)
      have gd := R.done a.toNat (by omega) (by omega)
      rw [Int.toNat_of_nonneg k0] at gd
      obtain ⟨z, z1, z2, z3⟩ := gd y g1 (by omega)
      rw [k2, hx] at z1
      cases z1
      have := z3 (by omega)
      rw [k2] at this
      omega
theorem late_all {P s : Int} {as : List Arc} {L A : List (Option Int)} {tm : Int → Nat} {q j : Nat} (ok : ∀ a ∈ as, ArcOk P a) (hP : 0 < P) (I : BInv P as s L A) (R : RInv as s L A tm q j) (hj : as.length ≤ j) (hq : P.toNat = q + 1)
    {v x : Int} (h0 : 0 ≤ v) (h1 : v < P) (hx : nth L v = some x) (ht : tm v = q + 1) : (∀ n, nth A (upN as A n v) ≠ none) ∧ ∃ p, 0 < p ∧ p ≤ P.toNat ∧ upN as A p (upN as A P.toNat v) = upN as A P.toNat v := by
  have few : ∀ n, n ≤ q → nth A (upN as A n v) ≠ none := fun n hn h => by
    have := late ok I R hj n v x hn h0 h1 hx h
    omega
  obtain ⟨i, j', hij, hj', e⟩ := pigeon (f := fun n => upN as A n v) (by omega) fun n _ => let r := upN_rng ok I (n := n) h0 h1 hx; ⟨r.1, r.2.1⟩
  have per : ∀ n, i ≤ n → upN as A (n + (j' - i)) v = upN as A n v := fun n hn => by
    rw [show n + (j' - i) = j' + (n - i) by omega, upN_add, ← e, ← upN_add, show i + (n - i) = n by omega]
  refine ⟨fun n => ?_, j' - i, by omega, by omega, ?_⟩
  · induction n using Nat.strongRecOn with
    | ind n ih =>
      by_cases hn : n ≤ q
      · exact few n hn
      · have h2 := per (n - (j' - i)) (by omega)
        rw [show n - (j' - i) + (j' - i) = n by omega] at h2
        rw [h2]
        exact ih _ (by omega)
  · rw [← upN_add, per _ (by omega)]
end SB
namespace SB
/-! ### the reached ones, round by round -/
def rchN (as : List Arc) (s : Int) : Nat → List Int
  | 0 => [s]
  | n + 1 => rchRound (rchN as s n) as
theorem rchRound_ok {P s : Int} {as : List Arc} (ok : ∀ a ∈ as, ArcOk P a) : ∀ {r : List Arc} {xs : List Int}, (∀ a ∈ r, a ∈ as) → RchOk P as s xs → RchOk P as s (rchRound xs r)
  | [], _, _, R => R
  | a :: r, _, h, R => rchRound_ok ok (r := r) (fun b hb => h b (List.mem_cons_of_mem _ hb)) (rchStep_ok R (h a List.mem_cons_self) (ok a (h a List.mem_cons_self)))
theorem rchN_ok {P s : Int} {as : List Arc} (ok : ∀ a ∈ as, ArcOk P a) (s0 : 0 ≤ s) (s1 : s < P) : ∀ n, RchOk P as s (rchN as s n)
  | 0 => ⟨List.mem_singleton.mpr rfl, fun v hv => by rw [List.mem_singleton.mp hv]; exact ⟨s0, s1⟩, by simp [rchN], fun X h _ v hv => by rw [List.mem_singleton.mp hv]; exact h⟩
  | n + 1 => rchRound_ok ok (fun a h => h) (rchN_ok ok s0 s1 n)
theorem rchN_len {as : List Arc} {s : Int} : ∀ n, n + 1 ≤ (rchN as s n).length ∨ ClosedX as (· ∈ rchN as s n)
  | 0 => .inl (Nat.le_refl _)
  | n + 1 => by
    obtain ⟨h1, h2⟩ := rchRound_sub (as := as) (xs := rchN as s n)
    show n + 1 + 1 ≤ (rchRound (rchN as s n) as).length ∨ ClosedX as (· ∈ rchRound (rchN as s n) as)
    by_cases e : (rchRound (rchN as s n) as).length = (rchN as s n).length
    · obtain ⟨e1, e2⟩ := h2 e
      rw [e1]
      exact .inr e2
    · rcases rchN_len (as := as) (s := s) n with h | h
      · exact .inl (by omega)
      · refine absurd ?_ e
        have : ∀ {r : List Arc}, (∀ a ∈ r, a ∈ as) → rchRound (rchN as s n) r = rchN as s n := fun {r} => by
          induction r with
          | nil => intro _; rfl
          | cons a r ih =>
            intro hr
            have : rchStep (rchN as s n) a = rchN as s n := by
              unfold rchStep
              rw [if_neg]
              intro hc
              rw [Bool.and_eq_true, decide_eq_true_eq, Bool.not_eq_true', decide_eq_false_iff_not] at hc
              exact hc.2 (h a (hr a List.mem_cons_self) hc.1)
            show rchRound (rchStep (rchN as s n) a) r = _
            rw [this]
            exact ih fun b hb => hr b (List.mem_cons_of_mem _ hb)
        rw [this fun a h => h]
theorem rch_all {P s : Int} {as : List Arc} (ok : ∀ a ∈ as, ArcOk P a) (s0 : 0 ≤ s) (s1 : s < P) : RchAll P as s (rchN as s P.toNat) := by
  have R := rchN_ok ok s0 s1 P.toNat
  refine ⟨R, ?_⟩
  rcases rchN_len (as := as) (s := s) P.toNat with h | h
  · have := nodup_len R.nd R.rng
    omega
  · exact h
theorem rch_take {as : List Arc} {xs : List Int} {i : Nat} {a : Arc} (h : as[i]? = some a) : rchRound xs (as.take (i + 1)) = rchStep (rchRound xs (as.take i)) a := by
  unfold rchRound
  rw [List.take_add_one, h, List.foldl_append]
  rfl
/-! ### rows of arcs -/
def Chain (as : List Arc) : Int → List Int → Int → Prop
  | u, [], v => u = v
  | u, k :: r, v => (nth as k).s = u ∧ Chain as (nth as k).t r v
def costs (as : List Arc) (ks : List Int) : Int := (ks.map fun k => (nth as k).c).sum
theorem costs_cons {as : List Arc} {k : Int} {ks : List Int} : costs as (k :: ks) = (nth as k).c + costs as ks := by
  unfold costs
  rw [List.map_cons, List.sum_cons]
theorem chain_end {as : List Arc} : ∀ {ks : List Int} {u v : Int}, Chain as u ks v → (h : ks ≠ []) → (nth as (ks.getLast h)).t = v
  | [], _, _, _, h => absurd rfl h
  | [k], _, _, c, _ => c.2
  | k :: j :: r, _, v, c, _ => by
    rw [List.getLast_cons (by simp)]
    exact chain_end (ks := j :: r) c.2 (by simp)
theorem chain_at {as : List Arc} : ∀ {ks : List Int} {u v : Int} {i : Nat} {a b : Int}, Chain as u ks v → ks[i]? = some a → ks[i + 1]? = some b → (nth as a).t = (nth as b).s
  | [], _, _, _, _, _, _, h, _ => by simp at h
  | k :: r, u, v, 0, a, b, c, h1, h2 => by
    cases r with
    | nil => simp at h2
    | cons j r =>
      simp at h1 h2
      subst h1 h2
      exact c.2.1.symm
  | k :: r, u, v, i + 1, a, b, c, h1, h2 => chain_at (ks := r) (i := i) c.2 (by simpa using h1) (by simpa using h2)
/-- a ring -/
structure RingOk (as : List Arc) (s : Int) (ks : List Int) : Prop where
  ne : ks ≠ []
  rng : ∀ k ∈ ks, 0 ≤ k ∧ k < as.length
  lead : ∃ v, Chain as v ks v
  neg : costs as ks < 0
  rch : ∀ X : Int → Prop, X s → ClosedX as X → ∀ k ∈ ks, X (nth as k).s
theorem chain_rch {as : List Arc} {X : Int → Prop} (h2 : ClosedX as X) : ∀ {ks : List Int} {u v : Int}, Chain as u ks v → X u → (∀ k ∈ ks, 0 ≤ k ∧ k < as.length) → ∀ k ∈ ks, X (nth as k).s
  | [], _, _, _, _, _, k, hk => by cases hk
  | j :: r, u, v, c, hu, hr, k, hk => by
    have hj : X (nth as j).s := by rw [c.1]; exact hu
    rcases List.mem_cons.mp hk with rfl | hk
    · exact hj
    · have := hr j List.mem_cons_self
      exact chain_rch h2 c.2 (h2 _ (nth_mem this.1 this.2) hj) (fun k hk => hr k (List.mem_cons_of_mem _ hk)) k hk
theorem upN_succ {as : List Arc} {A : List (Option Int)} {n : Nat} {v : Int} : upN as A (n + 1) v = up as A (upN as A n v) := by
  rw [upN_add]
  rfl
theorem upC_succ {as : List Arc} {A : List (Option Int)} : ∀ {n : Nat} {v : Int}, upC as A (n + 1) v = upC as A n v + (match nth A (upN as A n v) with | some k => (nth as k).c | none => 0)
  | 0, v => by
    show _ + 0 = 0 + _
    rw [Int.add_comm]
    rfl
  | n + 1, v => by
    have ih := upC_succ (as := as) (A := A) (n := n) (v := up as A v)
    show (match nth A v with | some k => (nth as k).c | none => 0) + upC as A (n + 1) (up as A v) = (match nth A v with | some k => (nth as k).c | none => 0) + upC as A n (up as A v) + _
    rw [ih, Int.add_assoc]
    rfl
/-- what stands when ways are told -/
structure WaysOk (P : Int) (as : List Arc) (s : Int) (L A : List (Option Int)) : Prop where
  inv : BInv P as s L A
  still : Still as L
/-- the row of last arcs that was gone back along -/
structure RowOk (as : List Arc) (A : List (Option Int)) (w : Int) (n : Nat) (ks : List Int) : Prop where
  len : ks.length = n
  rng : ∀ k ∈ ks, 0 ≤ k ∧ k < as.length
  lead : Chain as (upN as A n w) ks w
  cost : costs as ks = upC as A n w
theorem row_nil {as : List Arc} {A : List (Option Int)} {w : Int} : RowOk as A w 0 [] := ⟨rfl, fun k h => (by cases h), rfl, rfl⟩
theorem row_cons {P s : Int} {as : List Arc} {L A : List (Option Int)} {w k : Int} {n : Nat} {ks : List Int} (I : BInv P as s L A) (h0 : 0 ≤ upN as A n w) (R : RowOk as A w n ks) (h : nth A (upN as A n w) = some k) : RowOk as A w (n + 1) (k :: ks) := by
  obtain ⟨k0, k1, k2, _⟩ := I.par _ k h0 h
  refine ⟨by rw [List.length_cons, R.len], fun j hj => ?_, ?_, ?_⟩
  · rcases List.mem_cons.mp hj with rfl | hj
    · exact ⟨k0, k1⟩
    · exact R.rng j hj
  · refine ⟨?_, ?_⟩
    · rw [upN_succ, up_some h]
    · rw [k2]
      exact R.lead
  · rw [costs_cons, R.cost, upC_succ, h]
    dsimp only
    omega
theorem ring_of {P s : Int} {as : List Arc} {L A : List (Option Int)} {w x : Int} {n : Nat} {ks : List Int} (ok : ∀ a ∈ as, ArcOk P a) (I : BInv P as s L A) (h0 : 0 ≤ w) (hx : nth L w = some x) (hA : ∀ i, nth A (upN as A i w) ≠ none) (R : RowOk as A w n ks) (hn : 0 < n) (e : upN as A n w = w) :
    RingOk as s ks := by
  obtain ⟨m, rfl⟩ : ∃ m, n = m + 1 := ⟨n - 1, by omega⟩
  have p := pp_up ok I (n := m) (v := w) h0 fun i _ => hA i
  rw [e] at p
  refine ⟨fun h => by have := R.len; rw [h] at this; simp at this, R.rng, ⟨w, ?_⟩, ?_, fun X h1 h2 => ?_⟩
  · have := R.lead
    rw [e] at this
    exact this
  · rw [R.cost]
    exact I.neg _ _ p
  · have h3 := I.rch h1 h2 h0 hx
    have h4 := R.lead
    rw [e] at h4
    exact chain_rch h2 h4 h3 R.rng
end SB
namespace SB
/-! ### rounds, joined -/
theorem relax_none {as : List Arc} {b : BF} {j : Nat} (h : better b.L (nth as (j : Int)) = none) : relax as b j = b := by
  unfold relax
  rw [h]
theorem relax_some {as : List Arc} {b : BF} {j : Nat} {w : Int} (h : better b.L (nth as (j : Int)) = some w) : relax as b j = ⟨b.L.set (nth as (j : Int)).t.toNat (some w), b.A.set (nth as (j : Int)).t.toNat (some (j : Int)), some (nth as (j : Int)).t⟩ := by
  unfold relax
  rw [h]
def bfN (as : List Arc) (b : BF) (i : Nat) : BF := (List.range i).foldl (relax as) b
theorem bfN_succ {as : List Arc} {b : BF} {i : Nat} : bfN as b (i + 1) = relax as (bfN as b i) i := by
  unfold bfN
  rw [List.range_succ, List.foldl_append]
  rfl
theorem relax_len {as : List Arc} {b : BF} {j : Nat} : (relax as b j).L.length = b.L.length ∧ (relax as b j).A.length = b.A.length := by
  unfold relax
  split
  · exact ⟨rfl, rfl⟩
  · exact ⟨List.length_set, List.length_set⟩
theorem bfN_len {as : List Arc} {b : BF} : ∀ {i : Nat}, (bfN as b i).L.length = b.L.length ∧ (bfN as b i).A.length = b.A.length
  | 0 => ⟨rfl, rfl⟩
  | i + 1 => by
    rw [bfN_succ]
    exact ⟨relax_len.1.trans (bfN_len (i := i)).1, relax_len.2.trans (bfN_len (i := i)).2⟩
structure Rnd (P : Int) (as : List Arc) (s : Int) (L A : List (Option Int)) (b : BF) (tm : Int → Nat) (q j : Nat) : Prop where
  I : BInv P as s b.L b.A
  R : RInv as s b.L b.A tm q j
  none : b.f = none → b.L = L ∧ b.A = A ∧ ∀ i : Nat, i < j → better L (nth as (i : Int)) = none
  some : ∀ v, b.f = some v → 0 ≤ v ∧ v < P ∧ tm v = q + 1 ∧ ∃ y, nth b.L v = some y
theorem rnd_all {P s : Int} {as : List Arc} {L A : List (Option Int)} {tm : Int → Nat} {q : Nat} (ok : ∀ a ∈ as, ArcOk P a) (hP : 0 ≤ P) (s0 : 0 ≤ s) (I : BInv P as s L A) (R : RInv as s L A tm q 0) : ∀ j, j ≤ as.length → ∃ tm', Rnd P as s L A (bfN as ⟨L, A, none⟩ j) tm' q j
  | 0, _ => ⟨tm, I, R, fun _ => ⟨rfl, rfl, fun i h => absurd h (Nat.not_lt_zero _)⟩, fun v h => (by cases h)⟩
  | j + 1, hj => by
    obtain ⟨tm', D⟩ := rnd_all ok hP s0 I R j (by omega)
    rw [bfN_succ]
    generalize bfN as ⟨L, A, none⟩ j = b at *
    cases e : better b.L (nth as (j : Int)) with
    | none =>
      rw [relax_none e]
      refine ⟨tm', D.I, rinv_keep (P := P) D.R e, fun h => ?_, D.some⟩
      obtain ⟨h1, h2, h3⟩ := D.none h
      refine ⟨h1, h2, fun i hi => ?_⟩
      by_cases c : i < j
      · exact h3 i c
      · have : i = j := by omega
        subst this
        rw [← h1]
        exact e
    | some w =>
      rw [relax_some e]
      have ao := ok _ (nth_mem (xs := as) (i := (j : Int)) (by omega) (by omega))
      have ll := D.I.lenL
      refine ⟨_, relax_inv ok hP s0 D.I (by omega) e, rinv_relax ok hP D.I.lenL D.I.lenA D.R (by omega) e, fun h => (by cases h), fun v h => ?_⟩
      cases h
      refine ⟨ao.t0, ao.t1, if_pos rfl, w, ?_⟩
      exact oset_eq ao.t0 (by have := ao.t1; omega)
theorem rinv_first {as : List Arc} {s : Int} {L A : List (Option Int)} : RInv as s L A (fun _ => 0) 0 0 :=
  ⟨fun i h => absurd h (Nat.not_lt_zero _), fun i _ _ y _ h => absurd h (Nat.not_lt_zero _), fun v => Nat.zero_le _, fun v x _ _ _ => rfl⟩
theorem rinv_next {as : List Arc} {s : Int} {L A : List (Option Int)} {tm : Int → Nat} {q : Nat} (R : RInv as s L A tm q as.length) : RInv as s L A tm (q + 1) 0 :=
  ⟨fun i h => absurd h (Nat.not_lt_zero _), fun i _ h => R.done i h h, fun v => Nat.le_succ_of_le (R.most v), R.root⟩
inductive Near where
  | ways (L A : List (Option Int))
  | ring (ks : List Int)
def NearOk (P : Int) (as : List Arc) (s : Int) : Near → Prop
  | .ways L A => WaysOk P as s L A
  | .ring ks => RingOk as s ks ∧ ks.length ≤ P.toNat
structure GoodN (P : Int) (as : List Arc) (s : Int) : Prop where
  look : LookOk P as
  s0 : 0 ≤ s
  s1 : s < P
/-- what is reached has a length -/
theorem ways_some {P s : Int} {as : List Arc} {L A : List (Option Int)} {xs : List Int} (ok : ∀ a ∈ as, ArcOk P a) (s0 : 0 ≤ s) (V : WaysOk P as s L A) (R : RchAll P as s xs) {v : Int} (h0 : 0 ≤ v) : nth L v ≠ none ↔ v ∈ xs := by
  constructor
  · intro h
    cases e : nth L v with
    | none => exact absurd e h
    | some x => exact V.inv.rch (X := (· ∈ xs)) R.st R.cl h0 e
  · intro h
    obtain ⟨_, x, hx⟩ := R.all (fun v => 0 ≤ v ∧ ∃ x, nth L v = some x) ⟨s0, 0, (still_at ok V.inv V.still s0).1⟩ (fun a ha ⟨_, y, hy⟩ => by
      obtain ⟨z, hz, _⟩ := still_arc V.still ha hy
      exact ⟨(ok a ha).t0, z, hz⟩) v h
    rw [hx]
    simp
theorem ways_last {P s : Int} {as : List Arc} {L A : List (Option Int)} {xs : List Int} (ok : ∀ a ∈ as, ArcOk P a) (s0 : 0 ≤ s) (V : WaysOk P as s L A) (R : RchAll P as s xs) {v : Int} (h0 : 0 ≤ v) : nth A v ≠ none ↔ v ∈ xs ∧ v ≠ s := by
  have hs := still_at ok V.inv V.still s0
  constructor
  · intro h
    cases e : nth A v with
    | none => exact absurd e h
    | some k =>
      obtain ⟨_, _, _, y, _, g2⟩ := still_par V.inv V.still h0 e
      refine ⟨(ways_some ok s0 V R h0).mp (by rw [g2]; simp), fun e2 => ?_⟩
      rw [e2, hs.2] at h
      exact h rfl
  · rintro ⟨h1, h2⟩ h3
    have := (ways_some ok s0 V R h0).mpr h1
    cases e : nth L v with
    | none => exact this e
    | some x => exact h2 (V.inv.root v x h0 h3 e).1
end SB
namespace SB
/-- the place behind which k stands in a ring -/
def bef (n k : Nat) : Nat := if k = 0 then n - 1 else k - 1
theorem chain_head {as : List Arc} {ks : List Int} {u v : Int} (c : Chain as u ks v) (h : 0 < ks.length) : (nth as (nth ks 0)).s = u := by
  cases ks with
  | nil => simp at h
  | cons k r => exact c.1
theorem ring_at {as : List Arc} {ks : List Int} {v : Int} (c : Chain as v ks v) {k : Nat} (h : k < ks.length) : (nth as (nth ks ((bef ks.length k : Nat) : Int))).t = (nth as (nth ks (k : Int))).s := by
  unfold bef
  by_cases e : k = 0
  · subst e
    rw [if_pos rfl]
    have h1 := chain_end c (fun e => by rw [e] at h; simp at h)
    have h2 := chain_head c h
    have h3 : nth ks ((ks.length - 1 : Nat) : Int) = ks.getLast (fun e => by rw [e] at h; simp at h) := nth_nat (by rw [List.getLast_eq_getElem, List.getElem?_eq_getElem (by omega)])
    rw [h3, h1]
    exact h2.symm
  · rw [if_neg e]
    have h1 := List.getElem?_eq_getElem (l := ks) (i := k - 1) (by omega)
    have h2 := List.getElem?_eq_getElem (l := ks) (i := k) h
    rw [nth_nat h1, nth_nat h2]
    exact chain_at c h1 (by rw [show k - 1 + 1 = k by omega]; exact h2)
end SB
namespace SB
/-! ### walks -/
def walkB (as : List Arc) : Int → List Int → Int → Bool
  | u, [], v => decide (u = v)
  | u, k :: r, v => decide ((nth as k).s = u) && walkB as (nth as k).t r v
theorem walkB_iff {as : List Arc} : ∀ {ks : List Int} {u v : Int}, walkB as u ks v = true ↔ Chain as u ks v
  | [], _, _ => decide_eq_true_iff
  | k :: r, u, v => by
    show (decide _ && _) = true ↔ _ ∧ _
    rw [Bool.and_eq_true, decide_eq_true_iff, walkB_iff]
theorem still_chain {as : List Arc} {L : List (Option Int)} (S : Still as L) : ∀ {ks : List Int} {u v x : Int}, Chain as u ks v → (∀ k ∈ ks, 0 ≤ k ∧ k < as.length) → nth L u = some x → ∃ y, nth L v = some y ∧ y ≤ x + costs as ks
  | [], u, v, x, c, _, h => by
    have e : u = v := c
    subst e
    exact ⟨x, h, by simp [costs]⟩
  | k :: r, u, v, x, c, hr, h => by
    have hk := hr k List.mem_cons_self
    obtain ⟨z, hz, hle⟩ := still_arc S (nth_mem (xs := as) hk.1 hk.2) (by rw [c.1]; exact h)
    obtain ⟨y, hy, hle2⟩ := still_chain S c.2 (fun k hk => hr k (List.mem_cons_of_mem _ hk)) hz
    refine ⟨y, hy, ?_⟩
    rw [costs_cons]
    omega
theorem ways_ring {P s : Int} {as : List Arc} {L A : List (Option Int)} {ks : List Int} (ok : ∀ a ∈ as, ArcOk P a) (s0 : 0 ≤ s) (N : WaysOk P as s L A) (R : RingOk as s ks) : False := by
  obtain ⟨v, hv⟩ := R.lead
  have hne : 0 < ks.length := by
    have := R.ne
    cases ks with
    | nil => exact absurd rfl this
    | cons a r => simp
  obtain ⟨_, x, hx⟩ := R.rch (fun v => 0 ≤ v ∧ ∃ x, nth L v = some x) ⟨s0, 0, (still_at ok N.inv N.still s0).1⟩ (fun a ha ⟨_, y, hy⟩ => by
    obtain ⟨z, hz, _⟩ := still_arc N.still ha hy
    exact ⟨(ok a ha).t0, z, hz⟩) (nth ks 0) (nth_mem (by omega) (by omega))
  rw [chain_head hv hne] at hx
  obtain ⟨y, hy, hle⟩ := still_chain N.still hv R.rng hx
  rw [hx] at hy
  cases hy
  have := R.neg
  omega
theorem ways_le {P s : Int} {as : List Arc} {L A L' A' : List (Option Int)} (ok : ∀ a ∈ as, ArcOk P a) (s0 : 0 ≤ s) (N : WaysOk P as s L A) (N' : WaysOk P as s L' A') {v x : Int} (h0 : 0 ≤ v) (h : nth L v = some x) : ∃ y, nth L' v = some y ∧ y ≤ x :=
  N.inv.reach (fun v x => ∃ y, nth L' v = some y ∧ y ≤ x) ⟨0, (still_at ok N'.inv N'.still s0).1, Int.le_refl _⟩ (fun a ha x ⟨y, hy, hle⟩ => by
    obtain ⟨z, hz, hle2⟩ := still_arc N'.still ha hy
    exact ⟨z, hz, by omega⟩) v x h0 h
theorem ways_one {P s : Int} {as : List Arc} {L A L' A' : List (Option Int)} (ok : ∀ a ∈ as, ArcOk P a) (s0 : 0 ≤ s) (N : WaysOk P as s L A) (N' : WaysOk P as s L' A') {v : Int} (h0 : 0 ≤ v) : nth L v = nth L' v := by
  cases e : nth L v with
  | none =>
    cases e' : nth L' v with
    | none => rfl
    | some x =>
      obtain ⟨y, hy, _⟩ := ways_le ok s0 N' N h0 e'
      rw [e] at hy
      cases hy
  | some x =>
    obtain ⟨y, hy, h1⟩ := ways_le ok s0 N N' h0 e
    obtain ⟨z, hz, h2⟩ := ways_le ok s0 N' N h0 hy
    rw [e] at hz
    cases hz
    rw [hy]
    congr 1
    omega
/-- the row that is gone back along is as long as told -/
theorem row_len {P s : Int} {as : List Arc} {L A : List (Option Int)} {w k : Int} {n : Nat} {ks : List Int} (N : WaysOk P as s L A) (h0 : 0 ≤ upN as A n w) (R : RowOk as A w n ks) (hL : ∃ y, nth L (upN as A n w) = some y ∧ nth L w = some (y + costs as ks)) (h : nth A (upN as A n w) = some k) :
    ∃ y, nth L (upN as A (n + 1) w) = some y ∧ nth L w = some (y + costs as (k :: ks)) := by
  obtain ⟨y, hy, hw⟩ := hL
  obtain ⟨_, _, _, z, hz, hz2⟩ := still_par N.inv N.still h0 h
  rw [hy] at hz2
  refine ⟨z, by rw [upN_succ, up_some h]; exact hz, ?_⟩
  rw [hw, costs_cons]
  have := Option.some.inj hz2
  congr 1
  omega
/-- a way is told -/
structure WayOk (as : List Arc) (s g : Int) (ks : List Int) (x : Int) : Prop where
  rng : ∀ k ∈ ks, 0 ≤ k ∧ k < as.length
  lead : Chain as s ks g
  cost : costs as ks = x
  few : ks.length ≤ 1000
/-- whether there is a way -/
def thereB (P g : Int) : Near → Bool
  | .ways L _ => decide (0 ≤ g) && decide (g < P) && decide (nth L g ≠ none)
  | .ring _ => false
theorem there_one {P s g : Int} {as : List Arc} {r r' : Near} (ok : ∀ a ∈ as, ArcOk P a) (s0 : 0 ≤ s) (h : NearOk P as s r) (h' : NearOk P as s r') : thereB P g r = thereB P g r' := by
  cases r with
  | ways L A =>
    cases r' with
    | ways L' A' =>
      by_cases g0 : 0 ≤ g
      · have := ways_one ok s0 h h' g0
        simp [thereB, this]
      · simp [thereB, g0]
    | ring ks => exact (ways_ring ok s0 h h'.1).elim
  | ring ks =>
    cases r' with
    | ways L' A' => exact (ways_ring ok s0 h' h.1).elim
    | ring ks => rfl
end SB
/-! bounds on differences, plain -/
namespace SB
structure Bnd where
  a : Int
  b : Int
  m : Int
  deriving DecidableEq, Inhabited
def dArcs (n : Int) (bs : List Bnd) : List Arc := bs.map (fun b => (⟨b.b, b.a, 0, b.m⟩ : Arc)) ++ (List.range n.toNat).map (fun k : Nat => (⟨n, (k : Int), 0, 0⟩ : Arc))
structure GoodD (n : Int) (bs : List Bnd) : Prop where
  n0 : 0 ≤ n
  few : bs.length ≤ 29
  look : LookOk (n + 1) (dArcs n bs)
  no : ∀ b ∈ bs, b.a ≠ n ∧ b.b ≠ n
theorem dArcs_len {n : Int} {bs : List Bnd} : (dArcs n bs).length = bs.length + n.toNat := by simp [dArcs]
theorem da_bnd {n : Int} {bs : List Bnd} {j : Nat} (h : j < bs.length) : nth (dArcs n bs) (j : Int) = ⟨(nth bs (j : Int)).b, (nth bs (j : Int)).a, 0, (nth bs (j : Int)).m⟩ := by
  apply nth_nat
  unfold dArcs
  rw [List.getElem?_append_left (by simpa using h), List.getElem?_map, List.getElem?_eq_getElem h, nth_nat (List.getElem?_eq_getElem h)]
  rfl
theorem da_from {n : Int} {bs : List Bnd} {k : Nat} (h : k < n.toNat) : nth (dArcs n bs) ((bs.length + k : Nat) : Int) = ⟨n, (k : Int), 0, 0⟩ := by
  apply nth_nat
  unfold dArcs
  rw [List.getElem?_append_right (by simp)]
  simp [h]
theorem good_near {n : Int} {bs : List Bnd} (G : GoodD n bs) : GoodN (n + 1) (dArcs n bs) n := ⟨G.look, G.n0, by omega⟩
/-- numbers that keep the bounds -/
def keepsB (xs : List Int) (bs : List Bnd) : Bool := bs.all fun b => decide (nth xs b.a ≤ nth xs b.b + b.m)
structure NumOk (n : Int) (bs : List Bnd) (xs : List Int) : Prop where
  len : xs.length = n.toNat
  keep : keepsB xs bs = true
theorem bnd_rng {n : Int} {bs : List Bnd} (G : GoodD n bs) {b : Bnd} (h : b ∈ bs) : 0 ≤ b.a ∧ b.a < n ∧ 0 ≤ b.b ∧ b.b < n := by
  obtain ⟨j, hj⟩ := List.getElem?_of_mem h
  have hl := (List.getElem?_eq_some_iff.mp hj).1
  have a := G.look.arcs (nth (dArcs n bs) (j : Int)) (nth_mem (by omega) (by rw [dArcs_len]; omega))
  rw [da_bnd hl, nth_nat hj] at a
  obtain ⟨a1, a2, a3, a4⟩ := a
  dsimp only at a1 a2 a3 a4
  have := G.no b h
  omega
theorem num_of {n : Int} {bs : List Bnd} {L A : List (Option Int)} (G : GoodD n bs) (N : WaysOk (n + 1) (dArcs n bs) n L A) : ∃ xs : List Int, L.take n.toNat = xs.map some ∧ NumOk n bs xs := by
  have ok := G.look.arcs
  have n0 := G.n0
  have hs := still_at ok N.inv N.still n0
  have lL := N.inv.lenL
  have all : ∀ k : Nat, k < n.toNat → ∃ z, nth L (k : Int) = some z := fun k hk => by
    have e := da_from (bs := bs) hk
    have m := nth_mem (xs := dArcs n bs) (i := ((bs.length + k : Nat) : Int)) (by omega) (by rw [dArcs_len]; omega)
    rw [e] at m
    obtain ⟨z, hz, _⟩ := still_arc N.still m hs.1
    exact ⟨z, hz⟩
  have e : ∀ k : Nat, k < n.toNat → nth L (k : Int) = some ((nth L (k : Int)).getD 0) := fun k hk => by
    obtain ⟨z, hz⟩ := all k hk
    rw [hz]
    rfl
  have e2 : L.take n.toNat = ((List.range n.toNat).map fun k : Nat => (nth L (k : Int)).getD 0).map some := by
    apply List.ext_getElem?
    intro i
    rw [List.map_map]
    by_cases hi : i < n.toNat
    · rw [List.getElem?_take_of_lt hi, List.getElem?_map, List.getElem?_range hi, List.getElem?_eq_getElem (by omega)]
      have := e i hi
      rw [nth_nat (List.getElem?_eq_getElem (show i < L.length by omega))] at this
      show some L[i] = some (some ((nth L (i : Int)).getD 0))
      rw [nth_nat (List.getElem?_eq_getElem (show i < L.length by omega)), ← this]
    · rw [List.getElem?_eq_none (by rw [List.length_take]; omega), List.getElem?_eq_none (by simp; omega)]
  refine ⟨_, e2, by simp, ?_⟩
  unfold keepsB
  rw [List.all_eq_true]
  intro b hb
  obtain ⟨h1, h2, h3, h4⟩ := bnd_rng G hb
  have nx : ∀ v : Int, 0 ≤ v → v < n → nth ((List.range n.toNat).map fun k : Nat => (nth L (k : Int)).getD 0) v = (nth L v).getD 0 := fun v g1 g2 => by
    apply nth_eq
    rw [List.getElem?_map, List.getElem?_range (by omega)]
    show some ((nth L ((v.toNat : Nat) : Int)).getD 0) = some _
    rw [show ((v.toNat : Nat) : Int) = v by omega]
  rw [nx _ h1 h2, nx _ h3 h4]
  obtain ⟨j, hj⟩ := List.getElem?_of_mem hb
  have hl := (List.getElem?_eq_some_iff.mp hj).1
  have m := nth_mem (xs := dArcs n bs) (i := (j : Int)) (by omega) (by rw [dArcs_len]; omega)
  rw [da_bnd hl, nth_nat hj] at m
  obtain ⟨y, hy⟩ := all b.b.toNat (by omega)
  rw [show ((b.b.toNat : Nat) : Int) = b.b by omega] at hy
  obtain ⟨z, hz, hle⟩ := still_arc N.still m hy
  dsimp only at hz hle
  rw [hz, hy]
  simp
  exact hle
/-- rings of bounds -/
def ringB (bs : List Bnd) (ks : List Int) : Bool :=
  ((List.range ks.length).all fun k : Nat => decide ((nth bs (nth ks ((bef ks.length k : Nat) : Int))).a = (nth bs (nth ks (k : Int))).b)) && decide ((ks.map fun k => (nth bs k).m).sum < 0)
structure DRing (bs : List Bnd) (ks : List Int) : Prop where
  ne : ks ≠ []
  rng : ∀ k ∈ ks, 0 ≤ k ∧ k < bs.length
  ring : ringB bs ks = true
  few : ks.length ≤ 1000
theorem ring_rng {n : Int} {bs : List Bnd} {ks : List Int} (G : GoodD n bs) (R : RingOk (dArcs n bs) n ks) : ∀ i : Nat, i < ks.length → 0 ≤ nth ks (i : Int) ∧ nth ks (i : Int) < bs.length := fun i hi => by
  have r := R.rng _ (nth_mem (xs := ks) (i := (i : Int)) (by omega) (by omega))
  refine ⟨r.1, ?_⟩
  obtain ⟨v, hv⟩ := R.lead
  have h := ring_at hv hi
  have hb : bef ks.length i < ks.length := by unfold bef; split <;> omega
  have r2 := R.rng _ (nth_mem (xs := ks) (i := ((bef ks.length i : Nat) : Int)) (by omega) (by omega))
  rw [dArcs_len] at r r2
  have tgt : ∀ k : Int, 0 ≤ k → k < ((bs.length + n.toNat : Nat) : Int) → (nth (dArcs n bs) k).t ≠ n := fun k k0 k1 => by
    by_cases e : k < bs.length
    · have := da_bnd (n := n) (bs := bs) (j := k.toNat) (by omega)
      rw [Int.toNat_of_nonneg k0] at this
      rw [this]
      exact (G.no _ (nth_mem k0 e)).1
    · have := da_from (n := n) (bs := bs) (k := k.toNat - bs.length) (by omega)
      rw [show ((bs.length + (k.toNat - bs.length) : Nat) : Int) = k by omega] at this
      rw [this]
      dsimp only
      omega
  refine Classical.byContradiction fun hn => ?_
  have := da_from (n := n) (bs := bs) (k := (nth ks (i : Int)).toNat - bs.length) (by omega)
  rw [show ((bs.length + ((nth ks (i : Int)).toNat - bs.length) : Nat) : Int) = nth ks (i : Int) by omega] at this
  rw [this] at h
  exact tgt _ r2.1 r2.2 h
theorem dring_of {n : Int} {bs : List Bnd} {ks : List Int} (G : GoodD n bs) (R : RingOk (dArcs n bs) n ks) (hl : ks.length ≤ 1000) : DRing bs ks := by
  have rr := ring_rng G R
  have at' : ∀ k : Int, 0 ≤ k → k < bs.length → nth (dArcs n bs) k = ⟨(nth bs k).b, (nth bs k).a, 0, (nth bs k).m⟩ := fun k k0 k1 => by
    have := da_bnd (n := n) (bs := bs) (j := k.toNat) (by omega)
    rw [Int.toNat_of_nonneg k0] at this
    exact this
  have rm : ∀ k ∈ ks, 0 ≤ k ∧ k < bs.length := fun k hk => by
    obtain ⟨i, hi⟩ := List.getElem?_of_mem hk
    have := rr i (List.getElem?_eq_some_iff.mp hi).1
    rw [nth_nat hi] at this
    exact this
  refine ⟨R.ne, rm, ?_, hl⟩
  unfold ringB
  rw [Bool.and_eq_true]
  constructor
  · rw [List.all_eq_true]
    intro i hi
    have hi' := List.mem_range.mp hi
    obtain ⟨v, hv⟩ := R.lead
    have h := ring_at hv hi'
    have hb : bef ks.length i < ks.length := by unfold bef; split <;> omega
    have b1 := rr _ hb
    have b2 := rr i hi'
    rw [at' _ b1.1 b1.2, at' _ b2.1 b2.2] at h
    exact decide_eq_true h
  · rw [decide_eq_true_iff]
    have := R.neg
    unfold costs at this
    have e : ks.map (fun k => (nth (dArcs n bs) k).c) = ks.map fun k => (nth bs k).m := List.map_congr_left fun k hk => by
      have := rm k hk
      rw [at' k this.1 this.2]
    rw [e] at this
    exact this
inductive Num where
  | num (xs : List Int)
  | ring (ks : List Int)
def NumAll (n : Int) (bs : List Bnd) : Num → Prop
  | .num xs => NumOk n bs xs
  | .ring ks => DRing bs ks
end SB
namespace SB
theorem bef_next {n k : Nat} (h : k < n) : bef n ((k + 1) % n) = k := by
  unfold bef
  by_cases e : k + 1 = n
  · rw [e, Nat.mod_self, if_pos rfl]
    omega
  · rw [Nat.mod_eq_of_lt (by omega), if_neg (by omega)]
    omega
theorem next_bef {n k : Nat} (h : k < n) : (bef n k + 1) % n = k ∧ bef n k < n := by
  unfold bef
  by_cases e : k = 0
  · subst e
    rw [if_pos rfl, show n - 1 + 1 = n by omega, Nat.mod_self]
    exact ⟨rfl, by omega⟩
  · rw [if_neg e, show k - 1 + 1 = k by omega, Nat.mod_eq_of_lt h]
    exact ⟨rfl, by omega⟩
theorem ringB_no {bs : List Bnd} {ks : List Int} {k : Nat} (h : k < ks.length) (hn : (nth bs (nth ks (k : Int))).a ≠ (nth bs (nth ks (((k + 1) % ks.length : Nat) : Int))).b) : ringB bs ks = false := by
  unfold ringB
  have : ((List.range ks.length).all fun k : Nat => decide ((nth bs (nth ks ((bef ks.length k : Nat) : Int))).a = (nth bs (nth ks (k : Int))).b)) = false := by
    refine List.all_eq_false.mpr ⟨(k + 1) % ks.length, List.mem_range.mpr (Nat.mod_lt _ (by omega)), ?_⟩
    rw [bef_next h, decide_eq_false hn]
    exact Bool.false_ne_true
  rw [this, Bool.false_and]
theorem ringB_yes {bs : List Bnd} {ks : List Int} (h : ∀ k : Nat, k < ks.length → (nth bs (nth ks (k : Int))).a = (nth bs (nth ks (((k + 1) % ks.length : Nat) : Int))).b) : ringB bs ks = decide ((ks.map fun k => (nth bs k).m).sum < 0) := by
  unfold ringB
  have : ((List.range ks.length).all fun k : Nat => decide ((nth bs (nth ks ((bef ks.length k : Nat) : Int))).a = (nth bs (nth ks (k : Int))).b)) = true := by
    rw [List.all_eq_true]
    intro k hk
    have hk' := List.mem_range.mp hk
    obtain ⟨h1, h2⟩ := next_bef hk'
    have := h _ h2
    rw [h1] at this
    exact decide_eq_true this
  rw [this, Bool.true_and]
theorem ringB_no' {bs : List Bnd} {ks : List Int} {k : Nat} (h : k < ks.length) (hn : (nth bs (nth ks ((bef ks.length k : Nat) : Int))).a ≠ (nth bs (nth ks (k : Int))).b) : ringB bs ks = false := by
  unfold ringB
  have : ((List.range ks.length).all fun k : Nat => decide ((nth bs (nth ks ((bef ks.length k : Nat) : Int))).a = (nth bs (nth ks (k : Int))).b)) = false :=
    List.all_eq_false.mpr ⟨k, List.mem_range.mpr h, by rw [decide_eq_false hn]; exact Bool.false_ne_true⟩
  rw [this, Bool.false_and]
theorem ringB_yes' {bs : List Bnd} {ks : List Int} (h : ∀ k : Nat, k < ks.length → (nth bs (nth ks ((bef ks.length k : Nat) : Int))).a = (nth bs (nth ks (k : Int))).b) : ringB bs ks = decide ((ks.map fun k => (nth bs k).m).sum < 0) := by
  unfold ringB
  have : ((List.range ks.length).all fun k : Nat => decide ((nth bs (nth ks ((bef ks.length k : Nat) : Int))).a = (nth bs (nth ks (k : Int))).b)) = true := by
    rw [List.all_eq_true]
    exact fun k hk => decide_eq_true (h k (List.mem_range.mp hk))
  rw [this, Bool.true_and]
end SB
/-! bounds as data -/
namespace SB
open PySem PySem.Spec PyProof.Rows L2
abbrev bndD (b : Bnd) : PyData := .tuple [.int b.a, .int b.b, .int b.m]
theorem shp_bnd (a : Bnd) : Shp 63 (bndD a) := (shp_tup (n := 0) fun d hd => by
  simp only [List.mem_cons, List.not_mem_nil, or_false] at hd
  rcases hd with rfl | rfl | rfl <;> exact shp_int _).mono (by decide)
end SB
/-! pairs, plain -/
namespace SB
/-! ### sums by places -/
theorem sumR_split {n m : Nat} {f : Nat → Int} : sumR (n + m) f = sumR n f + sumR m (fun k => f (n + k)) := by
  induction m with
  | zero => show sumR n f = _ + 0; omega
  | succ m ih =>
    show sumR (n + m) f + f (n + m) = _ + (_ + f (n + m))
    rw [ih]
    omega
theorem sumR_nonneg {n : Nat} {f : Nat → Int} (h : ∀ k, k < n → 0 ≤ f k) : 0 ≤ sumR n f := by
  induction n with
  | zero => exact Int.le_refl _
  | succ n ih =>
    have := ih fun k hk => h k (by omega)
    have := h n (by omega)
    show 0 ≤ _ + _
    omega
theorem sumR_ge {n : Nat} {f : Nat → Int} (h : ∀ k, k < n → 0 ≤ f k) {i : Nat} (hi : i < n) : f i ≤ sumR n f := by
  induction n with
  | zero => omega
  | succ n ih =>
    show f i ≤ _ + _
    have hn := h n (by omega)
    by_cases e : i = n
    · subst e
      have := sumR_nonneg (n := i) (f := f) fun k hk => h k (by omega)
      omega
    · have := ih (fun k hk => h k (by omega)) (by omega)
      omega
theorem sumR_two {n : Nat} {f : Nat → Int} (h : ∀ k, k < n → 0 ≤ f k) {i j : Nat} (hij : i < j) (hj : j < n) : f i + f j ≤ sumR n f := by
  induction n with
  | zero => omega
  | succ n ih =>
    show f i + f j ≤ _ + _
    have hn := h n (by omega)
    by_cases e : j = n
    · subst e
      have := sumR_ge (n := j) (f := f) (fun k hk => h k (by omega)) hij
      omega
    · have := ih (fun k hk => h k (by omega)) (by omega)
      omega
theorem sumR_le {n : Nat} {f g : Nat → Int} (h : ∀ k, k < n → f k ≤ g k) : sumR n f ≤ sumR n g := by
  induction n with
  | zero => exact Int.le_refl _
  | succ n ih =>
    have := ih fun k hk => h k (by omega)
    have := h n (by omega)
    show _ + _ ≤ _ + _
    omega
theorem sumR_pos {n : Nat} {f : Nat → Int} (h : 0 < sumR n f) : ∃ k, k < n ∧ 0 < f k := by
  refine Classical.byContradiction fun hn => ?_
  have := sumR_le (n := n) (f := f) (g := fun _ => 0) fun k hk => by
    by_cases e : 0 < f k
    · exact absurd ⟨k, hk, e⟩ hn
    · omega
  rw [sumR_zero] at this
  omega
theorem sumR_sub {n : Nat} {f g : Nat → Int} : sumR n (fun k => f k - g k) = sumR n f - sumR n g := by
  induction n with
  | zero => rfl
  | succ n ih => simp only [sumR]; rw [ih]; omega
theorem sumR_list {n : Nat} {f : Nat → Int} : ((List.range n).map f).sum = sumR n f := by
  induction n with
  | zero => rfl
  | succ n ih => rw [List.range_succ, List.map_append, List.sum_append, ih]; simp [sumR]
theorem sumR_cnt {n : Nat} {p : Nat → Bool} : (((List.range n).filter p).length : Int) = sumR n (fun k => if p k = true then 1 else 0) := by
  induction n with
  | zero => rfl
  | succ n ih =>
    rw [List.range_succ, List.filter_append, List.length_append]
    show _ = sumR n _ + (if p n = true then 1 else 0)
    rw [← ih]
    by_cases h : p n = true
    · rw [List.filter_cons_of_pos h, if_pos h]
      simp
    · rw [List.filter_cons_of_neg h, if_neg h]
      simp
theorem map_sumR {α : Type} [Inhabited α] {xs : List α} {F : α → Int} : (xs.map F).sum = sumR xs.length (fun j => F (nth xs (j : Int))) := by
  rw [← sumR_list]
  congr 1
  apply List.ext_getElem?
  intro i
  rw [List.getElem?_map, List.getElem?_map]
  by_cases h : i < xs.length
  · rw [List.getElem?_range h, List.getElem?_eq_getElem h]
    simp only [Option.map_some]
    rw [nth_nat (List.getElem?_eq_getElem h)]
  · rw [List.getElem?_eq_none (by omega), List.getElem?_eq_none (by rw [List.length_range]; omega)]
    rfl
theorem zip_sumR {as : List Arc} {ms : List Int} {F : Arc × Int → Int} (hl : ms.length = as.length) : ((as.zip ms).map F).sum = sumR as.length (fun j => F (nth as (j : Int), nth ms (j : Int))) := by
  have hz : (as.zip ms).length = as.length := by rw [List.length_zip]; omega
  rw [map_sumR, hz]
  refine sumR_congr fun j hj => ?_
  rw [nth_nat (zip_get (List.getElem?_eq_getElem hj) (List.getElem?_eq_getElem (by omega)))]
  rw [nth_nat (List.getElem?_eq_getElem hj), nth_nat (List.getElem?_eq_getElem (show j < ms.length by omega))]
theorem into_io {as : List Arc} {ms : List Int} (hl : ms.length = as.length) (v : Int) :
    into (as.zip ms) v = sumR as.length (fun j => if (nth as (j : Int)).t = v then nth ms (j : Int) else 0) - sumR as.length (fun j => if (nth as (j : Int)).s = v then nth ms (j : Int) else 0) := by
  unfold into
  rw [zip_sumR hl, ← sumR_sub]
/-! ### the network of pairs -/
def pArcs (R C : Nat) (prs : List (Int × Int)) : List Arc :=
  prs.map (fun p => (⟨p.1, R + p.2, 1, 0⟩ : Arc)) ++ (List.range R).map (fun k : Nat => (⟨R + C, (k : Int), 1, 0⟩ : Arc)) ++ (List.range C).map (fun k : Nat => (⟨R + (k : Int), R + C + 1, 1, 0⟩ : Arc))
structure GoodP (R C : Nat) (prs : List (Int × Int)) : Prop where
  r : R ≤ 5
  c : C ≤ 5
  few : prs.length ≤ 30
  rng : ∀ p ∈ prs, 0 ≤ p.1 ∧ p.1 < R ∧ 0 ≤ p.2 ∧ p.2 < C
section
variable {R C : Nat} {prs : List (Int × Int)}
theorem pArcs_len : (pArcs R C prs).length = prs.length + R + C := by simp [pArcs]; omega
theorem pa_pair {j : Nat} (h : j < prs.length) : nth (pArcs R C prs) (j : Int) = ⟨(nth prs (j : Int)).1, R + (nth prs (j : Int)).2, 1, 0⟩ := by
  apply nth_nat
  unfold pArcs
  rw [List.getElem?_append_left (by simp; omega), List.getElem?_append_left (by simp; omega), List.getElem?_map, List.getElem?_eq_getElem h, nth_nat (List.getElem?_eq_getElem h)]
  rfl
theorem pa_row {k : Nat} (h : k < R) : nth (pArcs R C prs) ((prs.length + k : Nat) : Int) = ⟨R + C, (k : Int), 1, 0⟩ := by
  apply nth_nat
  unfold pArcs
  rw [List.getElem?_append_left (by simp; omega), List.getElem?_append_right (by simp), List.getElem?_map]
  simp [h]
theorem pa_col {k : Nat} (h : k < C) : nth (pArcs R C prs) ((prs.length + R + k : Nat) : Int) = ⟨R + (k : Int), R + C + 1, 1, 0⟩ := by
  apply nth_nat
  unfold pArcs
  rw [List.getElem?_append_right (by simp), List.getElem?_map]
  simp [h]
/-- by kinds -/
theorem pa_cases {j : Nat} (h : j < (pArcs R C prs).length) : j < prs.length ∨ (∃ k, k < R ∧ j = prs.length + k) ∨ ∃ k, k < C ∧ j = prs.length + R + k := by
  rw [pArcs_len] at h
  by_cases h1 : j < prs.length
  · exact .inl h1
  · by_cases h2 : j < prs.length + R
    · exact .inr (.inl ⟨j - prs.length, by omega, by omega⟩)
    · exact .inr (.inr ⟨j - prs.length - R, by omega, by omega⟩)
theorem pa_room {j : Nat} (h : j < (pArcs R C prs).length) : (nth (pArcs R C prs) (j : Int)).r = 1 := by
  rcases pa_cases h with hk | ⟨k, hk, rfl⟩ | ⟨k, hk, rfl⟩
  · rw [pa_pair hk]
  · rw [pa_row hk]
  · rw [pa_col hk]
theorem pa_good (G : GoodP R C prs) : GoodG (R + C + 2) (pArcs R C prs) (R + C) (R + C + 1) := by
  have h1 := G.r
  have h2 := G.c
  have h3 := G.few
  refine ⟨⟨by omega, by omega, by rw [pArcs_len]; omega, fun a ha => ?_⟩, by omega, by omega, by omega, by omega, by omega, fun a ha => ?_⟩
  · obtain ⟨j, hj⟩ := List.getElem?_of_mem ha
    have hl := (List.getElem?_eq_some_iff.mp hj).1
    rw [← nth_nat hj]
    rcases pa_cases hl with hk | ⟨k, hk, rfl⟩ | ⟨k, hk, rfl⟩
    · have := G.rng _ (nth_mem (xs := prs) (i := (j : Int)) (by omega) (by omega))
      rw [pa_pair hk]
      exact ⟨by dsimp only; omega, by dsimp only; omega, by dsimp only; omega, by dsimp only; omega⟩
    · rw [pa_row hk]
      exact ⟨by dsimp only; omega, by dsimp only; omega, by dsimp only; omega, by dsimp only; omega⟩
    · rw [pa_col hk]
      exact ⟨by dsimp only; omega, by dsimp only; omega, by dsimp only; omega, by dsimp only; omega⟩
  · obtain ⟨j, hj⟩ := List.getElem?_of_mem ha
    rw [← nth_nat hj, pa_room (List.getElem?_eq_some_iff.mp hj).1]
    decide
/-- into a row one arc leads, out of a column too -/
theorem pa_in {j : Nat} (h : j < (pArcs R C prs).length) (G : GoodP R C prs) {a : Int} (h1 : a < R) (e : (nth (pArcs R C prs) (j : Int)).t = a) : (j : Int) = prs.length + a ∧ (nth (pArcs R C prs) (j : Int)).s = R + C := by
  rcases pa_cases h with hk | ⟨k, hk, rfl⟩ | ⟨k, hk, rfl⟩
  · have := G.rng _ (nth_mem (xs := prs) (i := (j : Int)) (by omega) (by omega))
    rw [pa_pair hk] at e
    try dsimp only at e
    omega
  · rw [pa_row hk] at e ⊢
    dsimp only at e ⊢
    omega
  · rw [pa_col hk] at e
    try dsimp only at e
    omega
theorem pa_out {j : Nat} (h : j < (pArcs R C prs).length) (G : GoodP R C prs) {b : Int} (h1 : R ≤ b) (h2 : b < R + C) (e : (nth (pArcs R C prs) (j : Int)).s = b) : (j : Int) = prs.length + b := by
  rcases pa_cases h with hk | ⟨k, hk, rfl⟩ | ⟨k, hk, rfl⟩
  · have := G.rng _ (nth_mem (xs := prs) (i := (j : Int)) (by omega) (by omega))
    rw [pa_pair hk] at e
    try dsimp only at e
    omega
  · rw [pa_row hk] at e
    try dsimp only at e
    omega
  · rw [pa_col hk] at e
    try dsimp only at e
    omega
variable {ms side : List Int} {P : Int}
theorem bd01 (F : Flow (pArcs R C prs) (R + C) (R + C + 1) ms) {j : Nat} (h : j < (pArcs R C prs).length) : 0 ≤ nth ms (j : Int) ∧ nth ms (j : Int) ≤ 1 := by
  have := F.bd j h
  rw [pa_room h] at this
  exact this
/-- what is one sum of at most one thing -/
theorem sumR_le_one {n : Nat} {f : Nat → Int} {i : Nat} (h0 : ∀ k, k < n → k ≠ i → f k = 0) (h1 : f i ≤ 1) : sumR n f ≤ 1 := by
  have : sumR n f ≤ sumR n (fun k => if (i : Int) = (k : Int) then 1 else 0) := sumR_le fun k hk => by
    by_cases e : k = i
    · subst e
      rw [if_pos rfl]
      exact h1
    · rw [if_neg (by omega), h0 k hk e]
      exact Int.le_refl _
  rw [sumR_one] at this
  split at this <;> omega
theorem row_in (G : GoodP R C prs) (F : Flow (pArcs R C prs) (R + C) (R + C + 1) ms) {a : Int} (h0 : 0 ≤ a) (h1 : a < R) : sumR (pArcs R C prs).length (fun j => if (nth (pArcs R C prs) (j : Int)).s = a then nth ms (j : Int) else 0) ≤ 1 := by
  have hc := F.cons a (by omega) (by omega)
  rw [into_io F.len] at hc
  have : sumR (pArcs R C prs).length (fun j => if (nth (pArcs R C prs) (j : Int)).t = a then nth ms (j : Int) else 0) ≤ 1 := by
    refine sumR_le_one (i := prs.length + a.toNat) (fun k hk hne => ?_) ?_
    · rw [if_neg]
      intro e
      have := (pa_in hk G h1 e).1
      omega
    · have := (bd01 F (j := prs.length + a.toNat) (by rw [pArcs_len]; omega)).2
      split <;> omega
  omega
theorem col_out (G : GoodP R C prs) (F : Flow (pArcs R C prs) (R + C) (R + C + 1) ms) {b : Int} (h0 : R ≤ b) (h1 : b < R + C) : sumR (pArcs R C prs).length (fun j => if (nth (pArcs R C prs) (j : Int)).t = b then nth ms (j : Int) else 0) ≤ 1 := by
  have hc := F.cons b (by omega) (by omega)
  rw [into_io F.len] at hc
  have : sumR (pArcs R C prs).length (fun j => if (nth (pArcs R C prs) (j : Int)).s = b then nth ms (j : Int) else 0) ≤ 1 := by
    refine sumR_le_one (i := prs.length + b.toNat) (fun k hk hne => ?_) ?_
    · rw [if_neg]
      intro e
      have := pa_out hk G h0 h1 e
      omega
    · have := (bd01 F (j := prs.length + b.toNat) (by rw [pArcs_len]; omega)).2
      split <;> omega
  omega
/-- pairs that are taken share nothing -/
theorem pa_apart (G : GoodP R C prs) (F : Flow (pArcs R C prs) (R + C) (R + C + 1) ms) {i j : Nat} (hij : i < j) (hj : j < prs.length) (hi1 : nth ms (i : Int) = 1) (hj1 : nth ms (j : Int) = 1) :
    (nth prs (i : Int)).1 ≠ (nth prs (j : Int)).1 ∧ (nth prs (i : Int)).2 ≠ (nth prs (j : Int)).2 := by
  have hl := pArcs_len (R := R) (C := C) (prs := prs)
  have ri := G.rng _ (nth_mem (xs := prs) (i := (i : Int)) (by omega) (by omega))
  have nn : ∀ (p : Nat → Prop) [DecidablePred p], ∀ k, k < (pArcs R C prs).length → 0 ≤ (if p k then nth ms (k : Int) else 0) := fun p _ k hk => by
    have h := (bd01 F hk).1
    by_cases e : p k
    · rw [if_pos e]; exact h
    · rw [if_neg e]; exact Int.le_refl _
  constructor
  · intro e
    have h := row_in G F ri.1 ri.2.1
    have h2 := sumR_two (n := (pArcs R C prs).length) (nn fun k => (nth (pArcs R C prs) (k : Int)).s = (nth prs (i : Int)).1) hij (by omega)
    try dsimp only at h2
    rw [pa_pair (by omega), pa_pair hj, if_pos rfl, if_pos e.symm, hi1, hj1] at h2
    omega
  · intro e
    have h := col_out G F (b := R + (nth prs (i : Int)).2) (by omega) (by omega)
    have h2 := sumR_two (n := (pArcs R C prs).length) (nn fun k => (nth (pArcs R C prs) (k : Int)).t = R + (nth prs (i : Int)).2) hij (by omega)
    try dsimp only at h2
    rw [pa_pair (by omega), pa_pair hj, if_pos rfl, if_pos (by dsimp only; omega), hi1, hj1] at h2
    omega
/-- each pair is covered -/
theorem pa_cover (G : GoodP R C prs) (GR : Great P (pArcs R C prs) (R + C) (R + C + 1) ms side) {j : Nat} (hj : j < prs.length) (ha : (nth prs (j : Int)).1 ∈ side) : R + (nth prs (j : Int)).2 ∈ side := by
  have hl := pArcs_len (R := R) (C := C) (prs := prs)
  have rj := G.rng _ (nth_mem (xs := prs) (i := (j : Int)) (by omega) (by omega))
  have F := GR.flow
  have hjl : j < (pArcs R C prs).length := by omega
  refine Classical.byContradiction fun hb => ?_
  have nn : ∀ (p : Nat → Prop) [DecidablePred p], ∀ k, k < (pArcs R C prs).length → 0 ≤ (if p k then nth ms (k : Int) else 0) := fun p _ k hk => by
    have h := (bd01 F hk).1
    by_cases e : p k
    · rw [if_pos e]; exact h
    · rw [if_neg e]; exact Int.le_refl _
  have ea := pa_pair (R := R) (C := C) hj
  have m1 : nth ms (j : Int) = 1 := by
    have := bd01 F hjl
    by_cases e : nth ms (j : Int) < 1
    · exfalso
      obtain ⟨st, hs, he⟩ := stepsOf_fwd (as := pArcs R C prs) (ms := ms) hjl (by rw [pa_room hjl]; exact e)
      rw [ea] at hs he
      try dsimp only at hs he
      have := GR.cl _ ha st hs
      rw [he] at this
      exact hb this
    · omega
  generalize hA : (nth prs (j : Int)).1 = a at *
  generalize hB : (nth prs (j : Int)).2 = b at *
  have out := row_in G F rj.1 rj.2.1
  -- the row's own arc is full
  have full : ∀ k : Nat, k < (pArcs R C prs).length → (nth (pArcs R C prs) (k : Int)).t = a → nth ms (k : Int) = 1 := fun k hk ek => by
    have o1 := sumR_ge (n := (pArcs R C prs).length) (nn fun k => (nth (pArcs R C prs) (k : Int)).s = a) hjl
    try dsimp only at o1
    rw [ea, if_pos rfl, m1] at o1
    have hc := F.cons a (by omega) (by omega)
    rw [into_io F.len] at hc
    obtain ⟨k2, hk2, hp⟩ := sumR_pos (n := (pArcs R C prs).length) (f := fun j => if (nth (pArcs R C prs) (j : Int)).t = a then nth ms (j : Int) else 0) (by omega)
    try dsimp only at hp
    by_cases e2 : (nth (pArcs R C prs) (k2 : Int)).t = a
    · rw [if_pos e2] at hp
      have q1 := (pa_in hk G rj.2.1 ek).1
      have q2 := (pa_in hk2 G rj.2.1 e2).1
      have : k = k2 := by omega
      subst this
      have := bd01 F hk
      omega
    · rw [if_neg e2] at hp
      omega
  have := GR.mn (fun v => v ∈ side ∧ v ≠ a) ⟨GR.st, by omega⟩ (fun v ⟨hv, hva⟩ st hst => ⟨GR.cl v hv st hst, fun e => ?_⟩) a ha
  · exact this.2 rfl
  · obtain ⟨o, r⟩ := stepsOf_ok hst
    have k0 := o.k0
    have k1 := o.k1
    obtain ⟨k, hk⟩ : ∃ k : Nat, st.k = k := ⟨st.k.toNat, by omega⟩
    have hkl : k < (pArcs R C prs).length := by omega
    rcases o.ends with ⟨d, e1, e2⟩ | ⟨d, e1, e2⟩
    · rcases r.most with ⟨_, h⟩ | ⟨d2, _⟩
      · have := full k hkl (by rw [← hk, e2, e])
        rw [hk, pa_room hkl, this] at h
        have := r.pos
        omega
      · omega
    · rcases r.most with ⟨d2, _⟩ | ⟨_, h⟩
      · omega
      · have hp := r.pos
        rw [h, hk] at hp
        have b2 := bd01 F hkl
        have ne : k ≠ j := fun e3 => by
          subst e3
          rw [hk, ea] at e1
          try dsimp only at e1
          rw [← e1] at hv
          exact hb hv
        rw [hk] at e2
        have two : ∀ {x y : Nat}, x < y → y < (pArcs R C prs).length → (nth (pArcs R C prs) (x : Int)).s = a → (nth (pArcs R C prs) (y : Int)).s = a → nth ms (x : Int) = 1 → nth ms (y : Int) = 1 → False := fun {x y} h1 h2 h3 h4 h5 h6 => by
          have h7 := sumR_two (n := (pArcs R C prs).length) (nn fun k => (nth (pArcs R C prs) (k : Int)).s = a) h1 h2
          try dsimp only at h7
          rw [if_pos h3, if_pos h4, h5, h6] at h7
          omega
        rcases Nat.lt_or_gt_of_ne ne with h8 | h8
        · exact two h8 hjl (by rw [e2, e]) (by rw [ea]) (by omega) m1
        · exact two h8 hkl (by rw [ea]) (by rw [e2, e]) m1 (by omega)
/-- as many as the cover has -/
theorem pa_size (G : GoodP R C prs) (GR : Great P (pArcs R C prs) (R + C) (R + C + 1) ms side) (g1 : (R : Int) + C + 1 < P) :
    ((List.range prs.length).filter fun k : Nat => decide (nth ms (k : Int) = 1)).length = ((List.range R).filter fun k : Nat => !decide ((k : Int) ∈ side)).length + ((List.range C).filter fun k : Nat => decide ((R : Int) + (k : Int) ∈ side)).length := by
  have hl := pArcs_len (R := R) (C := C) (prs := prs)
  have F := GR.flow
  have GG := pa_good G
  have ok : ∀ a ∈ pArcs R C prs, ArcOk P a := fun a ha => by
    have := GG.look.arcs a ha
    exact ⟨this.s0, by have := this.s1; omega, this.t0, by have := this.t1; omega⟩
  have e1 := flow_across F ok (fun v => decide (v < R) || decide (v = R + C)) (by simp) (by simp; omega) (by omega) g1
  unfold across at e1
  rw [zip_sumR F.len, hl, sumR_split, sumR_split, sumR_congr (n := prs.length) (g := fun j => if (decide (nth ms (j : Int) = 1)) = true then 1 else 0) (fun j hj => ?a), sumR_congr (n := R) (g := fun _ => 0) (fun j hj => ?b), sumR_congr (n := C) (g := fun _ => 0) (fun j hj => ?c), sumR_zero, sumR_zero] at e1
  case a =>
    have b := bd01 F (j := j) (by omega)
    have r := G.rng _ (nth_mem (xs := prs) (i := (j : Int)) (by omega) (by omega))
    show (if (decide ((nth (pArcs R C prs) (j : Int)).t < (R : Int)) || decide ((nth (pArcs R C prs) (j : Int)).t = R + C)) = true then 0 else nth ms (j : Int)) - (if (decide ((nth (pArcs R C prs) (j : Int)).s < (R : Int)) || decide ((nth (pArcs R C prs) (j : Int)).s = R + C)) = true then 0 else nth ms (j : Int)) = _
    rw [pa_pair hj]
    try dsimp only
    have h1 : (decide ((R : Int) + (nth prs (j : Int)).2 < R) || decide ((R : Int) + (nth prs (j : Int)).2 = R + C)) = false := by simp; omega
    have h2 : (decide ((nth prs (j : Int)).1 < R) || decide ((nth prs (j : Int)).1 = R + C)) = true := by simp; omega
    rw [h1, h2]
    by_cases e : nth ms (j : Int) = 1
    · simp [e]
    · have : nth ms (j : Int) = 0 := by omega
      simp [this]
  case b =>
    rw [pa_row hj]
    try dsimp only
    have h1 : (decide ((j : Int) < R) || decide ((j : Int) = R + C)) = true := by simp; omega
    have h2 : (decide ((R : Int) + C < R) || decide ((R : Int) + C = R + C)) = true := by simp
    rw [if_pos h1, if_pos h2]
    rfl
  case c =>
    rw [pa_col hj]
    try dsimp only
    have h1 : (decide ((R : Int) + C + 1 < R) || decide ((R : Int) + C + 1 = R + C)) = false := by simp; omega
    have h2 : (decide ((R : Int) + j < R) || decide ((R : Int) + j = R + C)) = false := by simp; omega
    rw [if_neg (by rw [h1]; exact Bool.false_ne_true), if_neg (by rw [h2]; exact Bool.false_ne_true)]
    omega
  have e2 := GR.size
  rw [cutSize_eq, map_sumR, hl, sumR_split, sumR_split, sumR_congr (n := prs.length) (g := fun _ => 0) (fun j hj => ?a), sumR_congr (n := R) (g := fun k => if (!decide ((k : Int) ∈ side)) = true then 1 else 0) (fun j hj => ?b), sumR_congr (n := C) (g := fun k => if (decide ((R : Int) + (k : Int) ∈ side)) = true then 1 else 0) (fun j hj => ?c), sumR_zero, ← sumR_cnt, ← sumR_cnt] at e2
  case a =>
    rw [pa_pair hj]
    unfold cutStep leaves
    try dsimp only
    by_cases h : (nth prs (j : Int)).1 ∈ side
    · have := pa_cover G GR hj h
      simp [this]
    · simp [h]
  case b =>
    rw [pa_row hj]
    unfold cutStep leaves
    try dsimp only
    rw [decide_eq_true GR.st]
    simp
  case c =>
    rw [pa_col hj]
    unfold cutStep leaves
    try dsimp only
    rw [decide_eq_false GR.gl]
    simp
  rw [← sumR_cnt] at e1
  omega
end
end SB
namespace SB
/-! ### what is told of pairs -/
def apartB (prs : List (Int × Int)) (tk : List Int) : Bool :=
  (List.range tk.length).all fun k : Nat => (List.range k).all fun j : Nat => !(decide ((nth prs (nth tk (k : Int))).1 = (nth prs (nth tk (j : Int))).1) || decide ((nth prs (nth tk (k : Int))).2 = (nth prs (nth tk (j : Int))).2))
def coverB (prs : List (Int × Int)) (c0 c1 : List Int) : Bool := prs.all fun p => decide (p.1 ∈ c0) || decide (p.2 ∈ c1)
structure PairOk (R C : Nat) (prs : List (Int × Int)) (tk c0 c1 : List Int) : Prop where
  tup : tk.Pairwise (· < ·)
  trng : ∀ k ∈ tk, 0 ≤ k ∧ k < prs.length
  up0 : c0.Pairwise (· < ·)
  rng0 : ∀ k ∈ c0, 0 ≤ k ∧ k < R
  up1 : c1.Pairwise (· < ·)
  rng1 : ∀ k ∈ c1, 0 ≤ k ∧ k < C
  apart : apartB prs tk = true
  cover : coverB prs c0 c1 = true
  size : tk.length = c0.length + c1.length
def rg (n : Nat) (p : Nat → Bool) : List Int := ((List.range n).filter p).map fun k : Nat => (k : Int)
theorem rg_len {n : Nat} {p : Nat → Bool} : (rg n p).length = ((List.range n).filter p).length := List.length_map _
theorem rg_mem {n : Nat} {p : Nat → Bool} {k : Int} : k ∈ rg n p ↔ 0 ≤ k ∧ k < n ∧ p k.toNat = true := by
  unfold rg
  rw [List.mem_map]
  constructor
  · rintro ⟨j, hj, rfl⟩
    obtain ⟨h1, h2⟩ := List.mem_filter.mp hj
    have := List.mem_range.mp h1
    exact ⟨by omega, by omega, by rw [Int.toNat_natCast]; exact h2⟩
  · rintro ⟨h0, h1, h2⟩
    exact ⟨k.toNat, List.mem_filter.mpr ⟨List.mem_range.mpr (by omega), h2⟩, by omega⟩
theorem rg_up {n : Nat} {p : Nat → Bool} : (rg n p).Pairwise (· < ·) := by
  unfold rg
  rw [List.pairwise_map]
  exact ((List.pairwise_lt_range (n := n)).filter p).imp fun h => by omega
theorem up_nth {xs : List Int} (h : xs.Pairwise (· < ·)) {i j : Nat} (hij : i < j) (hj : j < xs.length) : nth xs (i : Int) < nth xs (j : Int) := by
  rw [nth_nat (List.getElem?_eq_getElem (show i < xs.length by omega)), nth_nat (List.getElem?_eq_getElem hj)]
  exact List.pairwise_iff_getElem.mp h i j (by omega) hj hij
theorem pair_ok {R C : Nat} {prs : List (Int × Int)} {ms side : List Int} {P : Int} (G : GoodP R C prs) (GR : Great P (pArcs R C prs) (R + C) (R + C + 1) ms side) (g1 : (R : Int) + C + 1 < P) :
    PairOk R C prs (rg prs.length fun k : Nat => decide (nth ms (k : Int) = 1)) (rg R fun k : Nat => !decide ((k : Int) ∈ side)) (rg C fun k : Nat => decide ((R : Int) + (k : Int) ∈ side)) := by
  refine ⟨rg_up, fun k hk => ⟨(rg_mem.mp hk).1, (rg_mem.mp hk).2.1⟩, rg_up, fun k hk => ⟨(rg_mem.mp hk).1, (rg_mem.mp hk).2.1⟩, rg_up, fun k hk => ⟨(rg_mem.mp hk).1, (rg_mem.mp hk).2.1⟩, ?_, ?_, ?_⟩
  · generalize ht : (rg prs.length fun k : Nat => decide (nth ms (k : Int) = 1)) = tk
    unfold apartB
    rw [List.all_eq_true]
    intro k hk
    rw [List.all_eq_true]
    intro j hj
    have hk' := List.mem_range.mp hk
    have hj' := List.mem_range.mp hj
    have m1 := nth_mem (xs := tk) (i := (j : Int)) (by omega) (by omega)
    have m2 := nth_mem (xs := tk) (i := (k : Int)) (by omega) (by omega)
    have hup : tk.Pairwise (· < ·) := ht ▸ rg_up
    have lt := up_nth hup hj' hk'
    rw [← ht] at m1 m2
    obtain ⟨a1, a2, a3⟩ := rg_mem.mp m1
    obtain ⟨b1, b2, b3⟩ := rg_mem.mp m2
    rw [ht] at a1 a2 a3 b1 b2 b3
    have ap := pa_apart G GR.flow (i := (nth tk (j : Int)).toNat) (j := (nth tk (k : Int)).toNat) (by omega) (by omega) (of_decide_eq_true a3) (of_decide_eq_true b3)
    rw [Int.toNat_of_nonneg a1, Int.toNat_of_nonneg b1] at ap
    rw [decide_eq_false (fun e => ap.1 e.symm), decide_eq_false (fun e => ap.2 e.symm)]
    rfl
  · unfold coverB
    rw [List.all_eq_true]
    intro p hp
    obtain ⟨j, hj⟩ := List.getElem?_of_mem hp
    have hl := (List.getElem?_eq_some_iff.mp hj).1
    have r := G.rng p hp
    by_cases h : p.1 ∈ side
    · have := pa_cover G GR hl (by rw [nth_nat hj]; exact h)
      rw [nth_nat hj] at this
      rw [Bool.or_eq_true]
      refine .inr (decide_eq_true (rg_mem.mpr ⟨r.2.2.1, r.2.2.2, ?_⟩))
      rw [Int.toNat_of_nonneg r.2.2.1]
      exact decide_eq_true this
    · rw [Bool.or_eq_true]
      refine .inl (decide_eq_true (rg_mem.mpr ⟨r.1, r.2.1, ?_⟩))
      rw [Int.toNat_of_nonneg r.1, decide_eq_false h]
      rfl
  · rw [rg_len, rg_len, rg_len]
    exact pa_size G GR g1
/-! ### unlike ones -/
theorem nodup_of_len {ns : List Int} : ∀ {ks : List Int}, ks.Nodup → ks ⊆ ns → ns.length ≤ ks.length → ns.Nodup := by
  induction ns with
  | nil => exact fun _ _ _ => List.nodup_nil
  | cons a r ih =>
    intro ks nd hs hl
    rw [List.length_cons] at hl
    by_cases ha : a ∈ r
    · have := nodup_sub nd (l := r) fun x hx => by
        rcases List.mem_cons.mp (hs hx) with e | h
        · rw [e]; exact ha
        · exact h
      omega
    · refine List.nodup_cons.mpr ⟨ha, ih (ks := ks.erase a) (nd.erase a) (fun x hx => ?_) ?_⟩
      · obtain ⟨h1, h2⟩ := (List.Nodup.mem_erase_iff nd).mp hx
        rcases List.mem_cons.mp (hs h2) with e | h
        · exact absurd e h1
        · exact h
      · have := List.length_erase (a := a) (l := ks)
        split at this <;> omega
theorem len_nodup {ns ks : List Int} (nd : ks.Nodup) (h : ∀ j, j ∈ ks ↔ j ∈ ns) : ks.length = ns.length ↔ ns.Nodup := by
  constructor
  · intro e
    exact nodup_of_len nd (fun x hx => (h x).mp hx) (by omega)
  · intro n2
    have h1 := nodup_sub nd (l := ns) fun x hx => (h x).mp hx
    have h2 := nodup_sub n2 (l := ks) fun x hx => (h x).mpr hx
    omega
theorem apart_nodup {prs : List (Int × Int)} {tk : List Int} : apartB prs tk = (decide (tk.map fun k => (nth prs k).1).Nodup && decide (tk.map fun k => (nth prs k).2).Nodup) := by
  have key : ∀ f : Int → Int, (tk.map f).Nodup ↔ ∀ k : Nat, k < tk.length → ∀ j : Nat, j < k → f (nth tk (k : Int)) ≠ f (nth tk (j : Int)) := fun f => by
    rw [List.Nodup, List.pairwise_iff_getElem]
    constructor
    · intro h k hk j hj
      have := h j k (by rw [List.length_map]; omega) (by rw [List.length_map]; omega) hj
      rw [List.getElem_map, List.getElem_map] at this
      rw [nth_nat (List.getElem?_eq_getElem hk), nth_nat (List.getElem?_eq_getElem (show j < tk.length by omega))]
      exact fun e => this e.symm
    · intro h i j hi hj hij
      rw [List.length_map] at hi hj
      have := h j hj i hij
      rw [List.getElem_map, List.getElem_map]
      rw [nth_nat (List.getElem?_eq_getElem hj), nth_nat (List.getElem?_eq_getElem hi)] at this
      exact fun e => this e.symm
  rw [Bool.eq_iff_iff, Bool.and_eq_true, decide_eq_true_iff, decide_eq_true_iff, key, key]
  unfold apartB
  rw [List.all_eq_true]
  constructor
  · intro h
    have g : ∀ k : Nat, k < tk.length → ∀ j : Nat, j < k → (nth prs (nth tk (k : Int))).1 ≠ (nth prs (nth tk (j : Int))).1 ∧ (nth prs (nth tk (k : Int))).2 ≠ (nth prs (nth tk (j : Int))).2 := fun k hk j hj => by
      have := List.all_eq_true.mp (h k (List.mem_range.mpr hk)) j (List.mem_range.mpr hj)
      rw [Bool.not_eq_true', Bool.or_eq_false_iff, decide_eq_false_iff_not, decide_eq_false_iff_not] at this
      exact this
    exact ⟨fun k hk j hj => (g k hk j hj).1, fun k hk j hj => (g k hk j hj).2⟩
  · rintro ⟨h1, h2⟩ k hk
    rw [List.all_eq_true]
    intro j hj
    rw [decide_eq_false (h1 k (List.mem_range.mp hk) j (List.mem_range.mp hj)), decide_eq_false (h2 k (List.mem_range.mp hk) j (List.mem_range.mp hj))]
    rfl
end SB
namespace SB
structure GoodPI (R C : Int) (prs : List (Int × Int)) : Prop where
  r0 : 0 ≤ R
  r1 : R ≤ 5
  c0 : 0 ≤ C
  c1 : C ≤ 5
  few : prs.length ≤ 30
  rng : ∀ p ∈ prs, 0 ≤ p.1 ∧ p.1 < R ∧ 0 ≤ p.2 ∧ p.2 < C
end SB
/-! pairs as data -/
namespace SB
open PySem PySem.Spec PyProof.Rows L2
theorem shp_pr (a : Int × Int) : Shp 63 (prD a) := (shp_tup (n := 0) fun d hd => by
  simp only [List.mem_cons, List.not_mem_nil, or_false] at hd
  rcases hd with rfl | rfl <;> exact shp_int _).mono (by decide)
end SB
/-! forests, plain -/
namespace SB
/-! ### groups -/
def rng0 (P : Int) : List Int := (List.range P.toNat).map fun k : Nat => (k : Int)
theorem rng0_len {P : Int} : (rng0 P).length = P.toNat := by simp [rng0]
theorem rng0_at {P v : Int} (h0 : 0 ≤ v) (h1 : v < P) : nth (rng0 P) v = v := by
  apply nth_eq
  unfold rng0
  rw [List.getElem?_map, List.getElem?_range (by omega)]
  show some ((v.toNat : Nat) : Int) = some v
  congr 1
  omega
def merge (g : List Int) (a b : Int) : List Int := g.map fun z => if z = b then a else z
theorem merge_len {g : List Int} {a b : Int} : (merge g a b).length = g.length := List.length_map _
theorem merge_at {g : List Int} {a b v : Int} (h0 : 0 ≤ v) (h1 : v < g.length) : nth (merge g a b) v = if nth g v = b then a else nth g v := by
  apply nth_eq
  unfold merge
  rw [List.getElem?_map, nth_get h0 h1]
  rfl
def grpStep (as : List Arc) (g : List Int) (k : Int) : List Int := merge g (nth g (nth as k).s) (nth g (nth as k).t)
def grp (as : List Arc) (P : Int) (ks : List Int) : List Int := ks.foldl (grpStep as) (rng0 P)
theorem grp_len {as : List Arc} {P : Int} {ks : List Int} : (grp as P ks).length = P.toNat := by
  unfold grp
  suffices h : ∀ g : List Int, (ks.foldl (grpStep as) g).length = g.length by rw [h, rng0_len]
  induction ks with
  | nil => intro g; rfl
  | cons k r ih => intro g; rw [List.foldl_cons, ih]; exact merge_len
theorem grp_app {as : List Arc} {P : Int} {ks : List Int} {k : Int} : grp as P (ks ++ [k]) = grpStep as (grp as P ks) k := by
  unfold grp
  rw [List.foldl_append]
  rfl
def In (P v : Int) : Prop := 0 ≤ v ∧ v < P
theorem grpStep_at {as : List Arc} {P : Int} {g : List Int} {k v : Int} (hl : g.length = P.toNat) (hv : In P v) : nth (grpStep as g k) v = if nth g v = nth g (nth as k).t then nth g (nth as k).s else nth g v :=
  merge_at hv.1 (by have := hv.1; have := hv.2; omega)
/-! ### the forest that is taken -/
def krStep (as : List Arc) (P : Int) (F : List Int) (k : Int) : List Int := if nth (grp as P F) (nth as k).s = nth (grp as P F) (nth as k).t then F else F ++ [k]
def kr (as : List Arc) (P : Int) (ks : List Int) : List Int := ks.foldl (krStep as P) []
theorem kr_app {as : List Arc} {P : Int} {ks : List Int} {k : Int} : kr as P (ks ++ [k]) = krStep as P (kr as P ks) k := by
  unfold kr
  rw [List.foldl_append]
  rfl
theorem kr_take {as : List Arc} {P : Int} {ks : List Int} {i : Nat} {k : Int} (h : ks[i]? = some k) : kr as P (ks.take (i + 1)) = krStep as P (kr as P (ks.take i)) k := by
  rw [List.take_add_one, h]
  exact kr_app
theorem kr_sub {as : List Arc} {P : Int} : ∀ {ks : List Int} (n : Nat), ks.length = n → (kr as P ks).Sublist ks
  | ks, 0, h => by
    have : ks = [] := List.eq_nil_of_length_eq_zero h
    subst this
    exact List.Sublist.refl _
  | ks, n + 1, h => by
    have hne : ks ≠ [] := fun e => by rw [e] at h; simp at h
    have e := List.dropLast_concat_getLast hne
    rw [← e, kr_app]
    have ih := kr_sub (as := as) (P := P) (ks := ks.dropLast) n (by rw [List.length_dropLast]; omega)
    unfold krStep
    split
    · exact ih.trans (List.sublist_append_left _ _)
    · exact List.Sublist.append ih (List.Sublist.refl _)
/-! ### two maps that part alike -/
def Ker (P : Int) (r : Int → Int) (g : List Int) : Prop := ∀ u v, In P u → In P v → (r u = r v ↔ nth g u = nth g v)
theorem ker_first {P : Int} : Ker P (fun v => v) (rng0 P) := fun u v hu hv => by rw [rng0_at hu.1 hu.2, rng0_at hv.1 hv.2]
theorem ker_step {P : Int} {as : List Arc} {r : Int → Int} {g : List Int} {k : Int} (hl : g.length = P.toNat) (h : Ker P r g) (hs : In P (nth as k).s) (ht : In P (nth as k).t) :
    Ker P (fun v => if r v = r (nth as k).s then r (nth as k).t else r v) (grpStep as g k) := fun u v hu hv => by
  rw [grpStep_at hl hu, grpStep_at hl hv]
  have h1 := h u v hu hv
  have h2 := h u _ hu hs
  have h3 := h v _ hv hs
  have h4 := h u _ hu ht
  have h5 := h v _ hv ht
  have h6 := h _ _ hs ht
  dsimp only
  generalize r u = ru at *
  generalize r v = rv at *
  generalize r (nth as k).s = rs at *
  generalize r (nth as k).t = rt at *
  generalize nth g u = gu at *
  generalize nth g v = gv at *
  generalize nth g (nth as k).s = gs at *
  generalize nth g (nth as k).t = gt at *
  split <;> split <;> split <;> split <;> omega
/-! ### roots -/
structure UpOk (P : Int) (ab : List Int) (r : Int → Int) (d : Int → Nat) : Prop where
  len : ab.length = P.toNat
  pt : ∀ v, In P v → In P (nth ab v) ∧ ((nth ab v = v ∧ r v = v) ∨ (nth ab v ≠ v ∧ r (nth ab v) = r v ∧ d (nth ab v) < d v))
theorem up_first {P : Int} : UpOk P (rng0 P) (fun v => v) (fun _ => 0) := ⟨rng0_len, fun v hv => by
  rw [rng0_at hv.1 hv.2]
  exact ⟨hv, .inl ⟨rfl, rfl⟩⟩⟩
theorem up_root {P : Int} {ab : List Int} {r : Int → Int} {d : Int → Nat} (U : UpOk P ab r d) : ∀ (n : Nat) (v : Int), d v < n → In P v → In P (r v) ∧ r (r v) = r v ∧ nth ab (r v) = r v
  | 0, _, h, _ => absurd h (Nat.not_lt_zero _)
  | n + 1, v, h, hv => by
    obtain ⟨h1, h2 | h2⟩ := U.pt v hv
    · rw [h2.2]
      exact ⟨hv, h2.2, h2.1⟩
    · have := up_root U n _ (by omega) h1
      rw [h2.2.1] at this
      exact this
theorem up_join {P : Int} {ab : List Int} {r : Int → Int} {d : Int → Nat} (U : UpOk P ab r d) {s t : Int} (hs : In P s) (ht : In P t) (hne : r s ≠ r t) :
    ∃ d', UpOk P (ab.set (r s).toNat (r t)) (fun v => if r v = r s then r t else r v) d' := by
  obtain ⟨s1, s2, s3⟩ := up_root U _ s (Nat.lt_succ_self _) hs
  obtain ⟨t1, t2, t3⟩ := up_root U _ t (Nat.lt_succ_self _) ht
  refine ⟨fun v => if r v = r s then d v + d (r t) + 1 else d v, by rw [List.length_set]; exact U.len, fun v hv => ?_⟩
  have hl := U.len
  by_cases e : v = r s
  · have e1 : nth (ab.set (r s).toNat (r t)) v = r t := by
      rw [e]
      exact nth_set_eq s1.1 (by have := s1.1; have := s1.2; omega)
    rw [e1]
    refine ⟨t1, .inr ⟨fun z => hne (by rw [← e, ← z]), ?_, ?_⟩⟩
    · rw [t2, e, s2, if_pos rfl]
      split <;> rfl
    · rw [t2, if_neg (Ne.symm hne), e, s2, if_pos rfl]
      omega
  · have e1 : nth (ab.set (r s).toNat (r t)) v = nth ab v := nth_set_ne s1.1 hv.1 (Ne.symm e)
    rw [e1]
    obtain ⟨h1, h2 | h2⟩ := U.pt v hv
    · refine ⟨h1, .inl ⟨h2.1, ?_⟩⟩
      rw [h2.2, if_neg e]
    · refine ⟨h1, .inr ⟨h2.1, ?_, ?_⟩⟩
      · rw [h2.2.1]
      · rw [h2.2.1]
        split <;> omega
/-! ### in their order -/
def lexL (as : List Arc) (i j : Int) : Prop := (nth as i).c < (nth as j).c ∨ ((nth as i).c = (nth as j).c ∧ i ≤ j)
structure OrdOk (as : List Arc) (ks : List Int) : Prop where
  perm : ks.Perm (rng0 as.length)
  up : ks.Pairwise (lexL as)
theorem lex_anti {as : List Arc} {i j : Int} (h1 : lexL as i j) (h2 : lexL as j i) : i = j := by
  unfold lexL at h1 h2
  omega
theorem ord_rng {as : List Arc} {ks : List Int} (h : OrdOk as ks) : ∀ k ∈ ks, 0 ≤ k ∧ k < as.length := fun k hk => by
  have := h.perm.mem_iff.mp hk
  unfold rng0 at this
  obtain ⟨j, hj, rfl⟩ := List.mem_map.mp this
  have := List.mem_range.mp hj
  omega
theorem rng0_nodup {P : Int} : (rng0 P).Nodup := by
  unfold rng0
  rw [List.Nodup, List.pairwise_map]
  exact (List.pairwise_lt_range (n := P.toNat)).imp fun h => by omega
theorem ord_nodup {as : List Arc} {ks : List Int} (h : OrdOk as ks) : ks.Nodup := h.perm.nodup_iff.mpr rng0_nodup
/-- sorted, the forest -/
structure JoinOk (as : List Arc) (P : Int) (ks zs : List Int) : Prop where
  ord : OrdOk as ks
  perm : zs.Perm (kr as P ks)
  up : zs.Pairwise (· < ·)
theorem join_of {as : List Arc} {P : Int} {ks zs : List Int} (h : OrdOk as ks) (p : zs.Perm (kr as P ks)) (le : zs.Pairwise (· ≤ ·)) : JoinOk as P ks zs :=
  ⟨h, p, pairwise_lt le (p.nodup_iff.mpr ((kr_sub _ rfl).nodup (ord_nodup h)))⟩
theorem join_one {as : List Arc} {P : Int} {ks zs zs' : List Int} (h : JoinOk as P ks zs) (h' : JoinOk as P ks zs') : zs = zs' :=
  up_ext h.up h'.up fun j => by rw [h.perm.mem_iff, h'.perm.mem_iff]
theorem join_rng {as : List Arc} {P : Int} {ks zs : List Int} (h : JoinOk as P ks zs) : ∀ k ∈ zs, 0 ≤ k ∧ k < as.length := fun k hk =>
  ord_rng h.ord k ((kr_sub (as := as) (P := P) _ rfl).subset (h.perm.mem_iff.mp hk))
/-! ### what groups say -/
/-- an arc that was gone by has its ends in one group -/
theorem grp_end {as : List Arc} {P : Int} (ok : ∀ a ∈ as, ArcOk P a) : ∀ {ks : List Int} (n : Nat), ks.length = n → (∀ k ∈ ks, 0 ≤ k ∧ k < as.length) → ∀ k ∈ ks, nth (grp as P ks) (nth as k).s = nth (grp as P ks) (nth as k).t
  | ks, 0, h, _, k, hk => by
    have : ks = [] := List.eq_nil_of_length_eq_zero h
    subst this
    cases hk
  | ks, n + 1, h, hr, k, hk => by
    have hne : ks ≠ [] := fun e => by rw [e] at h; simp at h
    have e := List.dropLast_concat_getLast hne
    have hk2 : k ∈ ks.dropLast ++ [ks.getLast hne] := by rw [e]; exact hk
    have inn : ∀ j : Int, 0 ≤ j ∧ j < as.length → In P (nth as j).s ∧ In P (nth as j).t := fun j hj => by
      have a := ok _ (nth_mem hj.1 hj.2)
      exact ⟨⟨a.s0, a.s1⟩, a.t0, a.t1⟩
    have hl : (grp as P ks.dropLast).length = P.toNat := grp_len
    have ks' := hr _ (List.getLast_mem hne)
    rw [← e, grp_app, grpStep_at hl (inn k (hr k hk)).1, grpStep_at hl (inn k (hr k hk)).2]
    rcases List.mem_append.mp hk2 with h2 | h2
    · have ih := grp_end ok n (by rw [List.length_dropLast]; omega) (fun j hj => hr j ((List.dropLast_sublist _).subset hj)) k h2
      rw [ih]
    · rw [List.mem_singleton.mp h2]
      split
      · rw [if_pos rfl]
      · rw [if_pos rfl]
/-- what no arc joins stays apart -/
theorem grp_apart {as : List Arc} {P : Int} (ok : ∀ a ∈ as, ArcOk P a) {X : Int → Prop} : ∀ {ks : List Int} (n : Nat), ks.length = n → (∀ k ∈ ks, 0 ≤ k ∧ k < as.length) → (∀ k ∈ ks, (X (nth as k).s ↔ X (nth as k).t)) → ∀ u v, In P u → In P v → X u → ¬ X v → nth (grp as P ks) u ≠ nth (grp as P ks) v
  | ks, 0, h, _, _, u, v, hu, hv, xu, xv => by
    have : ks = [] := List.eq_nil_of_length_eq_zero h
    subst this
    show nth (rng0 P) u ≠ nth (rng0 P) v
    rw [rng0_at hu.1 hu.2, rng0_at hv.1 hv.2]
    exact fun e => xv (e ▸ xu)
  | ks, n + 1, h, hr, hX, u, v, hu, hv, xu, xv => by
    have hne : ks ≠ [] := fun e => by rw [e] at h; simp at h
    have e := List.dropLast_concat_getLast hne
    have hl : (grp as P ks.dropLast).length = P.toNat := grp_len
    have ks' := hr _ (List.getLast_mem hne)
    have a := ok _ (nth_mem ks'.1 ks'.2)
    have hx := hX _ (List.getLast_mem hne)
    have ih := fun u v => grp_apart ok (X := X) n (ks := ks.dropLast) (by rw [List.length_dropLast]; omega) (fun j hj => hr j ((List.dropLast_sublist _).subset hj)) (fun j hj => hX j ((List.dropLast_sublist _).subset hj)) u v
    rw [← e, grp_app, grpStep_at hl hu, grpStep_at hl hv]
    generalize ks.getLast hne = k at *
    have is : In P (nth as k).s := ⟨a.s0, a.s1⟩
    have it : In P (nth as k).t := ⟨a.t0, a.t1⟩
    have i1 := ih u v hu hv xu xv
    by_cases xs : X (nth as k).s
    · have xt := hx.mp xs
      have i2 := ih _ v is hv xs xv
      have i3 := ih _ v it hv xt xv
      rw [if_neg (show ¬ nth (grp as P ks.dropLast) v = nth (grp as P ks.dropLast) (nth as k).t from fun e => i3 e.symm)]
      split
      · exact i2
      · exact i1
    · have xt : ¬ X (nth as k).t := fun q => xs (hx.mpr q)
      have i2 := ih u _ hu is xu xs
      have i3 := ih u _ hu it xu xt
      rw [if_neg (show ¬ nth (grp as P ks.dropLast) u = nth (grp as P ks.dropLast) (nth as k).t from i3)]
      split
      · exact i2
      · exact i1
/-! ### rows of arcs, whichever way they point -/
def ugo (as : List Arc) (u k : Int) : Option Int := if u = (nth as k).s then some (nth as k).t else if u = (nth as k).t then some (nth as k).s else none
def ULead (as : List Arc) : Int → List Int → Int → Prop
  | u, [], v => u = v
  | u, k :: r, v => ∃ x, ugo as u k = some x ∧ ULead as x r v
theorem ulead_app {as : List Arc} : ∀ {w : List Int} {u v x k : Int}, ULead as u w v → ugo as v k = some x → ULead as u (w ++ [k]) x
  | [], u, v, x, k, h, g => by
    have e : u = v := h
    subst e
    exact ⟨x, g, rfl⟩
  | j :: r, u, v, x, k, ⟨y, h1, h2⟩, g => ⟨y, h1, ulead_app h2 g⟩
theorem ugo_ends {as : List Arc} {u k x : Int} (h : ugo as u k = some x) : (u = (nth as k).s ∧ x = (nth as k).t) ∨ (u = (nth as k).t ∧ x = (nth as k).s) := by
  unfold ugo at h
  split at h
  · rename_i e
    cases h
    exact .inl ⟨e, rfl⟩
  · split at h
    · rename_i e
      cases h
      exact .inr ⟨e, rfl⟩
    · cases h
/-- along a row whose arcs lie in one group each -/
theorem ulead_same {as : List Arc} {g : Int → Int} : ∀ {w : List Int} {u v : Int}, ULead as u w v → (∀ k ∈ w, g (nth as k).s = g (nth as k).t) → g u = g v
  | [], u, v, h, _ => by
    have e : u = v := h
    rw [e]
  | k :: r, u, v, ⟨x, h1, h2⟩, hg => by
    have := ulead_same h2 fun j hj => hg j (List.mem_cons_of_mem _ hj)
    have hk := hg k List.mem_cons_self
    rcases ugo_ends h1 with ⟨e1, e2⟩ | ⟨e1, e2⟩ <;> rw [e1, ← this, e2]
    · exact hk
    · exact hk.symm
/-- .. but for one of them -/
theorem ulead_but {as : List Arc} {g : Int → Int} {j : Int} : ∀ {w : List Int} {u v : Int}, ULead as u w v → w.Nodup → j ∈ w → (∀ k ∈ w, k ≠ j → g (nth as k).s = g (nth as k).t) → g u = g v → g (nth as j).s = g (nth as j).t
  | [], u, v, h, _, hj, _, _ => by cases hj
  | k :: r, u, v, ⟨x, h1, h2⟩, nd, hj, hg, he => by
    obtain ⟨n1, n2⟩ := List.nodup_cons.mp nd
    by_cases e : k = j
    · subst e
      have hx := ulead_same h2 fun i hi => hg i (List.mem_cons_of_mem _ hi) fun e => n1 (e ▸ hi)
      rcases ugo_ends h1 with ⟨e1, e2⟩ | ⟨e1, e2⟩
      · rw [← e1, ← e2, he, hx]
      · rw [← e1, ← e2, he, hx]
    · have hk := hg k List.mem_cons_self e
      have hj' : j ∈ r := by
        rcases List.mem_cons.mp hj with q | q
        · exact absurd q.symm e
        · exact q
      refine ulead_but h2 n2 hj' (fun i hi => hg i (List.mem_cons_of_mem _ hi)) ?_
      rcases ugo_ends h1 with ⟨e1, e2⟩ | ⟨e1, e2⟩
      · rw [e2, ← hk, ← e1]; exact he
      · rw [e2, hk, ← e1]; exact he
/-- what is told of two places -/
def BtwOk (as : List Arc) (fs : List Int) (u v : Int) : Option (List Int) → Prop
  | some w => ULead as u w v ∧ (∀ k ∈ w, k ∈ fs) ∧ w.Nodup
  | none => ∃ X : Int → Prop, X u ∧ ¬ X v ∧ ∀ k ∈ fs, (X (nth as k).s ↔ X (nth as k).t)
theorem btw_grp {as : List Arc} {P : Int} {fs : List Int} {u v : Int} {o : Option (List Int)} (ok : ∀ a ∈ as, ArcOk P a) (hf : ∀ k ∈ fs, 0 ≤ k ∧ k < as.length) (hu : In P u) (hv : In P v) (h : BtwOk as fs u v o) :
    (o = none ↔ nth (grp as P fs) u ≠ nth (grp as P fs) v) := by
  cases o with
  | none =>
    obtain ⟨X, h1, h2, h3⟩ := h
    exact ⟨fun _ => grp_apart ok _ rfl hf h3 u v hu hv h1 h2, fun _ => rfl⟩
  | some w =>
    obtain ⟨h1, h2, _⟩ := h
    refine ⟨fun e => (by cases e), fun e => absurd ?_ e⟩
    exact ulead_same h1 fun k hk => grp_end ok _ rfl hf k (h2 k hk)
/-- no arc of a row behind which k stands is dearer than k -/
theorem kr_row {as : List Arc} {P : Int} {ks w : List Int} {k : Int} (ok : ∀ a ∈ as, ArcOk P a) (h : OrdOk as ks) (hk : 0 ≤ k ∧ k < as.length) (hw : ∀ j ∈ w, j ∈ kr as P ks) (nd : w.Nodup) (hn : k ∉ w) (hl : ULead as (nth as k).s w (nth as k).t) :
    ∀ j ∈ w, (nth as j).c ≤ (nth as k).c := by
  -- the number of each arc in the order
  have hkk : k ∈ ks := h.perm.mem_iff.mpr (by
    unfold rng0
    exact List.mem_map.mpr ⟨k.toNat, List.mem_range.mpr (by omega), by omega⟩)
  obtain ⟨ik, hik⟩ := List.getElem?_of_mem hkk
  have hr := ord_rng h
  -- an arc gone by has its ends in one group from then on
  have gone : ∀ n, n ≤ ks.length → ∀ i ∈ ks.take n, nth (grp as P (kr as P (ks.take n))) (nth as i).s = nth (grp as P (kr as P (ks.take n))) (nth as i).t := fun n => by
    induction n with
    | zero => intro _ i hi; simp at hi
    | succ n ih =>
      intro hn i hi
      have hlt : n < ks.length := by omega
      have en : ks[n]? = some ks[n] := List.getElem?_eq_getElem hlt
      have ih' := ih (by omega)
      rw [kr_take en]
      have hrn := hr _ (List.mem_of_getElem? en)
      have hl' : (grp as P (kr as P (ks.take n))).length = P.toNat := grp_len
      have sub : ∀ i ∈ ks.take n, 0 ≤ i ∧ i < as.length := fun i hi => hr i (List.mem_of_mem_take hi)
      rw [List.take_add_one, en] at hi
      unfold krStep
      split
      · rename_i e
        rcases List.mem_append.mp hi with q | q
        · exact ih' i q
        · rw [Option.toList_some, List.mem_singleton] at q
          rw [q]
          exact e
      · rw [grp_app]
        have inn : ∀ j : Int, 0 ≤ j ∧ j < as.length → In P (nth as j).s ∧ In P (nth as j).t := fun j hj => by
          have a := ok _ (nth_mem hj.1 hj.2)
          exact ⟨⟨a.s0, a.s1⟩, a.t0, a.t1⟩
        rcases List.mem_append.mp hi with q | q
        · rw [grpStep_at hl' (inn i (sub i q)).1, grpStep_at hl' (inn i (sub i q)).2, ih' i q]
        · rw [Option.toList_some, List.mem_singleton] at q
          rw [q, grpStep_at hl' (inn _ hrn).1, grpStep_at hl' (inn _ hrn).2, if_pos rfl]
          split <;> rfl
  -- an arc that was taken had not its ends in one group
  have taken : ∀ n, n ≤ ks.length → ∀ j ∈ kr as P (ks.take n), ∃ i, i < n ∧ ks[i]? = some j ∧ nth (grp as P (kr as P (ks.take i))) (nth as j).s ≠ nth (grp as P (kr as P (ks.take i))) (nth as j).t := fun n => by
    induction n with
    | zero => intro _ j hj; simp [kr] at hj
    | succ n ih =>
      intro hn j hj
      have en : ks[n]? = some (ks[n]'(by omega)) := List.getElem?_eq_getElem (by omega)
      rw [kr_take en] at hj
      unfold krStep at hj
      split at hj
      · obtain ⟨i, h1, h2⟩ := ih (by omega) j hj
        exact ⟨i, by omega, h2⟩
      · rename_i e
        rcases List.mem_append.mp hj with q | q
        · obtain ⟨i, h1, h2⟩ := ih (by omega) j q
          exact ⟨i, by omega, h2⟩
        · rw [List.mem_singleton.mp q]
          exact ⟨n, by omega, en, e⟩
  have full : ks.take ks.length = ks := List.take_length
  have num : ∀ j ∈ w, ∃ i, i < ks.length ∧ ks[i]? = some j ∧ nth (grp as P (kr as P (ks.take i))) (nth as j).s ≠ nth (grp as P (kr as P (ks.take i))) (nth as j).t := fun j hj =>
    taken ks.length (Nat.le_refl _) j (by rw [full]; exact hw j hj)
  have nod := ord_nodup h
  -- all of the row come before k
  have before : ∀ j ∈ w, ∀ i, ks[i]? = some j → i < ik := by
    refine Classical.byContradiction fun hc => ?_
    -- the last one of the row in the order
    have ex : ∀ m, (∃ j ∈ w, ∃ i, ks[i]? = some j ∧ ik ≤ i ∧ i + m = ks.length) → ∃ j ∈ w, ∃ i, ks[i]? = some j ∧ ik ≤ i ∧ ∀ j' ∈ w, ∀ i', ks[i']? = some j' → i' ≤ i := fun m => by
      induction m using Nat.strongRecOn with
      | ind m ih =>
        rintro ⟨j, hj, i, hi, hik', hm⟩
        by_cases q : ∃ j' ∈ w, ∃ i', ks[i']? = some j' ∧ i < i'
        · obtain ⟨j', hj', i', hi', hlt⟩ := q
          have := (List.getElem?_eq_some_iff.mp hi').1
          exact ih (ks.length - i') (by omega) ⟨j', hj', i', hi', by omega, by omega⟩
        · refine ⟨j, hj, i, hi, hik', fun j' hj' i' hi' => ?_⟩
          rcases Nat.lt_or_ge i i' with z | z
          · exact absurd ⟨j', hj', i', hi', z⟩ q
          · exact z
    have start : ∃ j ∈ w, ∃ i, ks[i]? = some j ∧ ik ≤ i := by
      refine Classical.byContradiction fun hn => hc fun j hj i hi => ?_
      rcases Nat.lt_or_ge i ik with z | z
      · exact z
      · exact absurd ⟨j, hj, i, hi, z⟩ hn
    obtain ⟨j0, hj0, i0, hi0, hge⟩ := start
    have hl0 := (List.getElem?_eq_some_iff.mp hi0).1
    obtain ⟨j, hj, i, hi, hik', hmax⟩ := ex (ks.length - i0) ⟨j0, hj0, i0, hi0, hge, by omega⟩
    have hne : i ≠ ik := fun e => by
      rw [e, hik] at hi
      cases hi
      exact hn hj
    have hil := (List.getElem?_eq_some_iff.mp hi).1
    obtain ⟨i2, _, hi2, hno⟩ := num j hj
    have e2 : i2 = i := by
      have a1 := List.getElem?_eq_some_iff.mp hi
      have a2 := List.getElem?_eq_some_iff.mp hi2
      exact (List.getElem_inj nod).mp (by rw [a1.2, a2.2])
    subst e2
    refine hno (ulead_but (g := fun v => nth (grp as P (kr as P (ks.take i2))) v) hl nd hj (fun l hl' hlj => ?_) ?_)
    · obtain ⟨il, hil', hil2, _⟩ := num l hl'
      have := hmax l hl' il hil2
      have hne2 : il ≠ i2 := fun e => by
        rw [e, hi] at hil2
        cases hil2
        exact hlj rfl
      refine gone i2 (by omega) l ?_
      refine List.mem_of_getElem? (i := il) ?_
      rw [List.getElem?_take_of_lt (by omega)]
      exact hil2
    · refine gone i2 (by omega) k ?_
      refine List.mem_of_getElem? (i := ik) ?_
      rw [List.getElem?_take_of_lt (by omega)]
      exact hik
  intro j hj
  obtain ⟨i, hil, hi, _⟩ := num j hj
  have hlt := before j hj i hi
  have a1 := List.getElem?_eq_some_iff.mp hi
  have a2 := List.getElem?_eq_some_iff.mp hik
  have := List.pairwise_iff_getElem.mp h.up i ik a1.1 a2.1 hlt
  rw [a1.2, a2.2] at this
  unfold lexL at this
  omega
end SB
namespace SB
/-! ### how many are left out -/
theorem rg_not {n : Nat} {p : Nat → Bool} : (rg n p).length + (rg n fun k => !p k).length = n := by
  rw [rg_len, rg_len]
  have h1 := sumR_cnt (n := n) (p := p)
  have h2 := sumR_cnt (n := n) (p := fun k => !p k)
  have h3 : sumR n (fun k => if p k = true then 1 else 0) + sumR n (fun k => if (!p k) = true then 1 else 0) = n := by
    rw [← sumR_add, sumR_congr (g := fun _ => 1) fun k _ => by cases p k <;> simp]
    clear h1 h2
    induction n with
    | zero => rfl
    | succ n ih => show sumR n _ + 1 = _; rw [ih]; omega
  omega
theorem rg_left {n : Nat} {fs : List Int} (nd : fs.Nodup) (h : ∀ k ∈ fs, 0 ≤ k ∧ k < n) : ((rg n fun k : Nat => !decide ((k : Int) ∈ fs)).length : Int) = n - fs.length := by
  have h1 := rg_not (n := n) (p := fun k : Nat => decide ((k : Int) ∈ fs))
  have nd2 : (rg n fun k : Nat => decide ((k : Int) ∈ fs)).Nodup := (rg_up (n := n) (p := fun k : Nat => decide ((k : Int) ∈ fs))).imp fun h => Int.ne_of_lt h
  have mem : ∀ j, j ∈ (rg n fun k : Nat => decide ((k : Int) ∈ fs)) ↔ j ∈ fs := fun j => by
    rw [rg_mem]
    constructor
    · rintro ⟨h0, _, h2⟩
      rw [Int.toNat_of_nonneg h0] at h2
      exact of_decide_eq_true h2
    · intro hj
      have := h j hj
      exact ⟨this.1, this.2, by rw [Int.toNat_of_nonneg this.1]; exact decide_eq_true hj⟩
  have := (len_nodup nd2 mem).mpr nd
  omega
/-! ### the search between two places -/
structure BtwI (P : Int) (as : List Arc) (fs : List Int) (s : Int) (found : List (Int × List Int)) : Prop where
  root : look found s = some []
  way : ∀ v w, look found v = some w → ULead as s w v ∧ (∀ k ∈ w, k ∈ fs) ∧ w.Nodup ∧ ∀ k ∈ w, (look found (nth as k).s).isSome = true ∧ (look found (nth as k).t).isSome = true
  nodup : (found.map (·.1)).Nodup
  rng : ∀ c ∈ found.map (·.1), 0 ≤ c ∧ c < P
theorem btw_one {P s : Int} {as : List Arc} {fs : List Int} (h0 : 0 ≤ s) (h1 : s < P) : BtwI P as fs s [(s, [])] := by
  refine ⟨by rw [look_one, if_pos rfl], fun v w h => ?_, by simp, fun c hc => ?_⟩
  · rw [look_one] at h
    split at h
    · rename_i e
      cases h
      exact ⟨e, fun k hk => (by cases hk), List.nodup_nil, fun k hk => (by cases hk)⟩
    · cases h
  · simp only [List.map_cons, List.map_nil, List.mem_singleton] at hc
    subst hc
    exact ⟨h0, h1⟩
theorem lk_add {found : List (Int × List Int)} {c v : Int} {b : List Int} (h : (look found v).isSome = true) : (look (found ++ [(c, b)]) v).isSome = true := by
  obtain ⟨z, hz⟩ := Option.isSome_iff_exists.mp h
  rw [look_app_old hz]
  rfl
theorem btw_add {P s pl k other : Int} {as : List Arc} {fs : List Int} {found : List (Int × List Int)} {w : List Int} (B : BtwI P as fs s found) (hn : look found other = none) (hp : look found pl = some w) (hk : k ∈ fs) (hg : ugo as pl k = some other)
    (h0 : 0 ≤ other) (h1 : other < P) : BtwI P as fs s (found ++ [(other, w ++ [k])]) := by
  obtain ⟨w1, w2, w3, w4⟩ := B.way pl w hp
  have hps : (look found pl).isSome = true := by rw [hp]; rfl
  have ends : (look (found ++ [(other, w ++ [k])]) (nth as k).s).isSome = true ∧ (look (found ++ [(other, w ++ [k])]) (nth as k).t).isSome = true := by
    have ho : (look (found ++ [(other, w ++ [k])]) other).isSome = true := by rw [look_app_new hn]; rfl
    rcases ugo_ends hg with ⟨e1, e2⟩ | ⟨e1, e2⟩
    · rw [← e1, ← e2]
      exact ⟨lk_add hps, ho⟩
    · rw [← e1, ← e2]
      exact ⟨ho, lk_add hps⟩
  refine ⟨look_app_old B.root, fun v w' h => ?_, ?_, fun c hc => ?_⟩
  · by_cases e : other = v
    · subst e
      rw [look_app_new hn] at h
      cases h
      refine ⟨ulead_app w1 hg, fun j hj => ?_, ?_, fun j hj => ?_⟩
      · rcases List.mem_append.mp hj with h | h
        · exact w2 j h
        · rw [List.mem_singleton.mp h]; exact hk
      · refine List.nodup_append.mpr ⟨w3, by simp, fun a ha b hb => ?_⟩
        rw [List.mem_singleton.mp hb]
        intro e
        subst e
        have := w4 a ha
        rcases ugo_ends hg with ⟨_, e2⟩ | ⟨_, e2⟩
        · rw [← e2, hn] at this
          cases this.2
        · rw [← e2, hn] at this
          cases this.1
      · rcases List.mem_append.mp hj with h | h
        · exact ⟨lk_add (w4 j h).1, lk_add (w4 j h).2⟩
        · rw [List.mem_singleton.mp h]; exact ends
    · rw [look_app_ne e] at h
      obtain ⟨a1, a2, a3, a4⟩ := B.way v w' h
      exact ⟨a1, a2, a3, fun j hj => ⟨lk_add (a4 j hj).1, lk_add (a4 j hj).2⟩⟩
  · rw [List.map_append]
    refine List.nodup_append.mpr ⟨B.nodup, by simp, fun a ha b hb => ?_⟩
    simp only [List.map_cons, List.map_nil, List.mem_singleton] at hb
    subst hb
    exact fun e => look_none.mp hn (e ▸ ha)
  · rw [List.map_append, List.mem_append] at hc
    rcases hc with hc | hc
    · exact B.rng c hc
    · simp only [List.map_cons, List.map_nil, List.mem_singleton] at hc
      subst hc
      exact ⟨h0, h1⟩
def BNext (as : List Arc) (found : List (Int × List Int)) (v k : Int) : Prop := ((nth as k).s = v → (look found (nth as k).t).isSome = true) ∧ ((nth as k).t = v → (look found (nth as k).s).isSome = true)
def BClosed (as : List Arc) (fs : List Int) (found : List (Int × List Int)) (left : List Int) : Prop := ∀ v, (look found v).isSome = true → v ∉ left → ∀ k ∈ fs, BNext as found v k
theorem bnext_add {as : List Arc} {found : List (Int × List Int)} {v k c : Int} {b : List Int} (h : BNext as found v k) : BNext as (found ++ [(c, b)]) v k := ⟨fun e => lk_add (h.1 e), fun e => lk_add (h.2 e)⟩
theorem bclosed_add {as : List Arc} {fs : List Int} {found : List (Int × List Int)} {left : List Int} {c : Int} {b : List Int} (C : BClosed as fs found left) : BClosed as fs (found ++ [(c, b)]) (left ++ [c]) := by
  intro v hp hl k hk
  have hl' : v ∉ left := fun h => hl (List.mem_append.mpr (.inl h))
  have hc : c ≠ v := fun e => hl (List.mem_append.mpr (.inr (by rw [e]; exact List.mem_singleton.mpr rfl)))
  rw [look_app_ne hc] at hp
  exact bnext_add (C v hp hl' k hk)
theorem bclosed_one {as : List Arc} {fs : List Int} {s : Int} : BClosed as fs [(s, [])] [s] := by
  intro v hp hl
  rw [look_one] at hp
  split at hp
  · rename_i e
    exact absurd (List.mem_singleton.mpr e.symm) hl
  · cases hp
theorem btw_len {P s : Int} {as : List Arc} {fs : List Int} {found : List (Int × List Int)} (B : BtwI P as fs s found) : found.length ≤ P.toNat := by
  have := nodup_len B.nodup B.rng
  rw [List.length_map] at this
  exact this
theorem btw_of {P s g : Int} {as : List Arc} {fs : List Int} {found : List (Int × List Int)} (B : BtwI P as fs s found) (C : BClosed as fs found []) : BtwOk as fs s g (look found g) := by
  cases e : look found g with
  | some w =>
    obtain ⟨h1, h2, h3, _⟩ := B.way g w e
    exact ⟨h1, h2, h3⟩
  | none =>
    refine ⟨fun v => (look found v).isSome = true, by show (look found s).isSome = true; rw [B.root]; rfl, by show ¬ (look found g).isSome = true; rw [e]; exact Bool.false_ne_true, fun k hk => ⟨fun h => ?_, fun h => ?_⟩⟩
    · exact (C _ h (by simp) k hk).1 rfl
    · exact (C _ h (by simp) k hk).2 rfl
/-- the first cheapest one -/
theorem ord_head {as : List Arc} {ks L : List Int} {i : Nat} {b : Int} (h : OrdOk as ks) (hp : L.Perm (ks.drop i)) (hb : b ∈ L) (hmin : ∀ k ∈ L, lexL as b k) : ks[i]? = some b := by
  have hm := hp.mem_iff.mp hb
  obtain ⟨j, hj⟩ := List.getElem?_of_mem hm
  rw [List.getElem?_drop] at hj
  have hjl := (List.getElem?_eq_some_iff.mp hj).1
  have hi : ks[i]? = some (ks[i]'(by omega)) := List.getElem?_eq_getElem (by omega)
  have hiL : ks[i]'(by omega) ∈ L := hp.mem_iff.mpr (List.mem_of_getElem? (i := 0) (by rw [List.getElem?_drop]; exact hi))
  have h1 := hmin _ hiL
  by_cases e : j = 0
  · subst e
    exact hj
  · have h2 := List.pairwise_iff_getElem.mp h.up i (i + j) (by omega) hjl (by omega)
    rw [(List.getElem?_eq_some_iff.mp hj).2] at h2
    rw [hi, lex_anti h2 h1]
end SB
/-! what is refused, plain -/
namespace SB
def bndsOf (as : List Arc) : List Bnd := as.map fun a => ⟨a.s, a.t, a.c⟩
def prsOf (as : List Arc) : List (Int × Int) := as.map fun a => (a.s, a.t)
def Good5 (w n : Int) (as : List Arc) (s g : Int) : Prop :=
  if w = 0 then GoodG n as s g else if w = 1 then GoodN n as s else if w = 2 then LookOk n as else if w = 3 then GoodD n (bndsOf as) else GoodPI n g (prsOf as)
/-- an arc as the law makes it -/
structure BaseA (w n g : Int) (a : Arc) : Prop where
  s0 : 0 ≤ a.s
  s1 : a.s < max 1 n
  t0 : 0 ≤ a.t
  t1 : a.t < if w = 4 then max 1 g else max 1 n
  r0 : 0 ≤ a.r
/-- one that leads nowhere -/
def BadA (w n g : Int) (a : Arc) : Prop := ¬ (0 ≤ a.s ∧ a.s < n) ∨ ¬ (0 ≤ a.t ∧ a.t < if w = 4 then g else n)
theorem bad_not {w n s g : Int} {as : List Arc} (hw0 : 0 ≤ w) (hw : w < 5) {a : Arc} (ha : a ∈ as) (hb : BadA w n g a) : ¬ Good5 w n as s g := by
  intro G
  unfold Good5 at G
  unfold BadA at hb
  have arc : ∀ P : Int, P = n → w ≠ 4 → ArcOk P a → False := fun P e h4 o => by
    subst e
    rw [if_neg h4] at hb
    have := o.s0
    have := o.s1
    have := o.t0
    have := o.t1
    omega
  by_cases e0 : w = 0
  · rw [if_pos e0] at G
    exact arc n rfl (by omega) (G.look.arcs a ha)
  rw [if_neg e0] at G
  by_cases e1 : w = 1
  · rw [if_pos e1] at G
    exact arc n rfl (by omega) (G.look.arcs a ha)
  rw [if_neg e1] at G
  by_cases e2 : w = 2
  · rw [if_pos e2] at G
    exact arc n rfl (by omega) (G.arcs a ha)
  rw [if_neg e2] at G
  by_cases e3 : w = 3
  · rw [if_pos e3] at G
    have := bnd_rng G (b := ⟨a.s, a.t, a.c⟩) (List.mem_map.mpr ⟨a, ha, rfl⟩)
    dsimp only at this
    rw [if_neg (by omega)] at hb
    omega
  · rw [if_neg e3] at G
    have := G.rng (a.s, a.t) (List.mem_map.mpr ⟨a, ha, rfl⟩)
    dsimp only at this
    rw [if_pos (by omega)] at hb
    omega
theorem neg_not {n s g : Int} {as : List Arc} {a : Arc} (ha : a ∈ as) (hb : a.r < 0) : ¬ Good5 0 n as s g := by
  intro G
  unfold Good5 at G
  rw [if_pos rfl] at G
  have := G.pos a ha
  omega
def good5 (w n m s g : Int) : Prop :=
  (w < 3 → 1 ≤ n ∧ n ≤ 12 ∧ m ≤ 40) ∧ (w < 2 → 0 ≤ s ∧ s < n) ∧ (w = 0 → 0 ≤ g ∧ g < n ∧ s ≠ g) ∧ (w = 3 → n ≤ 11 ∧ m ≤ 29 ∧ (0 < n ∨ m = 0)) ∧ (w = 4 → n ≤ 5 ∧ 0 ≤ g ∧ g ≤ 5 ∧ m ≤ 30 ∧ ((0 < n ∧ 0 < g) ∨ m = 0))
theorem good_iff {w n s g : Int} {as : List Arc} (hw0 : 0 ≤ w) (hw : w < 5) (hn : 0 ≤ n) (hB : ∀ a ∈ as, BaseA w n g a) : Good5 w n as s g ↔ good5 w n as.length s g := by
  have lk : w ≠ 4 → (LookOk n as ↔ 1 ≤ n ∧ n ≤ 12 ∧ (as.length : Int) ≤ 40) := fun h4 => by
    constructor
    · intro L
      have := L.lo
      have := L.hi
      have := L.few
      omega
    · rintro ⟨h1, h2, h3⟩
      refine ⟨h1, h2, by omega, fun a ha => ?_⟩
      have b := hB a ha
      have t1 := b.t1
      rw [if_neg h4] at t1
      exact ⟨b.s0, by have := b.s1; omega, b.t0, by omega⟩
  unfold Good5 good5
  by_cases e0 : w = 0
  · rw [if_pos e0]
    have l := lk (by omega)
    constructor
    · intro G
      have := l.mp G.look
      have := G.ne
      have := G.s0
      have := G.s1
      have := G.g0
      have := G.g1
      omega
    · intro h
      exact ⟨l.mpr (by omega), by omega, by omega, by omega, by omega, by omega, fun a ha => (hB a ha).r0⟩
  rw [if_neg e0]
  by_cases e1 : w = 1
  · rw [if_pos e1]
    have l := lk (by omega)
    constructor
    · intro G
      have := l.mp G.look
      have := G.s0
      have := G.s1
      omega
    · intro h
      exact ⟨l.mpr (by omega), by omega, by omega⟩
  rw [if_neg e1]
  by_cases e2 : w = 2
  · rw [if_pos e2]
    have l := lk (by omega)
    constructor
    · intro G
      have := l.mp G
      omega
    · intro h
      exact l.mpr (by omega)
  rw [if_neg e2]
  by_cases e3 : w = 3
  · rw [if_pos e3]
    have hl : (bndsOf as).length = as.length := List.length_map _
    constructor
    · intro G
      have h1 := G.few
      have h2 := G.look.hi
      rw [hl] at h1
      refine ⟨by omega, by omega, by omega, fun _ => ⟨by omega, by omega, ?_⟩, by omega⟩
      by_cases hn0 : 0 < n
      · exact .inl hn0
      · refine .inr ?_
        cases as with
        | nil => rfl
        | cons a r =>
          have := bnd_rng G (b := ⟨a.s, a.t, a.c⟩) (List.mem_map.mpr ⟨a, List.mem_cons_self, rfl⟩)
          dsimp only at this
          omega
    · intro h
      obtain ⟨h1, h2, h3⟩ := h.2.2.2.1 e3
      have rng : ∀ b ∈ bndsOf as, 0 ≤ b.a ∧ b.a < n ∧ 0 ≤ b.b ∧ b.b < n := fun b hb => by
        obtain ⟨a, ha, rfl⟩ := List.mem_map.mp hb
        have b := hB a ha
        have t1 := b.t1
        rw [if_neg (by omega)] at t1
        have hpos : 0 < n := by
          rcases h3 with h3 | h3
          · exact h3
          · have := List.length_pos_of_mem ha
            omega
        have := b.s0
        have := b.s1
        have := b.t0
        dsimp only
        omega
      refine ⟨hn, by rw [hl]; omega, ⟨by omega, by omega, by rw [dArcs_len, hl]; omega, fun a ha => ?_⟩, fun b hb => ?_⟩
      · unfold dArcs at ha
        rcases List.mem_append.mp ha with h | h
        · obtain ⟨b, hb, rfl⟩ := List.mem_map.mp h
          have := rng b hb
          exact ⟨by dsimp only; omega, by dsimp only; omega, by dsimp only; omega, by dsimp only; omega⟩
        · obtain ⟨z, hz, rfl⟩ := List.mem_map.mp h
          have := List.mem_range.mp hz
          exact ⟨by dsimp only; omega, by dsimp only; omega, by dsimp only; omega, by dsimp only; omega⟩
      · have := rng b hb
        omega
  · rw [if_neg e3]
    have e4 : w = 4 := by omega
    have hl : (prsOf as).length = as.length := List.length_map _
    constructor
    · intro G
      have h1 := G.few
      rw [hl] at h1
      have := G.r1
      have := G.c0
      have := G.c1
      refine ⟨by omega, by omega, by omega, by omega, fun _ => ⟨by omega, by omega, by omega, by omega, ?_⟩⟩
      cases as with
      | nil => exact .inr rfl
      | cons a r =>
        have := G.rng (a.s, a.t) (List.mem_map.mpr ⟨a, List.mem_cons_self, rfl⟩)
        dsimp only at this
        exact .inl ⟨by omega, by omega⟩
    · intro h
      obtain ⟨h1, h2, h3, h4, h5⟩ := h.2.2.2.2 e4
      refine ⟨hn, h1, h2, h3, by rw [hl]; omega, fun p hp => ?_⟩
      obtain ⟨a, ha, rfl⟩ := List.mem_map.mp hp
      have b := hB a ha
      have t1 := b.t1
      rw [if_pos e4] at t1
      have hlen := List.length_pos_of_mem ha
      have := b.s0
      have := b.s1
      have := b.t0
      dsimp only
      rcases h5 with h5 | h5
      · omega
      · omega
end SB
namespace SB
open PySem PySem.Spec PyProof.Rows L2
abbrev veT : List Value := [.type "ValueError", .type "Exception", .type "BaseException", .type "object"]
/-! ### the text by places -/
def top (i : Nat) : Stmt := PySem.Challenge.pw_surebest_k11_no_networks.main.body.getD i (.Pass ⟨0, 0, 0, 0⟩)
abbrev s_look : Stmt := top 9
abbrev s_steps_from : Stmt := top 11
abbrev s_reached : Stmt := top 12
abbrev s_way_back : Stmt := top 13
abbrev s_greatest : Stmt := top 14
abbrev s_nearest : Stmt := top 17
abbrev s_as_arcs_differences : Stmt := top 20
abbrev s_numbers_for : Stmt := top 22
abbrev s_as_arcs_pairing : Stmt := top 26
abbrev s_paired : Stmt := top 28
abbrev s_root_of : Stmt := top 30
abbrev s_joined : Stmt := top 31
abbrev s_law_cell : Stmt := top 33
abbrev s_law_mix : Stmt := top 34
abbrev s_law_kind : Stmt := top 37
abbrev s_law_asked : Stmt := top 38
abbrev s_law : Stmt := top 39
abbrev s_Ways_init : Stmt := inClass (top 16) 0
abbrev s_Ways_shorten : Stmt := inClass (top 16) 1
abbrev s_Ways_ring : Stmt := inClass (top 16) 2
theorem sc_look : FnScope ["places", "arcs", "arc"] ["places", "arcs"] (defScope s_look) := ⟨rfl, rfl, rfl, by decide +kernel, rfl, by decide +kernel, by decide +kernel⟩
theorem sc_steps_from : FnScope ["arcs", "amounts", "place", "found", "k", "arc"] ["arcs", "amounts", "place"] (defScope s_steps_from) := ⟨rfl, rfl, rfl, by decide +kernel, rfl, by decide +kernel, by decide +kernel⟩
theorem sc_reached : FnScope ["arcs", "amounts", "start", "found", "left", "place", "step"] ["arcs", "amounts", "start"] (defScope s_reached) := ⟨rfl, rfl, rfl, by decide +kernel, rfl, by decide +kernel, by decide +kernel⟩
theorem sc_way_back : FnScope ["found", "goal", "steps", "place"] ["found", "goal"] (defScope s_way_back) := ⟨rfl, rfl, rfl, by decide +kernel, rfl, by decide +kernel, by decide +kernel⟩
theorem sc_greatest : FnScope ["places", "arcs", "start", "goal", "amounts", "found", "steps", "much", "step", "arc"] ["places", "arcs", "start", "goal"] (defScope s_greatest) := ⟨rfl, rfl, rfl, by decide +kernel, rfl, by decide +kernel, by decide +kernel⟩
theorem sc_nearest : FnScope ["places", "arcs", "start", "ways", "place", "k"] ["places", "arcs", "start"] (defScope s_nearest) := ⟨rfl, rfl, rfl, by decide +kernel, rfl, by decide +kernel, by decide +kernel⟩
theorem sc_as_arcs_differences : FnScope ["many", "bounds", "arcs", "bound", "k"] ["many", "bounds"] (defScope s_as_arcs_differences) := ⟨rfl, rfl, rfl, by decide +kernel, rfl, by decide +kernel, by decide +kernel⟩
theorem sc_numbers_for : FnScope ["many", "bounds", "found", "bound"] ["many", "bounds"] (defScope s_numbers_for) := ⟨rfl, rfl, rfl, by decide +kernel, rfl, by decide +kernel, by decide +kernel⟩
theorem sc_as_arcs_pairing : FnScope ["rows", "columns", "pairs", "arcs", "one", "other", "k"] ["rows", "columns", "pairs"] (defScope s_as_arcs_pairing) := ⟨rfl, rfl, rfl, by decide +kernel, rfl, by decide +kernel, by decide +kernel⟩
theorem sc_paired : FnScope ["rows", "columns", "pairs", "arcs", "found", "taken", "side", "cover", "one", "other", "k"] ["rows", "columns", "pairs"] (defScope s_paired) := ⟨rfl, rfl, rfl, by decide +kernel, rfl, by decide +kernel, by decide +kernel⟩
theorem sc_root_of : FnScope ["above", "place"] ["above", "place"] (defScope s_root_of) := ⟨rfl, rfl, rfl, by decide +kernel, rfl, by decide +kernel, by decide +kernel⟩
theorem sc_joined : FnScope ["places", "arcs", "above", "found", "pair", "k", "one", "other"] ["places", "arcs"] (defScope s_joined) := ⟨rfl, rfl, rfl, by decide +kernel, rfl, by decide +kernel, by decide +kernel⟩
theorem sc_law_cell : FnScope ["_law_script", "_law_k"] ["_law_script", "_law_k"] (defScope s_law_cell) := ⟨rfl, rfl, rfl, by decide +kernel, rfl, by decide +kernel, by decide +kernel⟩
theorem sc_law_mix : FnScope ["_law_script", "_law_k", "_law_number"] ["_law_script", "_law_k"] (defScope s_law_mix) := ⟨rfl, rfl, rfl, by decide +kernel, rfl, by decide +kernel, by decide +kernel⟩
theorem sc_law_kind : FnScope ["_law_e"] ["_law_e"] (defScope s_law_kind) := ⟨rfl, rfl, rfl, by decide +kernel, rfl, by decide +kernel, by decide +kernel⟩
theorem sc_law_asked : FnScope ["_law_way", "_law_many", "_law_arcs", "_law_start", "_law_goal", "_law_kept_here", "_law_e", "_law_arc"] ["_law_way", "_law_many", "_law_arcs", "_law_start", "_law_goal"] (defScope s_law_asked) := ⟨rfl, rfl, rfl, by decide +kernel, rfl, by decide +kernel, by decide +kernel⟩
theorem sc_law : FnScope ["_law_script", "_law_way", "_law_many", "_law_size", "_law_goal", "_law_start", "_law_arcs", "_law_k", "_law_number", "_law_bad", "_law_at", "_law_out", "_law_negative", "_law_good"] ["_law_script"] (defScope s_law) := ⟨rfl, rfl, rfl, by decide +kernel, rfl, by decide +kernel, by decide +kernel⟩
theorem sc_Ways_init : FnScope ["self", "places", "arcs", "start"] ["self", "places", "arcs", "start"] (defScope s_Ways_init) := ⟨rfl, rfl, rfl, by decide +kernel, rfl, by decide +kernel, by decide +kernel⟩
theorem sc_Ways_shorten : FnScope ["self", "found", "k", "arc", "begin", "end"] ["self"] (defScope s_Ways_shorten) := ⟨rfl, rfl, rfl, by decide +kernel, rfl, by decide +kernel, by decide +kernel⟩
theorem sc_Ways_ring : FnScope ["self", "place", "k", "found", "at"] ["self", "place"] (defScope s_Ways_ring) := ⟨rfl, rfl, rfl, by decide +kernel, rfl, by decide +kernel, by decide +kernel⟩
/-! ### where all stands, and what the top has left -/
structure Ad where
  (a_look a_steps_from a_reached a_way_back a_greatest a_nearest a_as_arcs_differences a_numbers_for a_as_arcs_pairing a_paired a_root_of a_joined a_law_cell a_law_mix a_law_kind a_law_asked a_law a_Ways_init a_Ways_shorten a_Ways_ring c_Ways c_BestError c_NoNetwork c_NoTable c_NoRatio c_NoWay : Addr)
  (f_look f_steps_from f_reached f_way_back f_greatest f_nearest f_as_arcs_differences f_numbers_for f_as_arcs_pairing f_paired f_root_of f_joined f_law_cell f_law_mix f_law_kind f_law_asked f_law f_Ways_init f_Ways_shorten f_Ways_ring : FuncData)
  (t_MOST_PLACES t_MOST_ARCS t_MOST_BOUNDS t_MOST_ROWS t_MOST_PAIRS : Tok)
structure Txt (K : PySem.W.Frag) (mg : Str → Option Value) (d : Ad) : Prop where
  F_look : Fun K "look" "look" s_look d.a_look d.f_look
  p_look : Binds K d.f_look ["places", "arcs"] []
  g_look : mg "look" = some (.ref d.a_look)
  k_look : PySem.W.keepIn K (.ref d.a_look) = true
  F_steps_from : Fun K "steps_from" "steps_from" s_steps_from d.a_steps_from d.f_steps_from
  p_steps_from : Binds K d.f_steps_from ["arcs", "amounts", "place"] []
  g_steps_from : mg "steps_from" = some (.ref d.a_steps_from)
  k_steps_from : PySem.W.keepIn K (.ref d.a_steps_from) = true
  F_reached : Fun K "reached" "reached" s_reached d.a_reached d.f_reached
  p_reached : Binds K d.f_reached ["arcs", "amounts", "start"] []
  g_reached : mg "reached" = some (.ref d.a_reached)
  k_reached : PySem.W.keepIn K (.ref d.a_reached) = true
  F_way_back : Fun K "way_back" "way_back" s_way_back d.a_way_back d.f_way_back
  p_way_back : Binds K d.f_way_back ["found", "goal"] []
  g_way_back : mg "way_back" = some (.ref d.a_way_back)
  k_way_back : PySem.W.keepIn K (.ref d.a_way_back) = true
  F_greatest : Fun K "greatest" "greatest" s_greatest d.a_greatest d.f_greatest
  p_greatest : Binds K d.f_greatest ["places", "arcs", "start", "goal"] []
  g_greatest : mg "greatest" = some (.ref d.a_greatest)
  k_greatest : PySem.W.keepIn K (.ref d.a_greatest) = true
  F_nearest : Fun K "nearest" "nearest" s_nearest d.a_nearest d.f_nearest
  p_nearest : Binds K d.f_nearest ["places", "arcs", "start"] []
  g_nearest : mg "nearest" = some (.ref d.a_nearest)
  k_nearest : PySem.W.keepIn K (.ref d.a_nearest) = true
  F_as_arcs_differences : Fun K "as_arcs" "as_arcs" s_as_arcs_differences d.a_as_arcs_differences d.f_as_arcs_differences
  p_as_arcs_differences : Binds K d.f_as_arcs_differences ["many", "bounds"] []
  g_as_arcs_differences : mg "as_arcs_differences" = some (.ref d.a_as_arcs_differences)
  k_as_arcs_differences : PySem.W.keepIn K (.ref d.a_as_arcs_differences) = true
  F_numbers_for : Fun K "numbers_for" "numbers_for" s_numbers_for d.a_numbers_for d.f_numbers_for
  p_numbers_for : Binds K d.f_numbers_for ["many", "bounds"] []
  g_numbers_for : mg "numbers_for" = some (.ref d.a_numbers_for)
  k_numbers_for : PySem.W.keepIn K (.ref d.a_numbers_for) = true
  F_as_arcs_pairing : Fun K "as_arcs" "as_arcs" s_as_arcs_pairing d.a_as_arcs_pairing d.f_as_arcs_pairing
  p_as_arcs_pairing : Binds K d.f_as_arcs_pairing ["rows", "columns", "pairs"] []
  g_as_arcs_pairing : mg "as_arcs_pairing" = some (.ref d.a_as_arcs_pairing)
  k_as_arcs_pairing : PySem.W.keepIn K (.ref d.a_as_arcs_pairing) = true
  F_paired : Fun K "paired" "paired" s_paired d.a_paired d.f_paired
  p_paired : Binds K d.f_paired ["rows", "columns", "pairs"] []
  g_paired : mg "paired" = some (.ref d.a_paired)
  k_paired : PySem.W.keepIn K (.ref d.a_paired) = true
  F_root_of : Fun K "root_of" "root_of" s_root_of d.a_root_of d.f_root_of
  p_root_of : Binds K d.f_root_of ["above", "place"] []
  g_root_of : mg "root_of" = some (.ref d.a_root_of)
  k_root_of : PySem.W.keepIn K (.ref d.a_root_of) = true
  F_joined : Fun K "joined" "joined" s_joined d.a_joined d.f_joined
  p_joined : Binds K d.f_joined ["places", "arcs"] []
  g_joined : mg "joined" = some (.ref d.a_joined)
  k_joined : PySem.W.keepIn K (.ref d.a_joined) = true
  F_law_cell : Fun K "_law_cell" "_law_cell" s_law_cell d.a_law_cell d.f_law_cell
  p_law_cell : Binds K d.f_law_cell ["_law_script", "_law_k"] []
  g_law_cell : mg "_law_cell" = some (.ref d.a_law_cell)
  k_law_cell : PySem.W.keepIn K (.ref d.a_law_cell) = true
  F_law_mix : Fun K "_law_mix" "_law_mix" s_law_mix d.a_law_mix d.f_law_mix
  p_law_mix : Binds K d.f_law_mix ["_law_script", "_law_k"] []
  g_law_mix : mg "_law_mix" = some (.ref d.a_law_mix)
  k_law_mix : PySem.W.keepIn K (.ref d.a_law_mix) = true
  F_law_kind : Fun K "_law_kind" "_law_kind" s_law_kind d.a_law_kind d.f_law_kind
  p_law_kind : Binds K d.f_law_kind ["_law_e"] []
  g_law_kind : mg "_law_kind" = some (.ref d.a_law_kind)
  k_law_kind : PySem.W.keepIn K (.ref d.a_law_kind) = true
  F_law_asked : Fun K "_law_asked" "_law_asked" s_law_asked d.a_law_asked d.f_law_asked
  p_law_asked : Binds K d.f_law_asked ["_law_way", "_law_many", "_law_arcs", "_law_start", "_law_goal"] []
  g_law_asked : mg "_law_asked" = some (.ref d.a_law_asked)
  k_law_asked : PySem.W.keepIn K (.ref d.a_law_asked) = true
  F_law : Fun K "law" "law" s_law d.a_law d.f_law
  p_law : Binds K d.f_law ["_law_script"] []
  g_law : mg "law" = some (.ref d.a_law)
  k_law : PySem.W.keepIn K (.ref d.a_law) = true
  F_Ways_init : Fun K "__init__" "Ways.__init__" s_Ways_init d.a_Ways_init d.f_Ways_init
  p_Ways_init : Binds K d.f_Ways_init ["self", "places", "arcs", "start"] []
  F_Ways_shorten : Fun K "shorten" "Ways.shorten" s_Ways_shorten d.a_Ways_shorten d.f_Ways_shorten
  p_Ways_shorten : Binds K d.f_Ways_shorten ["self"] []
  h_Ways_shorten : Meth K d.c_Ways "shorten" d.a_Ways_shorten
  F_Ways_ring : Fun K "ring" "Ways.ring" s_Ways_ring d.a_Ways_ring d.f_Ways_ring
  p_Ways_ring : Binds K d.f_Ways_ring ["self", "place"] []
  h_Ways_ring : Meth K d.c_Ways "ring" d.a_Ways_ring
  g_Ways : mg "Ways" = some (.ref d.c_Ways)
  c_Ways : Cls K d.c_Ways
  m_Ways : Mk K d.c_Ways d.a_Ways_init
  n_Ways_arcs : NoAttr K d.c_Ways "arcs"
  n_Ways_lengths : NoAttr K d.c_Ways "lengths"
  n_Ways_last : NoAttr K d.c_Ways "last"
  g_BestError : mg "BestError" = some (.ref d.c_BestError)
  k_BestError : PySem.W.keepIn K (.ref d.c_BestError) = true
  x_BestError : PySem.W.excIn K d.c_BestError veT "ValueError.__new__" = true
  s_BestError : PySem.W.subIn K (.ref d.c_BestError) (.type "BaseException") = some true
  t_BestError : PySem.W.typeIn K (.ref d.c_BestError) = some (.type "type")
  i_BestError : PySem.W.isClsIn K d.c_BestError = true
  g_NoNetwork : mg "NoNetwork" = some (.ref d.c_NoNetwork)
  k_NoNetwork : PySem.W.keepIn K (.ref d.c_NoNetwork) = true
  x_NoNetwork : PySem.W.excIn K d.c_NoNetwork veT "ValueError.__new__" = true
  s_NoNetwork : PySem.W.subIn K (.ref d.c_NoNetwork) (.type "BaseException") = some true
  t_NoNetwork : PySem.W.typeIn K (.ref d.c_NoNetwork) = some (.type "type")
  i_NoNetwork : PySem.W.isClsIn K d.c_NoNetwork = true
  g_NoTable : mg "NoTable" = some (.ref d.c_NoTable)
  k_NoTable : PySem.W.keepIn K (.ref d.c_NoTable) = true
  x_NoTable : PySem.W.excIn K d.c_NoTable veT "ValueError.__new__" = true
  s_NoTable : PySem.W.subIn K (.ref d.c_NoTable) (.type "BaseException") = some true
  t_NoTable : PySem.W.typeIn K (.ref d.c_NoTable) = some (.type "type")
  i_NoTable : PySem.W.isClsIn K d.c_NoTable = true
  g_NoRatio : mg "NoRatio" = some (.ref d.c_NoRatio)
  k_NoRatio : PySem.W.keepIn K (.ref d.c_NoRatio) = true
  x_NoRatio : PySem.W.excIn K d.c_NoRatio veT "ValueError.__new__" = true
  s_NoRatio : PySem.W.subIn K (.ref d.c_NoRatio) (.type "BaseException") = some true
  t_NoRatio : PySem.W.typeIn K (.ref d.c_NoRatio) = some (.type "type")
  i_NoRatio : PySem.W.isClsIn K d.c_NoRatio = true
  g_NoWay : mg "NoWay" = some (.ref d.c_NoWay)
  k_NoWay : PySem.W.keepIn K (.ref d.c_NoWay) = true
  x_NoWay : PySem.W.excIn K d.c_NoWay veT "ValueError.__new__" = true
  s_NoWay : PySem.W.subIn K (.ref d.c_NoWay) (.type "BaseException") = some true
  t_NoWay : PySem.W.typeIn K (.ref d.c_NoWay) = some (.type "type")
  i_NoWay : PySem.W.isClsIn K d.c_NoWay = true
  e_NoNetwork_BestError : PySem.W.exmOne K (.ref d.c_NoNetwork) (.ref d.c_BestError) = some true
  y_NoNetwork : ExcC K d.c_NoNetwork
  q_NoNetwork_NoRatio : PySem.W.kitOne K (.ref d.c_NoNetwork) (.ref d.c_NoRatio) = some false
  q_NoNetwork_NoTable : PySem.W.kitOne K (.ref d.c_NoNetwork) (.ref d.c_NoTable) = some false
  q_NoNetwork_NoWay : PySem.W.kitOne K (.ref d.c_NoNetwork) (.ref d.c_NoWay) = some false
  q_NoNetwork_ValueError : PySem.W.kitOne K (.ref d.c_NoNetwork) (.type "ValueError") = some true
  q_NoNetwork_NoNetwork : PySem.W.kitOne K (.ref d.c_NoNetwork) (.ref d.c_NoNetwork) = some true
  g_MOST_PLACES : mg "MOST_PLACES" = some (.int 12 d.t_MOST_PLACES)
  g_MOST_ARCS : mg "MOST_ARCS" = some (.int 40 d.t_MOST_ARCS)
  g_MOST_BOUNDS : mg "MOST_BOUNDS" = some (.int 29 d.t_MOST_BOUNDS)
  g_MOST_ROWS : mg "MOST_ROWS" = some (.int 5 d.t_MOST_ROWS)
  g_MOST_PAIRS : mg "MOST_PAIRS" = some (.int 30 d.t_MOST_PAIRS)
  b_ValueError : mg "ValueError" = none
  b_all : mg "all" = none
  b_any : mg "any" = none
  b_int : mg "int" = none
  b_isinstance : mg "isinstance" = none
  b_len : mg "len" = none
  b_list : mg "list" = none
  b_max : mg "max" = none
  b_min : mg "min" = none
  b_range : mg "range" = none
  b_sorted : mg "sorted" = none
end SB
namespace SB
open PySem PySem.Spec PyProof.Rows L2
local macro_rules | `(tactic| walk_at "same") => `(tactic| first
  | exact Same.refl _
  | assumption
  | (refine Same.trans ?_ (by assumption); walk_at "same"))
local macro_rules | `(tactic| walk_at "is") => `(tactic| first
  | assumption
  | exact Dp.int _
  | exact Dp.bl _
  | exact Dp.non
  | exact Dp.str _
  | (refine' dp_mono ?_ (by assumption); walk_at "same"))
local macro_rules | `(tactic| walk_at "dpa") => `(tactic| first
  | exact DpAll.nil
  | (refine' DpAll.cons ?h1 ?h2; (case h1 => walk_at "is"); (case h2 => walk_at "dpa"))
  | exact dpAll_ints _
  | exact dpAll_bools _
  | assumption
  | (refine' dpAll_mono ?_ (by assumption); walk_at "same"))
local macro_rules | `(tactic| walk_at "bd") => `(tactic| first | omega | assumption | (simp only [List.length_map, List.length_range, List.length_replicate] at *; omega))
local macro_rules | `(tactic| walk_at "ati") => `(tactic| first
  | rfl
  | exact atI_map (by walk_at "bd") (by walk_at "bd"))
local macro_rules | `(tactic| walk_at "kn") => `(tactic| first
  | (with_reducible refine kn_int ?_)
  | (with_reducible refine kn_bl ?_)
  | (with_reducible refine kn_non ?_)
  | (with_reducible refine kn_str ?_)
  | ((with_reducible refine kn_tup ?_); intro u hu)
  | ((with_reducible refine kn_lst ?_); intro u hu))
local macro_rules | `(tactic| walk_at "wm") => `(tactic| first
  | exact .inl ⟨by decide, by decide⟩
  | exact .inr ⟨by decide, by decide⟩)
local macro_rules | `(tactic| walk_at "st") => `(tactic| first
  | ((with_reducible refine' x_var ?h ?_); (case h => with_unfolding_all rfl))
  | (with_reducible refine x_c ?_)
  | (with_reducible refine x_op ?_)
  | (with_reducible refine x_I0 ?_)
  | (with_reducible refine x_cons ?_)
  | (with_reducible refine x_nil ?_)
  | (with_reducible refine x_seq ?_)
  | (with_reducible refine x_asg ?_)
  | (with_reducible refine x_gname ?_)
  | (with_reducible refine x_test ?_)
  | (with_reducible refine x_tB ?_)
  | (with_reducible refine x_k ?_)
  | (with_reducible refine x_kx ?_)
  | (with_reducible refine x_if ?_)
  | (with_reducible refine x_ret ?_)
  | (with_reducible refine x_next ?_)
  | (with_reducible refine x_iteT ?_)
  | (with_reducible refine x_iteF ?_)
  | (with_reducible refine x_nT ?_)
  | (with_reducible refine x_dNN ?_)
  | (with_reducible refine x_dNI ?_)
  | (with_reducible refine x_dNR ?_)
  | (with_reducible refine x_nNN ?_)
  | (with_reducible refine x_nNI ?_)
  | (with_reducible refine x_nNR ?_)
  | (with_reducible refine x_nF ?_)
  | (with_reducible refine x_eqI ?_)
  | (with_reducible refine x_neI ?_)
  | (with_reducible refine x_eqB ?_)
  | (with_reducible refine x_eqS ?_)
  | (with_reducible refine x_neS ?_)
  | (with_reducible refine x_isB ?_)
  | (with_reducible refine x_notB ?_)
  | (with_reducible refine x_neB ?_)
  | (with_reducible refine x_cb ?_)
  | (with_reducible refine x_call0 ?_)
  | (with_reducible refine x_callS ?_)
  | ((with_reducible refine x_I (C := CMul) ?h ?_); (case h => walk_at "wm"))
  | ((with_reducible refine x_I (C := CDiv) ?h ?_); (case h => exact ⟨by decide, by decide⟩))
  | ((with_reducible refine x_I (C := CPow) ?h ?_); (case h => exact ⟨by decide, by decide, by decide⟩))
  | ((with_reducible refine x_I ?h ?_); (case h => walk_at "side"))
  | (with_reducible refine x_U ?_)
  | (with_reducible refine x_un ?_)
  | (with_reducible refine x_and ?_)
  | (with_reducible refine x_or ?_)
  | (with_reducible refine x_not ?_)
  | (with_reducible refine x_andV ?_)
  | (with_reducible refine x_orV ?_)
  | (with_reducible refine x_notV ?_)
  | (with_reducible refine x_ifE ?_)
  | (with_reducible refine x_chain ?_)
  | (with_reducible refine x_ttup ?_)
  | (with_reducible refine x_tlst ?_)
  | (with_reducible refine x_gsub ?_)
  | (with_reducible refine x_drop ?_)
  | (with_reducible refine x_retN ?_)
  | (with_reducible refine x_brk ?_)
  | (with_reducible refine x_fld ?_)
  | (with_reducible refine x_fldr ?_)
  | (with_reducible refine x_meth ?_)
  | (with_reducible refine x_gnil ?_)
  | (with_reducible refine x_for ?_)
  | (with_reducible refine x_forr ?_)
  | (with_reducible refine x_forz ?_)
  | (with_reducible refine x_fort ?_)
  | (with_reducible refine x_lcl ?_)
  | (with_reducible refine x_lcr ?_)
  | (with_reducible refine x_lcz ?_)
  | (with_reducible refine x_lcen ?_)
  | (with_reducible refine x_lcb ?_ (by with_unfolding_all rfl))
  | (with_reducible refine x_yes ?_)
  | (with_reducible refine x_bm ?_)
  | (with_reducible refine x_bm0 ?_)
  | (with_reducible refine x_bmo 0 (by assumption) rfl ?_)
  | (with_reducible refine x_bmo 1 (by assumption) rfl ?_)
  | (with_reducible refine x_bmo 2 (by assumption) rfl ?_)
  | (with_reducible refine x_gcons ?_)
  | (with_reducible refine x_isN ?_)
  | (with_reducible refine x_notN ?_)
  | (with_reducible refine x_abs ?_)
  | (with_reducible refine x_max2 ?_)
  | (with_reducible refine x_intB ?_)
  | (with_reducible refine' x_all (by assumption) (by walk_at "is") ?_)
  | (with_reducible refine' x_any (by assumption) (by walk_at "is") ?_)
  | (with_reducible refine' x_sum (by assumption) (by walk_at "is") ?_)
  | ((with_reducible refine' x_listS (by assumption) (by walk_at "is") ?_); intro S' H' v W' hS hv)
  | (with_reducible refine x_isX (by assumption) (by assumption) ?_)
  | (with_reducible refine x_isXT (by assumption) (by assumption) ?_)
  | (with_reducible refine x_isiI kb_int_int ?_)
  | (with_reducible refine x_isiI kb_int_bool ?_)
  | (with_reducible refine x_isiB kb_bool_bool ?_)
  | (with_reducible refine x_isiB kb_bool_int ?_)
  | (with_reducible refine' x_isiL (by assumption) (by walk_at "is") kb_list_list ?_)
  | (with_reducible refine' x_isiT (by assumption) (by walk_at "is") kb_tuple_tuple ?_)
  | (with_reducible refine x_isiN kb_NoneType_int ?_)
  | (with_reducible refine' x_isiT (by assumption) (by walk_at "is") kb_tuple_list ?_)
  | (with_reducible refine' x_isiL (by assumption) (by walk_at "is") kb_list_tuple ?_)
  | (with_reducible refine x_isiS kb_str_int ?_)
  | (with_reducible refine' x_isiT (by assumption) (by walk_at "is") kb_tuple_int ?_)
  | (with_reducible refine' x_isiL (by assumption) (by walk_at "is") kb_list_int ?_)
  | ((with_reducible refine' x_ixT (by assumption) (by walk_at "is") ?h ?_); (case h => walk_at "ati"); (walk_at "kn"))
  | ((with_reducible refine' x_ixL (by assumption) (by walk_at "is") ?h ?_); (case h => walk_at "ati"); (walk_at "kn"))
  | ((with_reducible refine x_ixM 0 (by assumption) rfl ?h0 ?h1 ?_); (case h0 => walk_at "bd"); (case h1 => walk_at "bd"))
  | ((with_reducible refine x_ixM 1 (by assumption) rfl ?h0 ?h1 ?_); (case h0 => walk_at "bd"); (case h1 => walk_at "bd"))
  | ((with_reducible refine x_ixM1 (by assumption) (by assumption) ?h0 ?h1 ?_); (case h0 => walk_at "bd"); (case h1 => walk_at "bd"))
  | ((with_reducible refine x_ixM2 (by assumption) (by assumption) ?h0 ?h1 ?_); (case h0 => walk_at "bd"); (case h1 => walk_at "bd"))
  | ((with_reducible refine x_ixM0 (by assumption) (by assumption) ?h0 ?h1 ?_); (case h0 => walk_at "bd"); (case h1 => walk_at "bd"))
  | (with_reducible refine wsA 2 (by assumption) rfl (by assumption) (by assumption) ?_)
  | (with_reducible refine wsL 2 (by assumption) rfl (by assumption) (by assumption) ?_)
  | (with_reducible refine wsM 2 (by assumption) rfl (by assumption) (by assumption) ?_)
  | (with_reducible refine wsA 3 (by assumption) rfl (by assumption) (by assumption) ?_)
  | (with_reducible refine wsL 3 (by assumption) rfl (by assumption) (by assumption) ?_)
  | (with_reducible refine wsM 3 (by assumption) rfl (by assumption) (by assumption) ?_)
  | (with_reducible refine x_sl ?_)
  | (with_reducible refine x_poN ?_)
  | (with_reducible refine x_poS ?_)
  | (with_reducible refine x_poI ?_)
  | (with_reducible refine x_get ?_)
  | (with_reducible refine x_lrg ?_)
  | (with_reducible refine x_din ?_)
  | (with_reducible refine x_dnin ?_)
  | (with_reducible refine x_dget ?_)
  | (with_reducible refine x_dput ?_)
  | (with_reducible refine x_lenO 0 (by assumption) rfl ?_)
  | (with_reducible refine x_lenO 1 (by assumption) rfl ?_)
  | (with_reducible refine' x_lenT (by assumption) (by walk_at "is") ?_)
  | (with_reducible refine' x_len (by assumption) (by walk_at "is") ?_)
  | (with_reducible refine x_tr ?_)
  | (with_reducible refine x_truB ?_)
  | (with_reducible refine x_truO 0 (by assumption) rfl ?_)
  | (with_reducible refine' x_truL (by assumption) (by walk_at "is") ?_)
  | ((with_reducible refine' x_tup (by assumption) (by walk_at "dpa") (by simp) ?_); intro S' H' v W' hS hv))
local macro_rules | `(tactic| walk_at "go") => `(tactic| repeat (walk_at "st"))
local macro_rules | `(tactic| walk_at "stop") => `(tactic| ((fail_if_success (with_reducible refine x_if ?_)); (fail_if_success (with_reducible refine x_andV ?_)); (fail_if_success (with_reducible refine x_orV ?_)); (fail_if_success (with_reducible refine x_ifE ?_))))
local macro_rules | `(tactic| walk_at "g") => `(tactic| repeat (walk_at "stop"; walk_at "st"))
local macro_rules | `(tactic| walk_at "side") => `(tactic| first | omega | assumption | exact cdivw_any (by assumption) | decide)
local macro_rules | `(tactic| walk_at "own") => `(tactic| ((with_reducible refine x_own (by assumption) (by simp) ?_); intro p H' W'))
local macro_rules | `(tactic| walk_at "lst") => `(tactic| ((with_reducible refine' x_lst (by assumption) (by walk_at "dpa") (by simp) ?_); intro S' H' v W' hS hv))
local macro_rules | `(tactic| walk_at "ly") => `(tactic| exact lce_y (by assumption) (by assumption) (by walk_at "same") (by walk_at "is") rfl)
local macro_rules | `(tactic| walk_at "ln") => `(tactic| exact lce_n (by assumption) (by assumption) (by walk_at "same") rfl)
local macro_rules | `(tactic| walk_at "lyp") => `(tactic| exact lce_y (by assumption) (by assumption) (by walk_at "same") (by walk_at "is") (if_pos (by assumption)))
local macro_rules | `(tactic| walk_at "lnp") => `(tactic| exact lce_n (by assumption) (by assumption) (by walk_at "same") (if_neg (ne_true (by assumption))))
section
variable {P : Program} {w : World} {K : PySem.W.Frag} {mg : Str → Option Value} {base : Heap} {d : Ad}
inductive Sp_law_cell (K : PySem.W.Frag) : List V → Hp → VK → XK → Prop
  | mk {S : Hp} {O : List (Addr × HO)} {ns : List Int} {i : Int} {x : V} {H : Hp} {Q : VK} {E : XK} (W : Wd K S H O) (h : Dp K S x (.list (ns.map PyData.int)))
    (k : Q (.int (cell ns i)) H) : Sp_law_cell K [x, .int i] H Q E
theorem ok_law_cell (T : Txt K mg d) : FnOk P w K mg base CX0 1 d.a_law_cell d.f_law_cell ["_law_script", "_law_k"] (Sp_law_cell K) := by
  refine T.F_law_cell.ok sc_law_cell (fun vs H Q E h => ?_) (fun cdv A outer s H vs Q E hr h => ?_)
  · cases h; rfl
  · have hu := hu_of hr
    obtain ⟨W, h, k⟩ := h
    rename_i S O ns i x
    refine ⟨_, (pss_cons (ps_if (trutha (K := K) (by rfl) (pv 0) (by intro _; rfl)) (pss_one (ps_ret (pe_ix (ixa (K := K) (by rfl)) (pv 0) (pe_op op_mod (pv 1) (pe_callB (lena (K := K) (by rfl)) (by rfl) T.b_len (by decide +kernel) (pa_cons (pv 0) pa_nil))) (fun _ _ => rfl)))) pss_nil)
      (pss_one (ps_ret pe_int))), ?_⟩
    try dsimp only [cxK, cxw, cxprog]
    walk_at "go"
    refine x_iteN (fun he => ?_) (fun he => ?_)
    · have hl : (0 : Int) < (ns.map PyData.int).length := by
        cases ns with
        | nil => simp at he
        | cons a r => simp only [List.length_map, List.length_cons]; omega
      walk_at "go"
      have h0 := Int.emod_nonneg i (show ((ns.map PyData.int).length : Int) ≠ 0 by omega)
      have h2 := Int.emod_lt_of_pos i hl
      simp only [List.length_map] at h0 h2 hl
      rw [List.length_map]
      refine x_ixL W h (atI_map (f := PyData.int) h0 h2) (kn_int ?_)
      have e : cell ns i = nth ns (i % (ns.length : Int)) := by
        unfold cell
        rw [if_neg]
        · intro z
          rw [z] at hl
          simp at hl
      rw [← e]
      exact k
    · walk_at "go"
      have e : cell ns i = 0 := by
        unfold cell
        rw [if_pos]
        cases ns with
        | nil => rfl
        | cons a r => simp at he
      rw [← e]
      exact k
end
section
variable {P : Program} {w : World} {K : PySem.W.Frag} {mg : Str → Option Value} {base : Heap} {d : Ad}
inductive Sp_law_mix (K : PySem.W.Frag) : List V → Hp → VK → XK → Prop
  | mk {S : Hp} {O : List (Addr × HO)} {ns : List Int} {i : Int} {x : V} {H : Hp} {Q : VK} {E : XK} (W : Wd K S H O) (h : Dp K S x (.list (ns.map PyData.int)))
    (k : Q (.int (mix ns i)) H) : Sp_law_mix K [x, .int i] H Q E
theorem ok_law_mix (T : Txt K mg d) : FnOk P w K mg base CX0 2 d.a_law_mix d.f_law_mix ["_law_script", "_law_k"] (Sp_law_mix K) := by
  refine T.F_law_mix.ok sc_law_mix (fun vs H Q E h => ?_) (fun cdv A outer s H vs Q E hr h => ?_)
  · cases h; rfl
  · have hu := hu_of hr
    obtain ⟨W, h, k⟩ := h
    rename_i S O ns i x
    refine ⟨_, (pss_cons (ps_set (i := 2) sc_law_mix.nd rfl (by first | exact Or.inl rfl | exact Or.inr rfl) (pe_op op_mod (pe_op op_add (pe_call (ok_law_cell T) (hr.mono (by decide)) (by rfl) T.g_law_cell T.k_law_cell T.p_law_cell .nil pass0 (pa_cons (pv 0) (pa_cons (pv 1) pa_nil))) (pe_op op_mul pe_int (pe_op op_add (pv 1) pe_int))) pe_int))
      (pss_cons (ps_set (i := 2) sc_law_mix.nd rfl (by first | exact Or.inl rfl | exact Or.inr rfl) (pe_op op_mod (pe_op op_mul (pv 2) pe_int) pe_int))
      (pss_one (ps_ret (pe_op op_mod (pe_op op_add (pe_op op_mul (pe_op op_fdiv (pv 2) pe_int) pe_int) (pv 2)) pe_int))))), ?_⟩
    try dsimp only [cxK, cxw, cxprog]
    walk_at "go"
    refine .mk W h ?_
    walk_at "go"
    exact k
end
local macro_rules | `(tactic| walk_at "st") => `(tactic| (with_reducible refine Sp_law_mix.mk (by assumption) (by walk_at "is") ?_))
section
variable {P : Program} {w : World} {K : PySem.W.Frag} {mg : Str → Option Value} {base : Heap} {d : Ad}
inductive Sp_law_kind (K : PySem.W.Frag) (C : Addr) : List V → Hp → VK → XK → Prop
  | mk {S : Hp} {O : List (Addr × HO)} {p : Addr} {H : Hp} {Q : VK} {E : XK} (W : Wd K S H O) (hp : H p = some (ExK (.ref C) none p)) (k : ∀ S' H', Wd K S' H' O → Same S S' → Q (.str "no") H') : Sp_law_kind K C [.ref p] H Q E
theorem ok_law_kind (T : Txt K mg d) : FnOk P w K mg base CX0 1 d.a_law_kind d.f_law_kind ["_law_e"] (Sp_law_kind K d.c_NoNetwork) := by
  refine T.F_law_kind.ok sc_law_kind (fun vs H Q E h => ?_) (fun cdv A outer s H vs Q E hr h => ?_)
  · cases h; rfl
  · have hu := hu_of hr
    obtain ⟨W, hp, k⟩ := h
    rename_i S O p
    have y1 := T.y_NoNetwork
    have q1 := T.q_NoNetwork_NoRatio
    have q2 := T.q_NoNetwork_NoTable
    have q3 := T.q_NoNetwork_NoWay
    have q4 := T.q_NoNetwork_ValueError
    have q5 := T.q_NoNetwork_NoNetwork
    refine ⟨_, (pss_cons (ps_if (PW.pt (pw_or (pt_val (pe_callB (call_isKT (K := K) (by rfl)) (by rfl) T.b_isinstance (by decide +kernel) (pa_cons (pv 0) (pa_cons (pe_tup (pa_cons (pe_glob (v := .ref d.c_NoRatio) (by rfl) T.g_NoRatio rfl) (pa_cons (pe_glob (v := .ref d.c_NoTable) (by rfl) T.g_NoTable rfl) (pa_cons (pe_glob (v := .ref d.c_NoWay) (by rfl) T.g_NoWay rfl) pa_nil)))) pa_nil)))) (pw_or1 (pt_not (pt_val (pe_callB (call_isK (K := K) (by rfl)) (by rfl) T.b_isinstance (by decide +kernel) (pa_cons (pv 0) (pa_cons (pe_bltn (v := .ty "ValueError") (by rfl) T.b_ValueError (by decide +kernel) rfl) pa_nil)))))))) (pss_one (ps_ret pe_str)) pss_nil)
      (pss_one (ps_ret (pe_ifExp (pt_val (pe_callB (call_isK (K := K) (by rfl)) (by rfl) T.b_isinstance (by decide +kernel) (pa_cons (pv 0) (pa_cons (pe_glob (v := .ref d.c_NoNetwork) (by rfl) T.g_NoNetwork rfl) pa_nil)))) pe_str pe_str)))), ?_⟩
    try dsimp only [cxK, cxw, cxprog]
    walk_at "go"
    refine ⟨sz (by simp), fun tp htp => ?_⟩
    have W2 := W.new htp (o := .tup [.ref d.c_NoRatio, .ref d.c_NoTable, .ref d.c_NoWay])
    have hS2 := same_new (W.frS htp) (o := .tup [.ref d.c_NoRatio, .ref d.c_NoTable, .ref d.c_NoWay])
    have hp2 : upd H tp (.tup [.ref d.c_NoRatio, .ref d.c_NoTable, .ref d.c_NoWay]) p = some (ExK (.ref d.c_NoNetwork) none p) := by rw [upd_ne (ne_of_none hp htp)]; exact hp
    refine ⟨p, d.c_NoNetwork, tp, _, [.ref d.c_NoRatio, .ref d.c_NoTable, .ref d.c_NoWay], false, rfl, hp2, y1, upd_same, .cons (.own _) (.cons (.own _) (.cons (.own _) .nil)), ?_, ?_⟩
    · exact kitAny_cons q1 (fun _ => kitAny_cons q2 (fun _ => kitAny_cons q3 (fun _ => kitAny_nil) (fun h => by cases h)) (fun h => by cases h)) (fun h => by cases h)
    generalize upd H tp (.tup [.ref d.c_NoRatio, .ref d.c_NoTable, .ref d.c_NoWay]) = H2 at *
    walk_at "go"
    refine x_isKT hp2 y1 q4 ?_
    walk_at "go"
    refine x_isK hp2 y1 q5 ?_
    walk_at "go"
    exact k _ _ W2 hS2
end
section
variable {P : Program} {w : World} {K : PySem.W.Frag} {mg : Str → Option Value} {base : Heap} {d : Ad}
inductive Sp_look (K : PySem.W.Frag) (C : Addr) : List V → Hp → VK → XK → Prop
  | mk {S : Hp} {O : List (Addr × HO)} {P : Int} {as : List Arc} {x : V} {H : Hp} {Q : VK} {E : XK} (W : Wd K S H O) (h1 : Dp K S x (.list (as.map arcD))) (e : ¬ LookOk P as → E (.ref C) none H)
    (k : LookOk P as → Q .non H) : Sp_look K C [.int P, x] H Q E
theorem ok_look (T : Txt K mg d) : FnOk P w K mg base (L2.CX P w) 3 d.a_look d.f_look ["places", "arcs"] (Sp_look K d.c_NoNetwork) := by
  refine T.F_look.okX sc_look (fun vs H Q E h => ?_) (fun cdv A outer s H vs Q E hr h => ?_)
  · cases h; rfl
  · have hu := hu_of hr
    obtain ⟨W, h1, e, k⟩ := h
    rename_i S O P as x
    refine ⟨_, (pss_cons (ps_if (PW.pt (pw_or (pt_not (pt_chain op_le op_le pe_int (pv 0) (pe_globI (by rfl) T.g_MOST_PLACES))) (pw_or1 (pt_cmpR op_gt (pe_callB (lena (K := K) (by rfl)) (by rfl) T.b_len (by decide +kernel) (pa_cons (pv 1) pa_nil)) (pe_globI (by rfl) T.g_MOST_ARCS) (nomark _))))) (pss_one (ps_raise rfl (takes_of rfl rfl rfl rfl) (pmk_own PySem.F.excBase_ValueError T.x_NoNetwork T.g_NoNetwork T.k_NoNetwork (raises_own T.s_NoNetwork T.t_NoNetwork) (by exact rfl)))) pss_nil)
      (pss_one (ps_for (passes_of rfl) rfl (pi_list (pv 1)) (pg_name (i := 2) sc_look.nd rfl (by first | exact Or.inl rfl | exact Or.inr rfl)) (pss_one (ps_if (PW.pt (pw_or (pt_not (pt_chain op_le op_lt pe_int (pe_ix (ixa (K := K) (by rfl)) (pv 2) pe_int (fun _ _ => rfl)) (pv 0))) (pw_or1 (pt_not (pt_chain op_le op_lt pe_int (pe_ix (ixa (K := K) (by rfl)) (pv 2) pe_int (fun _ _ => rfl)) (pv 0)))))) (pss_one (ps_raise rfl (takes_of rfl rfl rfl rfl) (pmk_own PySem.F.excBase_ValueError T.x_NoNetwork T.g_NoNetwork T.k_NoNetwork (raises_own T.s_NoNetwork T.t_NoNetwork) (by exact rfl)))) pss_nil))))), ?_⟩
    try dsimp only [cxK, cxw, cxprog]
    have no : ∀ {z : Prop}, (LookOk P as → z) → ¬ z → E (.ref d.c_NoNetwork) none H := fun h n => e fun l => n (h l)
    walk_at "go"
    refine x_iteD (fun h2 => ?_) (fun h2 => ?_)
    · walk_at "go"
      refine x_iteND (fun h3 => no (fun l => l.hi) h3) (fun h3 => ?_)
      walk_at "go"
      refine x_iteD (fun h4 => no (fun l => l.few) (by rw [List.length_map] at h4; omega)) (fun h4 => ?_)
      rw [List.length_map] at h4
      walk_at "go"
      refine x_forD h1 (fun i σ' H' => ∃ z : Option V, σ' = [some (.int P), some x, z] ∧ H' = H ∧ ∀ a ∈ as.take i, ArcOk P a) ⟨_, rfl, rfl, fun a h => by cases h⟩ (fun i σ' H' ⟨z, _, e, _⟩ => e ▸ W.sub) ?_ ?_
      · rintro i a σ' H' ei ⟨z, rfl, rfl, hA⟩
        refine kn_tup fun u hu => ?_
        have ha := List.mem_of_getElem? ei
        walk_at "go"
        refine x_iteD (fun s0 => ?_) (fun s0 => ?_)
        rotate_left
        · walk_at "go"
          exact no (fun l => (l.arcs a ha).s0) s0
        walk_at "go"
        refine x_iteND (fun s1 => no (fun l => (l.arcs a ha).s1) s1) (fun s1 => ?_)
        walk_at "go"
        refine x_iteD (fun t0 => ?_) (fun t0 => ?_)
        rotate_left
        · walk_at "go"
          exact no (fun l => (l.arcs a ha).t0) t0
        walk_at "go"
        refine x_iteND (fun t1 => no (fun l => (l.arcs a ha).t1) t1) (fun t1 => ?_)
        walk_at "go"
        refine ⟨_, rfl, rfl, fun b hb => ?_⟩
        rw [List.take_add_one, ei] at hb
        rcases List.mem_append.mp hb with hb | hb
        · exact hA b hb
        · rw [Option.toList_some, List.mem_singleton] at hb
          subst hb
          exact ⟨s0, s1, t0, t1⟩
      · rintro σ' H' ⟨z, rfl, rfl, hA⟩
        rw [List.take_length] at hA
        exact k ⟨h2, h3, by omega, hA⟩
    · walk_at "go"
      exact no (fun l => l.lo) h2
end
section
variable {P : Program} {w : World} {K : PySem.W.Frag} {mg : Str → Option Value} {base : Heap} {d : Ad}
abbrev stepD (st : Step) : PyData := .tuple [.int st.m, .int st.to, .int st.k, .int st.d]
inductive Sp_steps_from (K : PySem.W.Frag) : List V → Hp → VK → XK → Prop
  | mk {S : Hp} {O : List (Addr × HO)} {as : List Arc} {ms : List Int} {x : V} {p : Addr} {pl : Int} {H : Hp} {Q : VK} {E : XK} (n : Nat) (W : Wd K S H O) (hp : O[n]? = some (p, .lst (ms.map V.int))) (h1 : Dp K S x (.list (as.map arcD)))
    (hl : ms.length = as.length) (hl2 : as.length ≤ 1000) (k : ∀ S' H' v, Wd K S' H' O → Same S S' → Dp K S' v (.list ((stepsOf as ms pl).map stepD)) → Q v H') : Sp_steps_from K [x, .ref p, .int pl] H Q E
theorem ok_steps_from (T : Txt K mg d) : FnOk P w K mg base CX0 1 d.a_steps_from d.f_steps_from ["arcs", "amounts", "place"] (Sp_steps_from K) := by
  refine T.F_steps_from.ok sc_steps_from (fun vs H Q E h => ?_) (fun cdv A outer s H vs Q E hr h => ?_)
  · cases h; rfl
  · have hu := hu_of hr
    obtain ⟨n, W, hp, h1, hl, hl2, k⟩ := h
    rename_i S O as ms x p pl
    refine ⟨_, (pss_cons (ps_set (i := 3) sc_steps_from.nd rfl (by first | exact Or.inl rfl | exact Or.inr rfl) (pe_lst pa_nil))
      (pss_cons (ps_for PassesOwn.never rfl (pi_range1 (by rfl) T.b_range (pa_cons (pe_callB (lena (K := K) (by rfl)) (by rfl) T.b_len (by decide +kernel) (pa_cons (pv 0) pa_nil)) pa_nil)) (pg_name (i := 4) sc_steps_from.nd rfl (by first | exact Or.inl rfl | exact Or.inr rfl)) (pss_cons (ps_set (i := 5) sc_steps_from.nd rfl (by first | exact Or.inl rfl | exact Or.inr rfl) (pe_ix (ixa (K := K) (by rfl)) (pv 0) (pv 4) (fun _ _ => rfl)))
      (pss_cons (ps_if (PW.pt (pw_and (pt_cmpR op_eq (pe_ix (ixa (K := K) (by rfl)) (pv 5) pe_int (fun _ _ => rfl)) (pv 2) (nomark _)) (pw_and1 (pt_cmpR op_lt (pe_ix (ixa (K := K) (by rfl)) (pv 1) (pv 4) (fun _ _ => rfl)) (pe_ix (ixa (K := K) (by rfl)) (pv 5) pe_int (fun _ _ => rfl)) (nomark _))))) (pss_one (ps_expr (pe_bm PySem.F.plainAttrs_list PySem.F.slot_list_append PySem.F.type_list_append mt_append (pv 3) (pa_cons (pe_tup (pa_cons (pe_op op_sub (pe_ix (ixa (K := K) (by rfl)) (pv 5) pe_int (fun _ _ => rfl)) (pe_ix (ixa (K := K) (by rfl)) (pv 1) (pv 4) (fun _ _ => rfl))) (pa_cons (pe_ix (ixa (K := K) (by rfl)) (pv 5) pe_int (fun _ _ => rfl)) (pa_cons (pv 4) (pa_cons pe_int pa_nil))))) pa_nil)))) pss_nil)
      (pss_one (ps_if (PW.pt (pw_and (pt_cmpR op_eq (pe_ix (ixa (K := K) (by rfl)) (pv 5) pe_int (fun _ _ => rfl)) (pv 2) (nomark _)) (pw_and1 (pt_cmpR op_gt (pe_ix (ixa (K := K) (by rfl)) (pv 1) (pv 4) (fun _ _ => rfl)) pe_int (nomark _))))) (pss_one (ps_expr (pe_bm PySem.F.plainAttrs_list PySem.F.slot_list_append PySem.F.type_list_append mt_append (pv 3) (pa_cons (pe_tup (pa_cons (pe_ix (ixa (K := K) (by rfl)) (pv 1) (pv 4) (fun _ _ => rfl)) (pa_cons (pe_ix (ixa (K := K) (by rfl)) (pv 5) pe_int (fun _ _ => rfl)) (pa_cons (pv 4) (pa_cons (pe_un un_neg pe_int) pa_nil))))) pa_nil)))) pss_nil)))))
      (pss_one (ps_ret (pv 3))))), ?_⟩
    try dsimp only [cxK, cxw, cxprog]
    walk_at "go"
    refine x_own W (by simp) (fun q H1 W1 => ?_)
    walk_at "go"
    refine x_forNL (fun i σ' H' => ∃ S' vs, ∃ z1 z2 : Option V, σ' = [some x, some (.ref p), some (.int pl), some (.ref q), z1, z2] ∧ Wd K S' H' ((q, .lst vs) :: O) ∧ Same S S' ∧ DpAll K S' vs (((List.range i).flatMap (stepsAt as ms pl)).map stepD) ∧ vs.length ≤ 2 * i)
      (by omega) ⟨S, [], _, _, rfl, W1, Same.refl _, .nil, by simp⟩ ?_ ?_
    · rintro i σ' H' hi ⟨S', vs, z1, z2, rfl, W', hS', hA, hv⟩
      have hx' := dp_mono hS' h1
      have er : (List.range (i + 1)).flatMap (stepsAt as ms pl) = (List.range i).flatMap (stepsAt as ms pl) ++ stepsAt as ms pl i := by
        rw [List.range_succ, List.flatMap_append, List.flatMap_singleton]
      walk_at "g"
      rename_i u hu'
      refine x_ifJ (fun σ' H' => ∃ S2 vs2, σ' = [some x, some (.ref p), some (.int pl), some (.ref q), some (.int (i : Int)), some u] ∧ Wd K S2 H' ((q, .lst vs2) :: O) ∧ Same S' S2 ∧
        DpAll K S2 vs2 (((List.range i).flatMap (stepsAt as ms pl) ++ stA as ms pl i).map stepD) ∧ vs2.length ≤ 2 * i + 1) ?_ ?_
      · intro nx' hnx
        have no : (¬ (nth as (i : Int)).s = pl ∨ ¬ nth ms (i : Int) < (nth as (i : Int)).r) → nx' [some x, some (.ref p), some (.int pl), some (.ref q), some (.int (i : Int)), some u] H' := fun h => by
          refine hnx _ _ ⟨S', vs, rfl, W', Same.refl _, ?_, by omega⟩
          rw [stA_no h, List.append_nil]
          exact hA
        walk_at "go"
        refine x_iteD (fun hs => ?_) (fun hs => ?_)
        · walk_at "go"
          refine x_iteD (fun hm => ?_) (fun hm => ?_)
          · walk_at "go"
            refine x_app 0 (by assumption) rfl (by omega) (fun H3 W3 => ?_)
            walk_at "go"
            refine hnx _ _ ⟨_, _, rfl, W3, by walk_at "same", ?_, by rw [List.length_append, List.length_singleton]; omega⟩
            rw [stA_yes hs hm, List.map_append]
            exact dpAll_app (dpAll_mono (by walk_at "same") hA) (by assumption)
          · walk_at "go"
            exact no (.inr hm)
        · walk_at "go"
          exact no (.inl hs)
      · rintro σ' H2 ⟨S2, vs2, rfl, W2, hS2, hA2, hv2⟩
        have hu2 := dp_mono hS2 hu'
        rw [er, stepsAt, ← List.append_assoc]
        walk_at "g"
        have no : (¬ (nth as (i : Int)).t = pl ∨ ¬ nth ms (i : Int) > 0) → ∃ S'' vs'' , ∃ z1 z2 : Option V, [some x, some (.ref p), some (.int pl), some (.ref q), some (.int (i : Int)), some u] = [some x, some (.ref p), some (.int pl), some (.ref q), z1, z2] ∧ Wd K S'' H2 ((q, .lst vs'') :: O) ∧ Same S S'' ∧
            DpAll K S'' vs'' ((((List.range i).flatMap (stepsAt as ms pl) ++ stA as ms pl i) ++ stB as ms pl i).map stepD) ∧ vs''.length ≤ 2 * (i + 1) := fun h => by
          refine ⟨S2, vs2, _, _, rfl, W2, by walk_at "same", ?_, by omega⟩
          rw [stB_no h, List.append_nil]
          exact hA2
        walk_at "go"
        refine x_iteD (fun hs => ?_) (fun hs => ?_)
        · walk_at "go"
          refine x_iteD (fun hm => ?_) (fun hm => ?_)
          · walk_at "go"
            refine x_app 0 (by assumption) rfl (by omega) (fun H3 W3 => ?_)
            walk_at "go"
            refine ⟨_, _, _, _, rfl, W3, by walk_at "same", ?_, by rw [List.length_append, List.length_singleton]; omega⟩
            rw [stB_yes hs hm, List.map_append]
            exact dpAll_app (dpAll_mono (by walk_at "same") hA2) (by assumption)
          · walk_at "go"
            exact no (.inr hm)
        · walk_at "go"
          exact no (.inl hs)
    · rintro σ' H' ⟨S', vs, z1, z2, rfl, W', hS', hA, hv⟩
      refine x_give W' hA (fun S3 W3 hS3 hv3 => ?_)
      walk_at "go"
      exact k _ _ _ W3 (by walk_at "same") hv3
end
section
variable {P : Program} {w : World} {K : PySem.W.Frag} {mg : Str → Option Value} {base : Heap} {d : Ad}
abbrev entD : Ent → PyData
  | none => .none
  | some (pl, st) => .tuple [.int pl, stepD st]
inductive Sp_reached (K : PySem.W.Frag) : List V → Hp → VK → XK → Prop
  | mk {S : Hp} {O : List (Addr × HO)} {P : Int} {as : List Arc} {ms : List Int} {x : V} {p : Addr} {s : Int} {H : Hp} {Q : VK} {E : XK} (n : Nat) (W : Wd K S H O) (hp : O[n]? = some (p, .lst (ms.map V.int))) (h1 : Dp K S x (.list (as.map arcD)))
    (hl : ms.length = as.length) (hl2 : as.length ≤ 1000) (ok : ∀ a ∈ as, ArcOk P a) (s0 : 0 ≤ s) (s1 : s < P) (hP : P ≤ 60)
    (k : ∀ S' H' q kvs found idx, Wd K S' H' O → Same S S' → S' q = some (mkD kvs) → DKV K S' entD kvs found → Reach P as ms s idx found → Closed as ms found [] → Q (.ref q) H') : Sp_reached K [x, .ref p, .int s] H Q E
theorem ok_reached (T : Txt K mg d) : FnOk P w K mg base CX0 2 d.a_reached d.f_reached ["arcs", "amounts", "start"] (Sp_reached K) := by
  refine T.F_reached.ok sc_reached (fun vs H Q E h => ?_) (fun cdv A outer s H vs Q E hr h => ?_)
  · cases h; rfl
  · have hu := hu_of hr
    obtain ⟨n, W, hp, h1, hl, hl2, ok, s0, s1, hP, k⟩ := h
    rename_i S O P as ms x p s
    refine ⟨_, (pss_cons (ps_set (i := 3) sc_reached.nd rfl (by first | exact Or.inl rfl | exact Or.inr rfl) (pe_disp (pps_cons (pv 2) pe_non pps_nil) (by rfl) (by rfl) (fun z => by cases z) (by decide)))
      (pss_cons (ps_set (i := 4) sc_reached.nd rfl (by first | exact Or.inl rfl | exact Or.inr rfl) (pe_lst (pa_cons (pv 2) pa_nil)))
      (pss_cons (ps_while PassesOwn.never (trutha (K := K) (by rfl) (pv 4) (by intro _; rfl)) (pss_cons (ps_set (i := 5) sc_reached.nd rfl (by first | exact Or.inl rfl | exact Or.inr rfl) (pe_bm PySem.F.plainAttrs_list PySem.F.slot_list_pop PySem.F.type_list_pop mt_popAt (pv 4) (pa_cons pe_int pa_nil)))
      (pss_one (ps_for PassesOwn.never rfl (pi_list (pe_call (ok_steps_from T) (hr.mono (by decide)) (by rfl) T.g_steps_from T.k_steps_from T.p_steps_from .nil pass0 (pa_cons (pv 0) (pa_cons (pv 1) (pa_cons (pv 5) pa_nil))))) (pg_name (i := 6) sc_reached.nd rfl (by first | exact Or.inl rfl | exact Or.inr rfl)) (pss_one (ps_if (pt_cmp (pc_dnotin hu (pe_ix (ixa (K := K) (by rfl)) (pv 6) pe_int (fun _ _ => rfl)) (pv 3))) (pss_cons (ps_dput hu (pv 3) (pe_ix (ixa (K := K) (by rfl)) (pv 6) pe_int (fun _ _ => rfl)) (pe_tup (pa_cons (pv 5) (pa_cons (pv 6) pa_nil))) rfl)
      (pss_one (ps_expr (pe_bm PySem.F.plainAttrs_list PySem.F.slot_list_append PySem.F.type_list_append mt_append (pv 4) (pa_cons (pe_ix (ixa (K := K) (by rfl)) (pv 6) pe_int (fun _ _ => rfl)) pa_nil))))) pss_nil))))))
      (pss_one (ps_ret (pv 3)))))), ?_⟩
    try dsimp only [cxK, cxw, cxprog]
    walk_at "go"
    refine x_disp W (fun q H1 W1 => ?_)
    walk_at "go"
    refine x_disp1 W1 (fun H2 W2 => ?_)
    walk_at "go"
    refine x_own W2 (by simp) (fun r H3 W3 => ?_)
    walk_at "go"
    refine x_while (fun m σ' H' => ∃ S', ∃ kvs : List (Int × V), ∃ found : List (Int × Ent), ∃ idx : Int → Nat, ∃ left : List Int, ∃ z1 z2 : Option V, σ' = [some x, some (.ref p), some (.int s), some (.ref q), some (.ref r), z1, z2] ∧
        Wd K S' H' ((r, .lst (left.map V.int)) :: (q, mkD kvs) :: O) ∧ Same S S' ∧ DKV K S' entD kvs found ∧ Reach P as ms s idx found ∧ Closed as ms found left ∧ (∀ v ∈ left, (look found v).isSome = true) ∧ m ≤ 200 ∧ m = left.length + 2 * (P.toNat - found.length)) _
      ⟨S, [(s, .non)], [(s, none)], fun _ => 0, [s], _, _, rfl, W3, Same.refl _, ⟨rfl, Dp.non, trivial⟩, reach_one s0 s1, closed_one, fun v hv => by rw [List.mem_singleton.mp hv, look_one, if_pos rfl]; rfl, by simp; omega, rfl⟩ ?_
    rintro m σ' H' ⟨S', kvs, found, idx, left, z1, z2, rfl, W', hS', hD, R, C, hL, hm0, rfl⟩
    walk_at "go"
    cases left with
    | nil =>
      refine x_no rfl ?_
      refine x_give W' .nil (fun S4 W4 hS4 _ => ?_)
      refine x_giveD W4 (fun S5 W5 hS5 hq => ?_)
      walk_at "go"
      exact k _ _ _ _ _ _ W5 (by walk_at "same") hq (dkv_mono (by walk_at "same") hD) R C
    | cons pl left =>
      refine x_sure rfl ?_
      refine x_again ?_
      walk_at "go"
      refine x_pop0 0 W' rfl (fun H4 W4 => ?_)
      walk_at "go"
      refine .mk (n + 2) W4 hp (dp_mono hS' h1) hl hl2 (fun S4 H5 v W5 hS4 hv => ?_)
      have hpl := hL pl List.mem_cons_self
      refine x_forD hv (fun i σ' H' => ∃ S5, ∃ kvs5 : List (Int × V), ∃ found5 : List (Int × Ent), ∃ idx5 : Int → Nat, ∃ left5 : List Int, ∃ z2 : Option V, σ' = [some x, some (.ref p), some (.int s), some (.ref q), some (.ref r), some (.int pl), z2] ∧
          Wd K S5 H' ((r, .lst (left5.map V.int)) :: (q, mkD kvs5) :: O) ∧ Same S4 S5 ∧ DKV K S5 entD kvs5 found5 ∧ Reach P as ms s idx5 found5 ∧ Closed as ms found5 (pl :: left5) ∧ (∀ v ∈ left5, (look found5 v).isSome = true) ∧
          (∀ st ∈ (stepsOf as ms pl).take i, (look found5 st.to).isSome = true) ∧ (look found5 pl).isSome = true ∧ left5.length + 2 * (P.toNat - found5.length) ≤ left.length + 2 * (P.toNat - found.length))
        ⟨S4, kvs, found, idx, left, _, rfl, W5, Same.refl _, dkv_mono hS4 hD, R, C, fun v hv => hL v (List.mem_cons_of_mem _ hv), (fun st h => by cases h), hpl, Nat.le_refl _⟩
        (fun i σ' H' ⟨S5, kvs5, found5, idx5, left5, z2, _, W6, hS5, _⟩ => hS5.trans W6.sub) ?_ ?_
      · rintro i st σ' H' ei ⟨S5, kvs5, found5, idx5, left5, z2, rfl, W6, hS5, hD5, R5, C5, hL5, hT5, hp5, hm⟩
        refine kn_tup fun u hu => ?_
        have hu5 := dp_mono hS5 hu
        have hst := List.mem_of_getElem? ei
        have hr := stepsOf_rng ok hst
        have htk : (stepsOf as ms pl).take (i + 1) = (stepsOf as ms pl).take i ++ [st] := by
          rw [List.take_add_one, ei]
          rfl
        walk_at "go"
        refine x_dninH (W6.at 1 rfl) hD5 ?_
        walk_at "go"
        refine x_iteN (fun hn => ?_) (fun hy => ?_)
        · have hn' : look found5 st.to = none := by
            cases e : look found5 st.to with
            | none => rfl
            | some b => rw [e] at hn; cases hn
          have hk5 := dkv_len hD5
          have hl5 := reach_len R5
          have R6 := reach_add R5 hn' hp5 hst hr.1 hr.2
          have hl6 := reach_len R6
          rw [List.length_append, List.length_singleton] at hl6
          walk_at "go"
          rename_i S7 H7 vt W7 hS7 hvt
          refine x_dputO 1 W7 rfl (dkv_none hD5 hn') (by omega) (fun H8 W8 => ?_)
          walk_at "go"
          have hl5' : (left5.map V.int).length ≤ 1000000 := by
            rw [List.length_cons] at hm0
            rw [List.length_map]
            omega
          refine x_app 0 W8 rfl hl5' (fun H9 W9 => ?_)
          walk_at "go"
          refine ⟨S7, _, _, _, left5 ++ [st.to], _, rfl, ?_, by walk_at "same", dkv_app (b := some (pl, st)) hvt (dkv_mono hS7 hD5), R6, closed_add C5, fun v hv => ?_, fun st' h' => ?_, some_add hp5, ?_⟩
          · rw [List.map_append]
            exact W9
          · rcases List.mem_append.mp hv with h | h
            · exact some_add (hL5 v h)
            · rw [List.mem_singleton.mp h, look_app_new hn']
              rfl
          · rw [htk] at h'
            rcases List.mem_append.mp h' with h | h
            · exact some_add (hT5 st' h)
            · rw [List.mem_singleton.mp h, look_app_new hn']
              rfl
          · rw [List.length_append, List.length_append, List.length_singleton, List.length_singleton]
            omega
        · walk_at "go"
          refine ⟨S5, kvs5, found5, idx5, left5, _, rfl, W6, hS5, hD5, R5, C5, hL5, fun st' h' => ?_, hp5, hm⟩
          rw [htk] at h'
          rcases List.mem_append.mp h' with h | h
          · exact hT5 st' h
          · rw [List.mem_singleton.mp h]
            exact hy
      · rintro σ' H' ⟨S5, kvs5, found5, idx5, left5, z2, rfl, W6, hS5, hD5, R5, C5, hL5, hT5, hp5, hm⟩
        rw [List.take_length] at hT5
        refine ⟨_, ?_, S5, kvs5, found5, idx5, left5, _, _, rfl, W6, by walk_at "same", hD5, R5, fun pl' h1 h2 st hst => ?_, hL5, ?_, rfl⟩
        · rw [List.length_cons]
          omega
        rotate_left
        · rw [List.length_cons] at hm0
          omega
        · by_cases e : pl' = pl
          · subst e
            exact hT5 st hst
          · exact C5 pl' h1 (fun h => by
              rcases List.mem_cons.mp h with h | h
              · exact e h
              · exact h2 h) st hst
end
section
variable {P : Program} {w : World} {K : PySem.W.Frag} {mg : Str → Option Value} {base : Heap} {d : Ad}
inductive Sp_way_back (K : PySem.W.Frag) : List V → Hp → VK → XK → Prop
  | mk {S : Hp} {O : List (Addr × HO)} {q : Addr} {kvs : List (Int × V)} {found : List (Int × Ent)} {c : Int} {sts : List Step} {H : Hp} {Q : VK} {E : XK} (W : Wd K S H O) (hq : S q = some (mkD kvs)) (hD : DKV K S entD kvs found) (hb : Back found c sts) (hl : sts.length ≤ 1000)
    (k : ∀ S' H' v, Wd K S' H' O → Same S S' → Dp K S' v (.list (sts.map stepD)) → Q v H') : Sp_way_back K [.ref q, .int c] H Q E
theorem ok_way_back (T : Txt K mg d) : FnOk P w K mg base CX0 1 d.a_way_back d.f_way_back ["found", "goal"] (Sp_way_back K) := by
  refine T.F_way_back.ok sc_way_back (fun vs H Q E h => ?_) (fun cdv A outer s H vs Q E hr h => ?_)
  · cases h; rfl
  · have hu := hu_of hr
    obtain ⟨W, hq, hD, hb, hl, k⟩ := h
    rename_i S O q kvs found c sts
    refine ⟨_, (pss_cons (ps_set (i := 2) sc_way_back.nd rfl (by first | exact Or.inl rfl | exact Or.inr rfl) (pe_lst pa_nil))
      (pss_cons (ps_set (i := 3) sc_way_back.nd rfl (by first | exact Or.inl rfl | exact Or.inr rfl) (pv 1))
      (pss_cons (ps_while PassesOwn.never (pt_cmpR ol_notN (pe_dget hu (pv 0) (pv 3) (fun _ _ => rfl)) pe_non (nomark _)) (pss_cons (ps_expr (pe_bm PySem.F.plainAttrs_list PySem.F.slot_list_append PySem.F.type_list_append mt_append (pv 2) (pa_cons (pe_ix (ixa (K := K) (by rfl)) (pe_dget hu (pv 0) (pv 3) (fun _ _ => rfl)) pe_int (fun _ _ => rfl)) pa_nil)))
      (pss_one (ps_set (i := 3) sc_way_back.nd rfl (by first | exact Or.inl rfl | exact Or.inr rfl) (pe_ix (ixa (K := K) (by rfl)) (pe_dget hu (pv 0) (pv 3) (fun _ _ => rfl)) pe_int (fun _ _ => rfl))))))
      (pss_one (ps_ret (pv 2)))))), ?_⟩
    try dsimp only [cxK, cxw, cxprog]
    walk_at "go"
    refine x_own W (by simp) (fun r H1 W1 => ?_)
    walk_at "go"
    refine x_while (fun m σ' H' => ∃ S', ∃ vs : List V, ∃ pl : Int, ∃ rest done : List Step, σ' = [some (.ref q), some (.int c), some (.ref r), some (.int pl)] ∧ Wd K S' H' ((r, .lst vs) :: O) ∧ Same S S' ∧ Back found pl rest ∧ sts = done ++ rest ∧
        DpAll K S' vs (done.map stepD) ∧ m = rest.length) _ ⟨S, [], c, sts, [], rfl, W1, Same.refl _, hb, rfl, .nil, rfl⟩ ?_
    rintro m σ' H' ⟨S', vs, pl, rest, done, rfl, W', hS', hB, hs, hA, rfl⟩
    have hD' := dkv_mono hS' hD
    have hlv : vs.length ≤ 1000000 := by
      have := congrArg List.length hs
      rw [List.length_append] at this
      rw [dpAll_len hA, List.length_map]
      omega
    walk_at "go"
    cases hB with
    | nil hb' =>
      refine x_dgetH (W'.sub _ _ (hS' _ _ hq)) hD' hb' (kn_non ?_)
      walk_at "go"
      rw [List.append_nil] at hs
      subst hs
      refine x_give W' hA (fun S4 W4 hS4 hv => ?_)
      walk_at "go"
      exact k _ _ _ W4 (by walk_at "same") hv
    | @cons _ pl' st rest hb' hr =>
      refine x_dgetH (W'.sub _ _ (hS' _ _ hq)) hD' hb' (kn_tup fun u hu => ?_)
      walk_at "go"
      refine x_sure (by obtain ⟨a, us, rfl, _⟩ := dp_tup_ex hu; simp) ?_
      refine x_again ?_
      walk_at "go"
      refine x_dgetH (W'.sub _ _ (hS' _ _ hq)) hD' hb' (kn_tup fun u2 hu2 => ?_)
      walk_at "go"
      refine x_app 0 W' rfl hlv (fun H3 W3 => ?_)
      walk_at "go"
      refine x_dgetH (W3.sub _ _ (hS' _ _ hq)) hD' hb' (kn_tup fun u4 hu4 => ?_)
      walk_at "go"
      refine ⟨_, ?_, S', _, _, rest, done ++ [st], rfl, W3, hS', hr, by rw [hs, List.append_assoc]; rfl, ?_, rfl⟩
      · rw [List.length_cons]
        omega
      · rw [List.map_append]
        exact dpAll_app hA (by assumption)
end
section
variable {P : Program} {w : World} {K : PySem.W.Frag} {mg : Str → Option Value} {base : Heap} {d : Ad}
inductive Sp_greatest (K : PySem.W.Frag) (C : Addr) : List V → Hp → VK → XK → Prop
  | mk {S : Hp} {O : List (Addr × HO)} {P : Int} {as : List Arc} {x : V} {s g : Int} {H : Hp} {Q : VK} {E : XK} (W : Wd K S H O) (h1 : Dp K S x (.list (as.map arcD))) (hr : ∀ a ∈ as, a.r ≤ 10 ^ 30)
    (e : ¬ GoodG P as s g → ∀ S' H', Wd K S' H' O → Same S S' → E (.ref C) none H')
    (k : GoodG P as s g → ∀ S' H' v ms side, Wd K S' H' O → Same S S' → Dp K S' v (.tuple [.list (ms.map PyData.int), .list (side.map PyData.int)]) → Great P as s g ms side → Q v H') : Sp_greatest K C [.int P, x, .int s, .int g] H Q E
theorem ok_greatest (T : Txt K mg d) : FnOk P w K mg base (L2.CX P w) 4 d.a_greatest d.f_greatest ["places", "arcs", "start", "goal"] (Sp_greatest K d.c_NoNetwork) := by
  refine T.F_greatest.okX sc_greatest (fun vs H Q E h => ?_) (fun cdv A outer s H vs Q E hr h => ?_)
  · cases h; rfl
  · have hu := hu_of hr
    obtain ⟨W, h1, hr', e, k⟩ := h
    rename_i S O P as x s g
    refine ⟨_, (pss_cons (ps_expr (pe_call (ok_look T) (hr.mono (by decide)) (by rfl) T.g_look T.k_look T.p_look .nil (passes_call (takes_of rfl rfl rfl rfl) (fun _ _ _ _ h => h)) (pa_cons (pv 0) (pa_cons (pv 1) pa_nil))))
      (pss_cons (ps_if (PW.pt (pw_or (pt_cmpR op_eq (pv 2) (pv 3) (nomark _)) (pw_or (pt_not (pt_chain op_le op_lt pe_int (pv 2) (pv 0))) (pw_or1 (pt_not (pt_chain op_le op_lt pe_int (pv 3) (pv 0))))))) (pss_one (ps_raise rfl (takes_of rfl rfl rfl rfl) (pmk_own PySem.F.excBase_ValueError T.x_NoNetwork T.g_NoNetwork T.k_NoNetwork (raises_own T.s_NoNetwork T.t_NoNetwork) (by exact rfl)))) pss_nil)
      (pss_cons (ps_if (pt_val (pe_callB (anya (K := K) (by rfl) rfl) (by rfl) T.b_any (by decide +kernel) (pa_cons (pe_lc (own := [("arc", 9)]) rfl sc_greatest.nd (pi_list (pv 1)) (blkOk_by (by first | decide +kernel | exact Eq.refl true)) (fun _ _ _ _ _ => pg_name (i := 9) sc_greatest.nd rfl (by first | exact Or.inl rfl | exact Or.inr rfl)) (fun _ _ _ _ _ => pts_nil) (fun _ _ _ _ _ => (pe_cmpR op_lt (pe_ix (ixa (K := K) (by rfl)) (pv 9) pe_int (fun _ _ => rfl)) pe_int (nomark _)))) pa_nil))) (pss_one (ps_raise rfl (takes_of rfl rfl rfl rfl) (pmk_own PySem.F.excBase_ValueError T.x_NoNetwork T.g_NoNetwork T.k_NoNetwork (raises_own T.s_NoNetwork T.t_NoNetwork) (by exact rfl)))) pss_nil)
      (pss_cons (ps_set (i := 4) sc_greatest.nd rfl (by first | exact Or.inl rfl | exact Or.inr rfl) (pe_op op_rep (pe_lst (pa_cons pe_int pa_nil)) (pe_callB (lena (K := K) (by rfl)) (by rfl) T.b_len (by decide +kernel) (pa_cons (pv 1) pa_nil))))
      (pss_cons (ps_set (i := 5) sc_greatest.nd rfl (by first | exact Or.inl rfl | exact Or.inr rfl) (pe_call (ok_reached T) (hr.mono (by decide)) (by rfl) T.g_reached T.k_reached T.p_reached .nil pass0 (pa_cons (pv 1) (pa_cons (pv 4) (pa_cons (pv 2) pa_nil)))))
      (pss_cons (ps_while (passes_of rfl) (pt_cmp (pc_din hu (pv 3) (pv 5))) (pss_cons (ps_set (i := 6) sc_greatest.nd rfl (by first | exact Or.inl rfl | exact Or.inr rfl) (pe_call (ok_way_back T) (hr.mono (by decide)) (by rfl) T.g_way_back T.k_way_back T.p_way_back .nil pass0 (pa_cons (pv 5) (pa_cons (pv 3) pa_nil))))
      (pss_cons (ps_set (i := 7) sc_greatest.nd rfl (by first | exact Or.inl rfl | exact Or.inr rfl) (pe_callB (mina (K := K) (by rfl) rfl) (by rfl) T.b_min (by decide +kernel) (pa_cons (pe_lc (own := [("step", 8)]) rfl sc_greatest.nd (pi_list (pv 6)) (blkOk_by (by first | decide +kernel | exact Eq.refl true)) (fun _ _ _ _ _ => pg_name (i := 8) sc_greatest.nd rfl (by first | exact Or.inl rfl | exact Or.inr rfl)) (fun _ _ _ _ _ => pts_nil) (fun _ _ _ _ _ => (pe_ix (ixa (K := K) (by rfl)) (pv 8) pe_int (fun _ _ => rfl)))) pa_nil)))
      (pss_cons (ps_for (passes_of rfl) rfl (pi_list (pv 6)) (pg_name (i := 8) sc_greatest.nd rfl (by first | exact Or.inl rfl | exact Or.inr rfl)) (pss_one (ps_asg (pe_op op_add (pe_ix (ixa (K := K) (by rfl)) (pv 4) (pe_ix (ixa (K := K) (by rfl)) (pv 8) pe_int (fun _ _ => rfl)) (fun _ _ => rfl)) (pe_op op_mulW (pv 7) (pe_ix (ixa (K := K) (by rfl)) (pv 8) pe_int (fun _ _ => rfl)))) (pg_sub (pv 4) (pe_ix (ixa (K := K) (by rfl)) (pv 8) pe_int (fun _ _ => rfl)) set_list))))
      (pss_one (ps_set (i := 5) sc_greatest.nd rfl (by first | exact Or.inl rfl | exact Or.inr rfl) (pe_call (ok_reached T) (hr.mono (by decide)) (by rfl) T.g_reached T.k_reached T.p_reached .nil pass0 (pa_cons (pv 1) (pa_cons (pv 4) (pa_cons (pv 2) pa_nil))))))))))
      (pss_one (ps_ret (pe_tup (pa_cons (pv 4) (pa_cons (pe_callB (cl_sortedD (by rfl)) (by rfl) T.b_sorted (by decide +kernel) (pa_cons (pv 5) pa_nil)) pa_nil))))))))))), ?_⟩
    try dsimp only [cxK, cxw, cxprog]
    have no : ∀ {z : Prop}, (GoodG P as s g → z) → ¬ z → ∀ {S' H' : Hp}, Wd K S' H' O → Same S S' → E (.ref d.c_NoNetwork) none H' := fun {z} h n {S' H'} W hS => e (fun l => n (h l)) S' H' W hS
    walk_at "go"
    refine .mk W h1 (fun n => no (fun G => G.look) n W (Same.refl _)) (fun L => ?_)
    walk_at "go"
    refine x_iteD (fun he => no (fun G => G.ne) (fun h => h he) W (Same.refl _)) (fun hne => ?_)
    walk_at "go"
    refine x_iteD (fun s0 => ?_) (fun s0 => ?_)
    rotate_left
    · walk_at "go"
      exact no (fun G => G.s0) s0 W (Same.refl _)
    walk_at "go"
    refine x_iteND (fun s1 => no (fun G => G.s1) s1 W (Same.refl _)) (fun s1 => ?_)
    walk_at "go"
    refine x_iteD (fun g0 => ?_) (fun g0 => ?_)
    rotate_left
    · walk_at "go"
      exact no (fun G => G.g0) g0 W (Same.refl _)
    walk_at "go"
    refine x_iteND (fun g1 => no (fun G => G.g1) g1 W (Same.refl _)) (fun g1 => ?_)
    have hfew := L.few
    have hhi := L.hi
    walk_at "go"
    refine lc_map PyData.bool (fun a : Arc => decide (a.r < 0)) W h1 (by omega) (fun a S' H' R acc N hz W' hS E => kn_tup fun u hu => ?_) (fun S1 H1 v1 W1 hS1 hv1 => ?_)
    · walk_at "go"
      walk_at "ly"
    walk_at "go"
    refine x_ite (fun ha => ?_) (fun ha => ?_)
    · refine no (z := ∀ a ∈ as, 0 ≤ a.r) (fun G => G.pos) (fun h => ?_) W1 hS1
      obtain ⟨b, hb, e1⟩ := List.any_eq_true.mp ha
      obtain ⟨a, hm, rfl⟩ := List.mem_map.mp hb
      have := of_decide_eq_true e1
      have := h a hm
      omega
    have pos : ∀ a ∈ as, 0 ≤ a.r := fun a hm => by
      have h2 := List.any_eq_false.mp ha (decide (a.r < 0)) (List.mem_map.mpr ⟨a, hm, rfl⟩)
      simp at h2
      exact h2
    have G : GoodG P as s g := ⟨L, hne, s0, s1, g0, g1, pos⟩
    walk_at "go"
    refine x_own W1 (by simp) (fun p0 H2 W2 => ?_)
    walk_at "go"
    refine x_repI W2 (by rw [List.length_map]; omega) (by rw [List.length_map]; omega) (fun S3 H3 p W3 hS3 => ?_)
    have e0 : ((as.map arcD).length : Int).toNat = as.length := by rw [List.length_map]; exact Int.toNat_natCast _
    rw [e0] at W3
    have hx3 : Dp K S3 x (.list (as.map arcD)) := dp_mono (by walk_at "same") h1
    walk_at "go"
    refine .mk 0 W3 rfl hx3 List.length_replicate (by omega) L.arcs s0 s1 (by omega) (fun S4 H4 q kvs found idx W4 hS4 hq hD R C => ?_)
    have F0 := flow_none (as := as) (s := s) (g := g) pos
    refine x_while (fun m σ' H' => ∃ S', ∃ ms : List Int, ∃ kvs : List (Int × V), ∃ found : List (Int × Ent), ∃ idx : Int → Nat, ∃ q : Addr, ∃ z6 z7 z8 z9 : Option V,
        σ' = [some (.int P), some x, some (.int s), some (.int g), some (.ref p), some (.ref q), z6, z7, z8, z9] ∧ Wd K S' H' ((p, .lst (ms.map V.int)) :: O) ∧ Same S3 S' ∧ S' q = some (mkD kvs) ∧ DKV K S' entD kvs found ∧ Reach P as ms s idx found ∧ Closed as ms found [] ∧
        Flow as s g ms ∧ m = (rooms as - into (as.zip ms) g).toNat) _ ⟨S4, _, kvs, found, idx, q, _, _, _, _, rfl, W4, hS4, hq, hD, R, C, F0, rfl⟩ ?_
    clear hD R C F0 hq W4 hS4
    rintro m σ' H' ⟨S', ms, kvs, found, idx, q, z6, z7, z8, z9, rfl, W', hS', hq, hD, R, C, F, rfl⟩
    walk_at "go"
    refine x_dinH (W'.sub _ _ hq) hD ?_
    walk_at "go"
    refine x_ite (fun hc => ?_) (fun hc => ?_)
    · refine x_again ?_
      obtain ⟨sts, hB, hW, hRm, hlen⟩ := back_ex R (idx g + 1) g (by omega) hc
      have hlt := R.lt g hc
      have hrl := reach_len R
      walk_at "go"
      refine .mk W' hq hD hB (by omega) (fun S5 H5 v5 W5 hS5 hv5 => ?_)
      walk_at "go"
      refine lc_map PyData.int (fun st : Step => st.m) W5 hv5 (by omega) (fun a S' H' R acc N hz W' hS E => kn_tup fun u hu => ?_) (fun S6 H6 v6 W6 hS6 hv6 => ?_)
      · walk_at "go"
        walk_at "ly"
      walk_at "go"
      refine x_min W6 hv6 (by rw [List.length_map]; exact way_ne hW hne) (fun much hm1 hm2 => ?_)
      have hm2' : ∀ st ∈ sts, much ≤ st.m := fun st h => hm2 _ (List.mem_map.mpr ⟨st, h, rfl⟩)
      have hmb : 0 < much ∧ much ≤ 10 ^ 30 := by
        obtain ⟨st, h, rfl⟩ := List.mem_map.mp hm1
        have r := hRm st h
        obtain ⟨pl, o⟩ := way_orient hW st h
        have b := F.bd st.k.toNat (by have := o.k0; have := o.k1; omega)
        rw [Int.toNat_of_nonneg o.k0] at b
        have c := hr' _ (nth_mem o.k0 o.k1)
        have := r.pos
        rcases r.most with ⟨_, z⟩ | ⟨_, z⟩ <;> omega
      walk_at "go"
      refine x_forD (dp_mono hS6 hv5) (fun i σ' H' => ∃ S7, ∃ z8 : Option V, σ' = [some (.int P), some x, some (.int s), some (.int g), some (.ref p), some (.ref q), some v5, some (.int much), z8, z9] ∧ Wd K S7 H' ((p, .lst ((aug much ms (sts.take i)).map V.int)) :: O) ∧ Same S6 S7)
        ⟨S6, _, rfl, W6, Same.refl _⟩ (fun i σ' H' ⟨S7, z8, _, W7, hS7⟩ => hS7.trans W7.sub) ?_ ?_
      · rintro i st σ' H' ei ⟨S7, z8, rfl, W7, hS7⟩
        refine kn_tup fun u hu => ?_
        have hu7 := dp_mono hS7 hu
        obtain ⟨pl, o⟩ := way_orient hW st (List.mem_of_getElem? ei)
        have k0 := o.k0
        have k1 := o.k1
        have hal : (aug much ms (sts.take i)).length = as.length := by rw [aug_len]; exact F.len
        have hmul : CMulW much st.d := cmulw_of (a := 110) (b := 2) (show _ < _ by omega) (by rcases o.ends with ⟨z, _⟩ | ⟨z, _⟩ <;> rw [z] <;> decide)
        walk_at "go"
        refine x_setM 0 W7 rfl k0 (by omega) (fun H8 W8 => ?_)
        refine ⟨S7, _, rfl, ?_, hS7⟩
        rw [aug_take ei]
        exact W8
      · rintro σ' H' ⟨S7, z8, rfl, W7, hS7⟩
        rw [List.take_length] at W7
        have F' := flow_aug F hW hRm (by omega) hm2'
        walk_at "go"
        refine .mk 0 W7 rfl (by walk_at "is") F'.len (by omega) L.arcs s0 s1 (by omega) (fun S8 H8 q8 kvs8 found8 idx8 W8 hS8 hq8 hD8 R8 C8 => ?_)
        refine ⟨_, ?_, S8, _, kvs8, found8, idx8, q8, _, _, _, _, rfl, W8, by walk_at "same", hq8, hD8, R8, C8, F', rfl⟩
        have e1 := into_aug (much := much) (v := g) hW F.len
        rw [if_pos rfl, if_neg hne] at e1
        have e2 := into_le (v := g) F'.len (zip_bd (C := fun a m => 0 ≤ m ∧ m ≤ a.r) F'.len F'.bd)
        omega
    · have hrl := reach_len R
      walk_at "go"
      refine x_sortedD W' (W'.sub _ _ hq) hD (by omega) (fun S5 H5 v5 ys W5 hS5 hv5 pm le => ?_)
      walk_at "go"
      refine x_giveI W5 (fun S6 W6 hS6 hv6 => ?_)
      walk_at "go"
      exact k G _ _ _ _ _ (by assumption) (by walk_at "same") (by assumption) (great_of F L.arcs R C hc g0 g1 pm le)
end
section
variable {P : Program} {w : World} {K : PySem.W.Frag} {mg : Str → Option Value} {base : Heap} {d : Ad}
inductive Sp_Ways_init (K : PySem.W.Frag) (C : Addr) : List V → Hp → VK → XK → Prop
  | mk {S : Hp} {O : List (Addr × HO)} {p dx : Addr} {P s : Int} {x : V} {H : Hp} {Q : VK} {E : XK} (W : Wd K S H ((p, .ins C dx []) :: (dx, .own p) :: O)) (h0 : 0 ≤ P) (h1 : P ≤ 1000) (s0 : 0 ≤ s) (s1 : s < P)
    (k : ∀ S' H' l m, Wd K S' H' ((m, .lst ((List.replicate P.toNat (none : Option Int)).map oV)) :: (l, .lst (((List.replicate P.toNat (none : Option Int)).set s.toNat (some 0)).map oV)) :: (p, .ins C dx (wFs x l m)) :: (dx, .own p) :: O) → Same S S' → Q .non H') :
    Sp_Ways_init K C [.ref p, .int P, x, .int s] H Q E
theorem ok_Ways_init (T : Txt K mg d) : FnOk P w K mg base CX0 1 d.a_Ways_init d.f_Ways_init ["self", "places", "arcs", "start"] (Sp_Ways_init K d.c_Ways) := by
  refine T.F_Ways_init.ok sc_Ways_init (fun vs H Q E h => ?_) (fun cdv A outer s H vs Q E hr h => ?_)
  · cases h; rfl
  · have hu := hu_of hr
    obtain ⟨W, h0, h1, s0, s1, k⟩ := h
    rename_i S O p dx P s x
    refine ⟨_, (pss_cons (ps_fld (pv 0) (pv 2) rfl)
      (pss_cons (ps_fld (pv 0) (pe_op op_rep (pe_lst (pa_cons pe_non pa_nil)) (pv 1)) rfl)
      (pss_cons (ps_fld (pv 0) (pe_op op_rep (pe_lst (pa_cons pe_non pa_nil)) (pv 1)) rfl)
      (pss_one (ps_asg pe_int (pg_sub (pe_fld (pv 0) rfl) (pv 3) set_list)))))), ?_⟩
    try dsimp only [cxK, cxw, cxprog]
    walk_at "go"
    refine x_fldO 0 W rfl T.c_Ways T.n_Ways_arcs (by decide) (fun H1 W1 => ?_)
    walk_at "go"
    refine x_own W1 (by simp) (fun q H2 W2 => ?_)
    walk_at "go"
    refine x_rep W2 (by omega) (by omega) (fun S3 H3 l W3 hS3 => ?_)
    walk_at "go"
    have e1 : putF (Str.ofString "lengths") (.ref l) (putF (Str.ofString "arcs") x []) = ([("arcs", x), ("lengths", .ref l)] : List (Str × V)) := putF_at (f := Str.ofString "lengths") (g := Str.ofString "arcs") (by decide)
    refine x_fldO 1 W3 rfl T.c_Ways T.n_Ways_lengths (by simp [putF]) (fun H4 W4 => ?_)
    rw [e1] at W4
    walk_at "go"
    refine x_own W4 (by simp) (fun q2 H5 W5 => ?_)
    walk_at "go"
    refine x_rep W5 (by omega) (by omega) (fun S6 H6 m W6 hS6 => ?_)
    walk_at "go"
    have e2 : putF (Str.ofString "last") (.ref m) ([("arcs", x), ("lengths", .ref l)] : List (Str × V)) = wFs x l m := (putF_at (f := Str.ofString "last") (g := Str.ofString "arcs") (by decide)).trans (by rw [putF_at (f := Str.ofString "last") (g := Str.ofString "lengths") (by decide)]; rfl)
    refine x_fldO 2 W6 rfl T.c_Ways T.n_Ways_last (by simp) (fun H7 W7 => ?_)
    rw [e2] at W7
    walk_at "go"
    refine x_fldrO (v := .ref l) 2 W7 rfl T.c_Ways T.n_Ways_lengths (by rfl) ?_
    walk_at "go"
    have hi : ixN (List.replicate P.toNat V.non).length s = some s.toNat := ixN_of s0 (by rw [List.length_replicate]; omega)
    refine x_setO 1 W7 rfl hi (fun H8 W8 => ?_)
    have f1 : (List.replicate P.toNat (none : Option Int)).map oV = List.replicate P.toNat V.non := List.map_replicate
    have f2 : ((List.replicate P.toNat (none : Option Int)).set s.toNat (some 0)).map oV = (List.replicate P.toNat V.non).set s.toNat (.int 0) := by rw [List.map_set, f1]
    refine k S6 _ l m ?_ (by walk_at "same")
    rw [f1, f2]
    exact W8
end
section
variable {P : Program} {w : World} {K : PySem.W.Frag} {mg : Str → Option Value} {base : Heap} {d : Ad}
inductive Sp_Ways_shorten (K : PySem.W.Frag) (C : Addr) : List V → Hp → VK → XK → Prop
  | mk {S : Hp} {O : List (Addr × HO)} {p dx l m : Addr} {P : Int} {as : List Arc} {L A : List (Option Int)} {x : V} {H : Hp} {Q : VK} {E : XK}
    (W : Wd K S H ((m, .lst (A.map oV)) :: (l, .lst (L.map oV)) :: (p, .ins C dx (wFs x l m)) :: (dx, .own p) :: O)) (h1 : Dp K S x (.list (as.map arcD))) (hl : as.length ≤ 1000) (ok : ∀ a ∈ as, ArcOk P a) (lL : L.length = P.toNat) (lA : A.length = P.toNat)
    (k : ∀ H', Wd K S H' ((m, .lst ((bfN as ⟨L, A, none⟩ as.length).A.map oV)) :: (l, .lst ((bfN as ⟨L, A, none⟩ as.length).L.map oV)) :: (p, .ins C dx (wFs x l m)) :: (dx, .own p) :: O) → Q (oV (bfN as ⟨L, A, none⟩ as.length).f) H') :
    Sp_Ways_shorten K C [.ref p] H Q E
theorem ok_Ways_shorten (T : Txt K mg d) : FnOk P w K mg base CX0 1 d.a_Ways_shorten d.f_Ways_shorten ["self"] (Sp_Ways_shorten K d.c_Ways) := by
  refine T.F_Ways_shorten.ok sc_Ways_shorten (fun vs H Q E h => ?_) (fun cdv A outer s H vs Q E hr h => ?_)
  · cases h; rfl
  · have hu := hu_of hr
    obtain ⟨W, h1, hl, ok, lL, lA, k⟩ := h
    rename_i S O p dx l m P as L A x
    have cW := T.c_Ways
    have n1 := T.n_Ways_arcs
    have n2 := T.n_Ways_lengths
    have n3 := T.n_Ways_last
    refine ⟨_, (pss_cons (ps_set (i := 1) sc_Ways_shorten.nd rfl (by first | exact Or.inl rfl | exact Or.inr rfl) pe_non)
      (pss_cons (ps_for PassesOwn.never rfl (pi_range1 (by rfl) T.b_range (pa_cons (pe_callB (lena (K := K) (by rfl)) (by rfl) T.b_len (by decide +kernel) (pa_cons (pe_fld (pv 0) rfl) pa_nil)) pa_nil)) (pg_name (i := 2) sc_Ways_shorten.nd rfl (by first | exact Or.inl rfl | exact Or.inr rfl)) (pss_cons (ps_set (i := 3) sc_Ways_shorten.nd rfl (by first | exact Or.inl rfl | exact Or.inr rfl) (pe_ix (ixa (K := K) (by rfl)) (pe_fld (pv 0) rfl) (pv 2) (fun _ _ => rfl)))
      (pss_cons (ps_set (i := 4) sc_Ways_shorten.nd rfl (by first | exact Or.inl rfl | exact Or.inr rfl) (pe_ix (ixa (K := K) (by rfl)) (pe_fld (pv 0) rfl) (pe_ix (ixa (K := K) (by rfl)) (pv 3) pe_int (fun _ _ => rfl)) (fun _ _ => rfl)))
      (pss_one (ps_if (pt_cmpR ol_notN (pv 4) pe_non (nomark _)) (pss_cons (ps_set (i := 5) sc_Ways_shorten.nd rfl (by first | exact Or.inl rfl | exact Or.inr rfl) (pe_ix (ixa (K := K) (by rfl)) (pe_fld (pv 0) rfl) (pe_ix (ixa (K := K) (by rfl)) (pv 3) pe_int (fun _ _ => rfl)) (fun _ _ => rfl)))
      (pss_one (ps_if (PW.pt (pw_or (pt_cmpR ol_isN (pv 5) pe_non (nomark _)) (pw_or1 (pt_cmpR op_lt (pe_op op_add (pv 4) (pe_ix (ixa (K := K) (by rfl)) (pv 3) pe_int (fun _ _ => rfl))) (pv 5) (nomark _))))) (pss_cons (ps_asg (pe_op op_add (pv 4) (pe_ix (ixa (K := K) (by rfl)) (pv 3) pe_int (fun _ _ => rfl))) (pg_sub (pe_fld (pv 0) rfl) (pe_ix (ixa (K := K) (by rfl)) (pv 3) pe_int (fun _ _ => rfl)) set_list))
      (pss_cons (ps_asg (pv 2) (pg_sub (pe_fld (pv 0) rfl) (pe_ix (ixa (K := K) (by rfl)) (pv 3) pe_int (fun _ _ => rfl)) set_list))
      (pss_one (ps_set (i := 1) sc_Ways_shorten.nd rfl (by first | exact Or.inl rfl | exact Or.inr rfl) (pe_ix (ixa (K := K) (by rfl)) (pv 3) pe_int (fun _ _ => rfl)))))) pss_nil))) pss_nil)))))
      (pss_one (ps_ret (pv 1))))), ?_⟩
    try dsimp only [cxK, cxw, cxprog]
    walk_at "go"
    refine x_forNL (fun i σ' H' => ∃ z2 z3 z4 z5 : Option V, σ' = [some (.ref p), some (oV (bfN as ⟨L, A, none⟩ i).f), z2, z3, z4, z5] ∧ Wd K S H' ((m, .lst ((bfN as ⟨L, A, none⟩ i).A.map oV)) :: (l, .lst ((bfN as ⟨L, A, none⟩ i).L.map oV)) :: (p, .ins d.c_Ways dx (wFs x l m)) :: (dx, .own p) :: O))
      (by omega) ⟨_, _, _, _, rfl, W⟩ ?_ ?_
    · rintro i σ' H' hi ⟨z2, z3, z4, z5, rfl, W'⟩
      have hlen := bfN_len (as := as) (b := ⟨L, A, none⟩) (i := i)
      have hsucc := bfN_succ (as := as) (b := ⟨L, A, none⟩) (i := i)
      rw [hsucc]
      clear hsucc
      generalize bfN as ⟨L, A, none⟩ i = b at *
      obtain ⟨L', A', f'⟩ := b
      dsimp only at hlen W' ⊢
      obtain ⟨a0, a1, a2, a3⟩ := ok (nth as i) (nth_mem (by omega) (by omega))
      have hr : ∀ w, better L' (nth as (i : Int)) = w → relax as ⟨L', A', f'⟩ i = match w with | none => ⟨L', A', f'⟩ | some w => ⟨L'.set (nth as (i : Int)).t.toNat (some w), A'.set (nth as (i : Int)).t.toNat (some (i : Int)), some (nth as (i : Int)).t⟩ := fun w e => by
        subst e
        rfl
      walk_at "go"
      refine x_ixOO 1 W' rfl a0 (by omega) ?_
      walk_at "go"
      refine x_iteNN (fun y hy => ?_) (fun hn => ?_)
      · simp only [hy]
        walk_at "go"
        refine x_ixOO 1 W' rfl a2 (by omega) ?_
        walk_at "go"
        refine x_iteIN (fun ht => ?_) (fun z ht => ?_)
        · rw [hr (some (y + (nth as (i : Int)).c)) (by unfold better; rw [hy, ht])]
          walk_at "go"
          refine x_setOO 1 W' rfl a2 (by omega) (fun H3 W3 => ?_)
          walk_at "go"
          refine x_setOO 0 W3 rfl a2 (by omega) (fun H4 W4 => ?_)
          walk_at "go"
          exact ⟨_, _, _, _, rfl, W4⟩
        · simp only [ht]
          walk_at "go"
          refine x_iteD (fun hlt => ?_) (fun hge => ?_)
          · rw [hr (some (y + (nth as (i : Int)).c)) (by unfold better; rw [hy, ht]; exact if_pos hlt)]
            walk_at "go"
            refine x_setOO 1 W' rfl a2 (by omega) (fun H3 W3 => ?_)
            walk_at "go"
            refine x_setOO 0 W3 rfl a2 (by omega) (fun H4 W4 => ?_)
            walk_at "go"
            exact ⟨_, _, _, _, rfl, W4⟩
          · rw [hr none (by unfold better; rw [hy, ht]; exact if_neg hge)]
            walk_at "go"
            exact ⟨_, _, _, _, rfl, W'⟩
      · rw [hr none (by unfold better; rw [hn])]
        walk_at "go"
        exact ⟨_, _, _, _, rfl, W'⟩
    · rintro σ' H' ⟨z2, z3, z4, z5, rfl, W'⟩
      walk_at "go"
      exact k _ W'
end
section
variable {P : Program} {w : World} {K : PySem.W.Frag} {mg : Str → Option Value} {base : Heap} {d : Ad}
inductive Sp_Ways_ring (K : PySem.W.Frag) (C : Addr) : List V → Hp → VK → XK → Prop
  | mk {S : Hp} {O : List (Addr × HO)} {p dx l m : Addr} {P s v y : Int} {as : List Arc} {L A : List (Option Int)} {x : V} {H : Hp} {Q : VK} {E : XK}
    (W : Wd K S H ((m, .lst (A.map oV)) :: (l, .lst (L.map oV)) :: (p, .ins C dx (wFs x l m)) :: (dx, .own p) :: O)) (h1 : Dp K S x (.list (as.map arcD))) (hl : as.length ≤ 1000) (hP : 0 ≤ P) (hP2 : P ≤ 1000) (ok : ∀ a ∈ as, ArcOk P a) (I : BInv P as s L A)
    (v0 : 0 ≤ v) (v1 : v < P) (hy : nth L v = some y) (hA : ∀ n, nth A (upN as A n v) ≠ none) (hp : ∃ p, 0 < p ∧ p ≤ P.toNat ∧ upN as A p (upN as A P.toNat v) = upN as A P.toNat v)
    (k : ∀ S' H' u ks, Wd K S' H' ((m, .lst (A.map oV)) :: (l, .lst (L.map oV)) :: (p, .ins C dx (wFs x l m)) :: (dx, .own p) :: O) → Same S S' → Dp K S' u (.list (ks.map PyData.int)) → RingOk as s ks → ks.length ≤ P.toNat → Q u H') :
    Sp_Ways_ring K C [.ref p, .int v] H Q E
theorem ok_Ways_ring (T : Txt K mg d) : FnOk P w K mg base CX0 1 d.a_Ways_ring d.f_Ways_ring ["self", "place"] (Sp_Ways_ring K d.c_Ways) := by
  refine T.F_Ways_ring.ok sc_Ways_ring (fun vs H Q E h => ?_) (fun cdv A outer s H vs Q E hr h => ?_)
  · cases h; rfl
  · have hu := hu_of hr
    obtain ⟨W, h1, hl, hP, hP2, ok, I, v0, v1, hy, hA, hp, k⟩ := h
    rename_i S O p dx l m P s v y as L A x
    have cW := T.c_Ways
    have n1 := T.n_Ways_arcs
    have n2 := T.n_Ways_lengths
    have n3 := T.n_Ways_last
    have lL := I.lenL
    have lA := I.lenA
    refine ⟨_, (pss_cons (ps_for PassesOwn.never rfl (pi_range1 (by rfl) T.b_range (pa_cons (pe_callB (lena (K := K) (by rfl)) (by rfl) T.b_len (by decide +kernel) (pa_cons (pe_fld (pv 0) rfl) pa_nil)) pa_nil)) (pg_name (i := 2) sc_Ways_ring.nd rfl (by first | exact Or.inl rfl | exact Or.inr rfl)) (pss_one (ps_set (i := 1) sc_Ways_ring.nd rfl (by first | exact Or.inl rfl | exact Or.inr rfl) (pe_ix (ixa (K := K) (by rfl)) (pe_ix (ixa (K := K) (by rfl)) (pe_fld (pv 0) rfl) (pe_ix (ixa (K := K) (by rfl)) (pe_fld (pv 0) rfl) (pv 1) (fun _ _ => rfl)) (fun _ _ => rfl)) pe_int (fun _ _ => rfl)))))
      (pss_cons (ps_set (i := 3) sc_Ways_ring.nd rfl (by first | exact Or.inl rfl | exact Or.inr rfl) (pe_lst pa_nil))
      (pss_cons (ps_set (i := 4) sc_Ways_ring.nd rfl (by first | exact Or.inl rfl | exact Or.inr rfl) (pv 1))
      (pss_cons (ps_while PassesOwn.never (PW.pt (pw_or (pt_not (trutha (K := K) (by rfl) (pv 3) (by intro _; rfl))) (pw_or1 (pt_cmpR op_ne (pv 4) (pv 1) (nomark _))))) (pss_cons (ps_expr (pe_bm PySem.F.plainAttrs_list PySem.F.slot_list_insert PySem.F.type_list_insert mt_ins (pv 3) (pa_cons pe_int (pa_cons (pe_ix (ixa (K := K) (by rfl)) (pe_fld (pv 0) rfl) (pv 4) (fun _ _ => rfl)) pa_nil))))
      (pss_one (ps_set (i := 4) sc_Ways_ring.nd rfl (by first | exact Or.inl rfl | exact Or.inr rfl) (pe_ix (ixa (K := K) (by rfl)) (pe_ix (ixa (K := K) (by rfl)) (pe_fld (pv 0) rfl) (pe_ix (ixa (K := K) (by rfl)) (pe_fld (pv 0) rfl) (pv 4) (fun _ _ => rfl)) (fun _ _ => rfl)) pe_int (fun _ _ => rfl))))))
      (pss_one (ps_ret (pv 3))))))), ?_⟩
    try dsimp only [cxK, cxw, cxprog]
    walk_at "go"
    refine x_forNL (fun i σ' H' => ∃ z2 : Option V, σ' = [some (.ref p), some (.int (upN as A i v)), z2, none, none] ∧ H' = H)
      (by omega) ⟨_, rfl, rfl⟩ ?_ ?_
    · rintro i σ' H' hi ⟨z2, rfl, rfl⟩
      obtain ⟨r0, r1, _⟩ := upN_rng ok I (n := i) v0 v1 hy
      have hn := hA i
      have hs := upN_succ (as := as) (A := A) (n := i) (v := v)
      cases e : nth A (upN as A i v) with
      | none => exact absurd e hn
      | some j =>
        obtain ⟨j0, j1, _⟩ := I.par _ j r0 e
        rw [up_some e] at hs
        walk_at "go"
        refine x_ixOS 0 W rfl r0 (by omega) e ?_
        walk_at "go"
        exact ⟨_, by rw [hs]; rfl, rfl⟩
    · rintro σ' H' ⟨z2, rfl, rfl⟩
      rw [lL]
      obtain ⟨r0, r1, y', hy'⟩ := upN_rng ok I (n := P.toNat) v0 v1 hy
      have hA' : ∀ n, nth A (upN as A n (upN as A P.toNat v)) ≠ none := fun n => by rw [← upN_add]; exact hA _
      clear hA hy v0 v1
      generalize upN as A P.toNat v = w at *
      obtain ⟨t, ht0, htP, ht⟩ := hp
      walk_at "go"
      refine x_own W (by simp) (fun q H1 W1 => ?_)
      walk_at "go"
      refine x_while (fun mm σ' H' => ∃ n : Nat, ∃ ks : List Int, σ' = [some (.ref p), some (.int w), z2, some (.ref q), some (.int (upN as A n w))] ∧ Wd K S H' ((q, .lst (ks.map V.int)) :: (m, .lst (A.map oV)) :: (l, .lst (L.map oV)) :: (p, .ins d.c_Ways dx (wFs x l m)) :: (dx, .own p) :: O) ∧ RowOk as A w n ks ∧ n ≤ t ∧ mm = t - n) _
        ⟨0, [], rfl, W1, row_nil, Nat.zero_le _, rfl⟩ ?_
      rintro mm σ' H' ⟨n, ks, rfl, W', R, hn, rfl⟩
      refine x_cutT (decide (n = 0 ∨ upN as A n w ≠ w)) (fun Q' hQ => ?_) ?_
      · walk_at "go"
        have hk : (ks.map V.int).isEmpty = decide (n = 0) := by
          have := R.len
          cases ks with
          | nil => simp at this; simp [← this]
          | cons a r => simp at this; simp [← this]
        rw [hk]
        by_cases h0 : n = 0
        · subst h0
          walk_at "go"
          exact hQ
        · rw [decide_eq_false h0]
          refine x_no rfl ?_
          walk_at "go"
          have e : decide (n = 0 ∨ upN as A n w ≠ w) = (!decide (upN as A n w = w)) := by simp [h0]
          rw [← e]
          exact hQ
      · refine x_iteD (fun hc => ?_) (fun hc => ?_)
        · have hnt : n < t := by
            by_cases e : n = t
            · subst e
              rcases hc with hc | hc
              · omega
              · exact absurd ht hc
            · omega
          refine x_again ?_
          obtain ⟨u0, u1, _⟩ := upN_rng ok I (n := n) r0 r1 hy'
          cases e : nth A (upN as A n w) with
          | none => exact absurd e (hA' n)
          | some j =>
            obtain ⟨j0, j1, _⟩ := I.par _ j u0 e
            have hs := upN_succ (as := as) (A := A) (n := n) (v := w)
            rw [up_some e] at hs
            walk_at "go"
            refine x_ixOS 1 W' rfl u0 (by omega) e ?_
            walk_at "go"
            refine x_ins0 0 W' rfl (by have := R.len; rw [List.length_map]; omega) (fun H2 W2 => ?_)
            walk_at "go"
            refine x_ixOS 1 W2 rfl u0 (by omega) e ?_
            walk_at "go"
            exact ⟨_, by omega, n + 1, j :: ks, by rw [hs]; rfl, W2, row_cons I u0 R e, hnt, rfl⟩
        · have h0 : n ≠ 0 := fun e => hc (.inl e)
          have h1' : upN as A n w = w := Classical.byContradiction fun e => hc (.inr e)
          refine x_giveI W' (fun S3 W3 hS3 hv => ?_)
          walk_at "go"
          exact k S3 _ _ ks W3 hS3 hv (ring_of ok I r0 hy' hA' R (by omega) h1') (by have := R.len; omega)
end
section
variable {P : Program} {w : World} {K : PySem.W.Frag} {mg : Str → Option Value} {base : Heap} {d : Ad}
abbrev nearD : Near → PyData
  | .ways L A => .tuple [.str "ways", .list (L.map oD), .list (A.map oD)]
  | .ring ks => .tuple [.str "ring", .list (ks.map PyData.int), .list []]
inductive Sp_nearest (K : PySem.W.Frag) (C : Addr) : List V → Hp → VK → XK → Prop
  | mk {S : Hp} {O : List (Addr × HO)} {P s : Int} {as : List Arc} {x : V} {H : Hp} {Q : VK} {E : XK} (W : Wd K S H O) (h1 : Dp K S x (.list (as.map arcD)))
    (e : ¬ GoodN P as s → ∀ S' H', Wd K S' H' O → Same S S' → E (.ref C) none H')
    (k : GoodN P as s → ∀ S' H' v r, Wd K S' H' O → Same S S' → Dp K S' v (nearD r) → NearOk P as s r → Q v H') : Sp_nearest K C [.int P, x, .int s] H Q E
theorem ok_nearest (T : Txt K mg d) : FnOk P w K mg base (L2.CX P w) 4 d.a_nearest d.f_nearest ["places", "arcs", "start"] (Sp_nearest K d.c_NoNetwork) := by
  refine T.F_nearest.okX sc_nearest (fun vs H Q E h => ?_) (fun cdv A outer s H vs Q E hr h => ?_)
  · cases h; rfl
  · have hu := hu_of hr
    obtain ⟨W, h1, e, k⟩ := h
    rename_i S O P s as x
    have cW := T.c_Ways
    have n1 := T.n_Ways_arcs
    have n2 := T.n_Ways_lengths
    have n3 := T.n_Ways_last
    refine ⟨_, (pss_cons (ps_expr (pe_call (ok_look T) (hr.mono (by decide)) (by rfl) T.g_look T.k_look T.p_look .nil (passes_call (takes_of rfl rfl rfl rfl) (fun _ _ _ _ h => h)) (pa_cons (pv 0) (pa_cons (pv 1) pa_nil))))
      (pss_cons (ps_if (pt_not (pt_chain op_le op_lt pe_int (pv 2) (pv 0))) (pss_one (ps_raise rfl (takes_of rfl rfl rfl rfl) (pmk_own PySem.F.excBase_ValueError T.x_NoNetwork T.g_NoNetwork T.k_NoNetwork (raises_own T.s_NoNetwork T.t_NoNetwork) (by exact rfl)))) pss_nil)
      (pss_cons (ps_set (i := 3) sc_nearest.nd rfl (by first | exact Or.inl rfl | exact Or.inr rfl) (pe_make T.m_Ways (ok_Ways_init T) (hr.mono (by decide)) (by rfl) T.g_Ways T.p_Ways_init .nil pass0 (pa_cons (pv 0) (pa_cons (pv 1) (pa_cons (pv 2) pa_nil)))))
      (pss_cons (ps_set (i := 4) sc_nearest.nd rfl (by first | exact Or.inl rfl | exact Or.inr rfl) (pv 2))
      (pss_cons (ps_for (passes_of rfl) rfl (pi_range1 (by rfl) T.b_range (pa_cons (pv 0) pa_nil)) (pg_name (i := 5) sc_nearest.nd rfl (by first | exact Or.inl rfl | exact Or.inr rfl)) (pss_cons (ps_set (i := 4) sc_nearest.nd rfl (by first | exact Or.inl rfl | exact Or.inr rfl) (pe_meth0 (pv 3) T.c_Ways T.h_Ways_shorten (ok_Ways_shorten T) (hr.mono (by decide)) T.p_Ways_shorten .nil pass0))
      (pss_one (ps_if (pt_cmpR ol_isN (pv 4) pe_non (nomark _)) (pss_one (ps_ret (pe_tup (pa_cons pe_str (pa_cons (pe_fld (pv 3) rfl) (pa_cons (pe_fld (pv 3) rfl) pa_nil)))))) pss_nil))))
      (pss_one (ps_ret (pe_tup (pa_cons pe_str (pa_cons (pe_meth (pv 3) T.c_Ways T.h_Ways_ring (ok_Ways_ring T) (hr.mono (by decide)) T.p_Ways_ring .nil pass0 (pa_cons (pv 4) pa_nil)) (pa_cons (pe_lst pa_nil) pa_nil))))))))))), ?_⟩
    try dsimp only [cxK, cxw, cxprog]
    have no : ∀ {z : Prop}, (GoodN P as s → z) → ¬ z → ∀ {S' H' : Hp}, Wd K S' H' O → Same S S' → E (.ref d.c_NoNetwork) none H' := fun {z} h n {S' H'} W hS => e (fun l => n (h l)) S' H' W hS
    walk_at "go"
    refine .mk W h1 (fun n => no (fun G => G.look) n W (Same.refl _)) (fun G => ?_)
    walk_at "go"
    refine x_iteD (fun s0 => ?_) (fun s0 => ?_)
    rotate_left
    · walk_at "go"
      exact no (fun G => G.s0) s0 W (Same.refl _)
    walk_at "go"
    refine x_iteND (fun s1 => no (fun G => G.s1) s1 W (Same.refl _)) (fun s1 => ?_)
    have hlo := G.lo
    have hhi := G.hi
    have hfew := G.few
    have ok := G.arcs
    have GN : GoodN P as s := ⟨G, s0, s1⟩
    walk_at "go"
    refine x_make ?_
    walk_at "go"
    refine x_mak W (fun p dx H1 W1 => ?_)
    refine .mk W1 (by omega) (by omega) s0 s1 (fun S2 H2 l m W2 hS2 => ?_)
    refine ⟨rfl, ?_⟩
    walk_at "go"
    refine x_forN (fun i σ' H' => ∃ (L A : List (Option Int)) (tm : Int → Nat), ∃ z4 z5 : Option V, σ' = [some (.int P), some x, some (.int s), some (.ref p), z4, z5] ∧
        Wd K S2 H' ((m, .lst (A.map oV)) :: (l, .lst (L.map oV)) :: (p, .ins d.c_Ways dx (wFs x l m)) :: (dx, .own p) :: O) ∧ BInv P as s L A ∧ RInv as s L A tm i 0 ∧
        (0 < i → RInv as s L A tm (i - 1) as.length ∧ ∃ v y, z4 = some (.int v) ∧ 0 ≤ v ∧ v < P ∧ nth L v = some y ∧ tm v = i)) ⟨by omega, by omega⟩
      ⟨_, _, _, _, _, rfl, W2, binv_first s0 s1, rinv_first, fun h => absurd h (Nat.lt_irrefl _)⟩ ?_ ?_
    · rintro i σ' H' hi ⟨L, A, tm, z4, z5, rfl, W', I, R, _⟩
      have hx' := dp_mono hS2 h1
      obtain ⟨tm', D⟩ := rnd_all ok (by omega) s0 I R as.length (Nat.le_refl _)
      walk_at "go"
      refine x_mthO 2 W' rfl rfl ?_
      walk_at "go"
      refine .mk W' hx' (by omega) ok I.lenL I.lenA (fun H3 W3 => ?_)
      generalize bfN as ⟨L, A, none⟩ as.length = b at *
      walk_at "go"
      refine x_iteIN (fun hf => ?_) (fun v hf => ?_)
      · obtain ⟨e1, e2, hst⟩ := D.none hf
        rw [e1, e2] at W3
        walk_at "go"
        refine x_giveO W3 (fun S4 W4 hS4 hm => ?_)
        refine x_giveO W4 (fun S5 W5 hS5 hl => ?_)
        have W6 := W5.give 0 rfl
        have hS6 := same_new (W5.atS 0 rfl) (o := .ins d.c_Ways dx (wFs x l m))
        have W7 := W6.give 0 rfl
        have hS7 := same_new (W6.atS 0 rfl) (o := .own p)
        refine x_tup (ds := [.str "ways", .list (L.map oD), .list (A.map oD)]) W7 (.cons (.str _) (.cons (by walk_at "is") (.cons (by walk_at "is") .nil))) (by simp) (fun S8 H8 v8 W8 hS8 hv8 => ?_)
        exact k GN _ _ _ (.ways L A) W8 (by walk_at "same") hv8 ⟨I, ⟨hst⟩⟩
      · obtain ⟨v0, v1, hv, y, hy⟩ := D.some v hf
        walk_at "go"
        refine ⟨b.L, b.A, tm', _, _, rfl, W3, D.I, rinv_next D.R, fun _ => ⟨D.R, v, y, by rw [hf], v0, v1, hy, hv⟩⟩
    · rintro σ' H' ⟨L, A, tm, z4, z5, rfl, W', I, R, hR⟩
      have hx' := dp_mono hS2 h1
      obtain ⟨R', v, y, rfl, v0, v1, hy, hv⟩ := hR (by omega)
      have hq : P.toNat = P.toNat - 1 + 1 := by omega
      obtain ⟨hA, hp⟩ := late_all ok (by omega) I R' (Nat.le_refl _) hq v0 v1 hy (by omega)
      walk_at "go"
      refine x_mthO 2 W' rfl rfl ?_
      walk_at "go"
      refine .mk W' hx' (by omega) (by omega) (by omega) ok I v0 v1 hy hA hp (fun S3 H3 u ks W3 hS3 hu hK hKl => ?_)
      have W4 := W3.give 0 rfl
      have hS4 := same_new (W3.atS 0 rfl) (o := .lst (A.map oV))
      have W5 := W4.give 0 rfl
      have hS5 := same_new (W4.atS 0 rfl) (o := .lst (L.map oV))
      have W6 := W5.give 0 rfl
      have hS6 := same_new (W5.atS 0 rfl) (o := .ins d.c_Ways dx (wFs x l m))
      have W7 := W6.give 0 rfl
      have hS7 := same_new (W6.atS 0 rfl) (o := .own p)
      walk_at "go"
      refine x_lst (ds := []) W7 .nil (by simp) (fun S8 H8 v8 W8 hS8 hv8 => ?_)
      walk_at "go"
      rename_i S9 H9 v9 W9 hS9 hv9
      exact k GN _ _ _ (.ring ks) (by assumption) (by walk_at "same") (by assumption) ⟨hK, hKl⟩
end
section
variable {P : Program} {w : World} {K : PySem.W.Frag} {mg : Str → Option Value} {base : Heap} {d : Ad}
inductive Sp_root_of (K : PySem.W.Frag) : List V → Hp → VK → XK → Prop
  | mk {S : Hp} {O : List (Addr × HO)} {P : Int} {ab : List Int} {r : Int → Int} {dd : Int → Nat} {p : Addr} {v : Int} {H : Hp} {Q : VK} {E : XK} (n : Nat) (W : Wd K S H O) (hp : O[n]? = some (p, .lst (ab.map V.int))) (U : UpOk P ab r dd) (hv : In P v)
    (k : Q (.int (r v)) H) : Sp_root_of K [.ref p, .int v] H Q E
theorem ok_root_of (T : Txt K mg d) : FnOk P w K mg base CX0 1 d.a_root_of d.f_root_of ["above", "place"] (Sp_root_of K) := by
  refine T.F_root_of.ok sc_root_of (fun vs H Q E h => ?_) (fun cdv A outer s H vs Q E hr h => ?_)
  · cases h; rfl
  · have hu := hu_of hr
    obtain ⟨n, W, hp, U, hv, k⟩ := h
    rename_i S O P ab r dd p v
    have hl := U.len
    refine ⟨_, (pss_cons (ps_while PassesOwn.never (pt_cmpR op_ne (pe_ix (ixa (K := K) (by rfl)) (pv 0) (pv 1) (fun _ _ => rfl)) (pv 1) (nomark _)) (pss_one (ps_set (i := 1) sc_root_of.nd rfl (by first | exact Or.inl rfl | exact Or.inr rfl) (pe_ix (ixa (K := K) (by rfl)) (pv 0) (pv 1) (fun _ _ => rfl)))))
      (pss_one (ps_ret (pv 1)))), ?_⟩
    try dsimp only [cxK, cxw, cxprog]
    walk_at "go"
    refine x_while (fun m σ' H' => ∃ u : Int, σ' = [some (.ref p), some (.int u)] ∧ H' = H ∧ In P u ∧ r u = r v ∧ m = dd u) _ ⟨v, rfl, rfl, hv, rfl, rfl⟩ ?_
    rintro m σ' H' ⟨u, rfl, rfl, hu, hr, rfl⟩
    obtain ⟨i1, i2⟩ := U.pt u hu
    obtain ⟨u0, u1⟩ := hu
    walk_at "go"
    refine x_iteND (fun hne => ?_) (fun he => ?_)
    · refine x_again ?_
      walk_at "go"
      rcases i2 with ⟨e1, _⟩ | ⟨_, e2, e3⟩
      · exact absurd e1 hne
      · exact ⟨_, e3, _, rfl, rfl, i1, by rw [e2]; exact hr, rfl⟩
    · rcases i2 with ⟨_, e2⟩ | ⟨e1, _⟩
      · walk_at "go"
        rw [← hr, e2] at k
        exact k
      · exact absurd he e1
end
section
variable {P : Program} {w : World} {K : PySem.W.Frag} {mg : Str → Option Value} {base : Heap} {d : Ad}
inductive Sp_joined (K : PySem.W.Frag) (C : Addr) : List V → Hp → VK → XK → Prop
  | mk {S : Hp} {O : List (Addr × HO)} {P : Int} {as : List Arc} {x : V} {H : Hp} {Q : VK} {E : XK} (W : Wd K S H O) (h1 : Dp K S x (.list (as.map arcD)))
    (e : ¬ LookOk P as → ∀ S' H', Wd K S' H' O → Same S S' → E (.ref C) none H')
    (k : LookOk P as → ∀ S' H' v ks zs, Wd K S' H' O → Same S S' → Dp K S' v (.list (zs.map PyData.int)) → JoinOk as P ks zs → Q v H') : Sp_joined K C [.int P, x] H Q E
theorem ok_joined (T : Txt K mg d) : FnOk P w K mg base (L2.CX P w) 4 d.a_joined d.f_joined ["places", "arcs"] (Sp_joined K d.c_NoNetwork) := by
  refine T.F_joined.okX sc_joined (fun vs H Q E h => ?_) (fun cdv A outer s H vs Q E hr h => ?_)
  · cases h; rfl
  · have hu := hu_of hr
    obtain ⟨W, h1, e, k⟩ := h
    rename_i S O P as x
    refine ⟨_, (pss_cons (ps_expr (pe_call (ok_look T) (hr.mono (by decide)) (by rfl) T.g_look T.k_look T.p_look .nil (passes_call (takes_of rfl rfl rfl rfl) (fun _ _ _ _ h => h)) (pa_cons (pv 0) (pa_cons (pv 1) pa_nil))))
      (pss_cons (ps_set (i := 2) sc_joined.nd rfl (by first | exact Or.inl rfl | exact Or.inr rfl) (pe_listRg rfl (by rfl) T.b_list (prg_1 (by rfl) T.b_range (pv 0))))
      (pss_cons (ps_set (i := 3) sc_joined.nd rfl (by first | exact Or.inl rfl | exact Or.inr rfl) (pe_lst pa_nil))
      (pss_cons (ps_for (passes_of rfl) rfl (pi_list (pe_callB (cl_sortPS (K := K) (by rfl)) (by rfl) T.b_sorted (by decide +kernel) (pa_cons (pe_lc (own := [("k", 5)]) rfl sc_joined.nd (pi_range1 (by rfl) T.b_range (pa_cons (pe_callB (lena (K := K) (by rfl)) (by rfl) T.b_len (by decide +kernel) (pa_cons (pv 1) pa_nil)) pa_nil)) (blkOk_by (by first | decide +kernel | exact Eq.refl true)) (fun _ _ _ _ _ => pg_name (i := 5) sc_joined.nd rfl (by first | exact Or.inl rfl | exact Or.inr rfl)) (fun _ _ _ _ _ => pts_nil) (fun _ _ _ _ _ => (pe_tup (pa_cons (pe_ix (ixa (K := K) (by rfl)) (pe_ix (ixa (K := K) (by rfl)) (pv 1) (pv 5) (fun _ _ => rfl)) pe_int (fun _ _ => rfl)) (pa_cons (pv 5) pa_nil))))) pa_nil))) (pg_name (i := 4) sc_joined.nd rfl (by first | exact Or.inl rfl | exact Or.inr rfl)) (pss_cons (ps_set (i := 5) sc_joined.nd rfl (by first | exact Or.inl rfl | exact Or.inr rfl) (pe_ix (ixa (K := K) (by rfl)) (pv 4) pe_int (fun _ _ => rfl)))
      (pss_cons (ps_set (i := 6) sc_joined.nd rfl (by first | exact Or.inl rfl | exact Or.inr rfl) (pe_call (ok_root_of T) (hr.mono (by decide)) (by rfl) T.g_root_of T.k_root_of T.p_root_of .nil pass0 (pa_cons (pv 2) (pa_cons (pe_ix (ixa (K := K) (by rfl)) (pe_ix (ixa (K := K) (by rfl)) (pv 1) (pv 5) (fun _ _ => rfl)) pe_int (fun _ _ => rfl)) pa_nil))))
      (pss_cons (ps_set (i := 7) sc_joined.nd rfl (by first | exact Or.inl rfl | exact Or.inr rfl) (pe_call (ok_root_of T) (hr.mono (by decide)) (by rfl) T.g_root_of T.k_root_of T.p_root_of .nil pass0 (pa_cons (pv 2) (pa_cons (pe_ix (ixa (K := K) (by rfl)) (pe_ix (ixa (K := K) (by rfl)) (pv 1) (pv 5) (fun _ _ => rfl)) pe_int (fun _ _ => rfl)) pa_nil))))
      (pss_one (ps_if (pt_cmpR op_ne (pv 6) (pv 7) (nomark _)) (pss_cons (ps_asg (pv 7) (pg_sub (pv 2) (pv 6) set_list))
      (pss_one (ps_expr (pe_bm PySem.F.plainAttrs_list PySem.F.slot_list_append PySem.F.type_list_append mt_append (pv 3) (pa_cons (pv 5) pa_nil))))) pss_nil))))))
      (pss_one (ps_ret (pe_callB cr_sortedI (by rfl) T.b_sorted (by decide +kernel) (pa_cons (pv 3) pa_nil)))))))), ?_⟩
    try dsimp only [cxK, cxw, cxprog]
    walk_at "go"
    refine .mk W h1 (fun n => e n _ _ W (Same.refl _)) (fun L => ?_)
    have hlo := L.lo
    have hhi := L.hi
    have hfew := L.few
    have ok := L.arcs
    have inn : ∀ j : Int, 0 ≤ j ∧ j < as.length → In P (nth as j).s ∧ In P (nth as j).t := fun j hj => by
      have a := ok _ (nth_mem hj.1 hj.2)
      exact ⟨⟨a.s0, a.s1⟩, a.t0, a.t1⟩
    walk_at "go"
    refine x_rgO W (by omega) (by omega) (fun p1 H1 W1 => ?_)
    walk_at "go"
    refine x_own W1 (by simp) (fun p2 H2 W2 => ?_)
    walk_at "go"
    refine lcr_map prD (fun z : Nat => ((nth as (z : Int)).c, (z : Int))) W2 ⟨by omega, by rw [List.length_map]; omega⟩ (fun z S' H' R acc N hz W' hS E => ?_) (fun S3 H3 v3 W3 hS3 hv3 => ?_)
    · have hx' : Dp K S' x (.list (as.map arcD)) := by walk_at "is"
      have hz' : z < as.length := by
        rw [List.length_map] at hz
        omega
      walk_at "go"
      walk_at "ly"
    walk_at "go"
    rw [List.length_map, Int.toNat_natCast] at hv3
    refine x_sortP W3 hv3 (fun S4 H4 v4 qs W4 hS4 hv4 pm up => ?_)
    have qc : ∀ q ∈ qs, 0 ≤ q.2 ∧ q.2 < as.length ∧ q.1 = (nth as q.2).c := fun q hq => by
      obtain ⟨z, hz, rfl⟩ := List.mem_map.mp (pm.mem_iff.mp hq)
      have := List.mem_range.mp hz
      exact ⟨by dsimp only; omega, by dsimp only; omega, rfl⟩
    have OK : OrdOk as (qs.map (·.2)) := by
      refine ⟨?_, ?_⟩
      · have := pm.map (·.2)
        rw [List.map_map] at this
        unfold rng0
        rw [Int.toNat_natCast]
        exact this
      · rw [List.pairwise_map]
        refine up.imp_of_mem fun {a b} ha hb h => ?_
        have a1 := (qc a ha).2.2
        have b1 := (qc b hb).2.2
        unfold lexL
        omega
    have hx4 : Dp K S4 x (.list (as.map arcD)) := by walk_at "is"
    generalize hks : qs.map (·.2) = ks at OK
    refine x_forD (f := prD) hv4 (fun i σ' H' => ∃ (ab : List Int) (r : Int → Int) (dd : Int → Nat), ∃ z4 z5 z6 z7 : Option V, σ' = [some (.int P), some x, some (.ref p1), some (.ref p2), z4, z5, z6, z7] ∧
        Wd K S4 H' ((p2, .lst ((kr as P (ks.take i)).map V.int)) :: (p1, .lst (ab.map V.int)) :: O) ∧ UpOk P ab r dd ∧ Ker P r (grp as P (kr as P (ks.take i))) ∧ (kr as P (ks.take i)).length ≤ i)
      ⟨_, _, _, _, _, _, _, rfl, W4, up_first, ker_first, Nat.le_refl _⟩ (fun i σ' H' ⟨_, _, _, _, _, _, _, _, W', _⟩ => W'.sub) ?_ ?_
    · rintro i q σ' H' ei ⟨ab, r, dd, z4, z5, z6, z7, rfl, W', U, KR, hlen⟩
      refine kn_tup fun u hu => ?_
      have hq := qc q (List.mem_of_getElem? ei)
      have ek : ks[i]? = some q.2 := by rw [← hks, List.getElem?_map, ei]; rfl
      have hil := (List.getElem?_eq_some_iff.mp ek).1
      have hkl : ks.length = as.length := by
        rw [OK.perm.length_eq]
        unfold rng0
        simp
      rw [kr_take ek]
      obtain ⟨is, it⟩ := inn q.2 ⟨hq.1, hq.2.1⟩
      obtain ⟨q0, q1, _⟩ := hq
      have kst := KR _ _ is it
      have hl := U.len
      generalize kr as P (ks.take i) = F at *
      walk_at "go"
      refine .mk 1 W' rfl U is ?_
      walk_at "go"
      refine .mk 1 W' rfl U it ?_
      walk_at "go"
      refine x_iteND (fun hne => ?_) (fun he => ?_)
      · obtain ⟨d', U'⟩ := up_join U is it hne
        have rs := (up_root U _ _ (Nat.lt_succ_self _) is).1
        have e1 : krStep as P F q.2 = F ++ [q.2] := if_neg fun e => hne (kst.mpr e)
        have KR' := ker_step grp_len KR is it
        rw [e1]
        walk_at "go"
        refine x_setM 1 W' rfl rs.1 (by have := rs.1; have := rs.2; omega) (fun H5 W5 => ?_)
        walk_at "go"
        refine x_app 0 W5 rfl (by rw [List.length_map]; omega) (fun H6 W6 => ?_)
        walk_at "go"
        refine ⟨_, _, d', _, _, _, _, rfl, ?_, U', ?_, by rw [List.length_append, List.length_singleton]; omega⟩
        · rw [List.map_append]
          exact W6
        · rw [grp_app]
          exact KR'
      · have e1 : krStep as P F q.2 = F := if_pos (kst.mp he)
        rw [e1]
        walk_at "go"
        exact ⟨ab, r, dd, _, _, _, _, rfl, W', U, KR, by omega⟩
    · rintro σ' H' ⟨ab, r, dd, z4, z5, z6, z7, rfl, W', U, KR, hlen⟩
      have e2 : ks.take qs.length = ks := List.take_of_length_le (by rw [← hks, List.length_map]; exact Nat.le_refl _)
      rw [e2] at W'
      walk_at "go"
      refine x_srtO 0 W' rfl (fun S7 H7 v7 zs W7 hS7 hv7 pm2 le2 => ?_)
      have W8 := W7.give 0 rfl
      have hS8 := same_new (W7.atS 0 rfl) (o := .lst ((kr as P ks).map V.int))
      have W9 := W8.give 0 rfl
      have hS9 := same_new (W8.atS 0 rfl) (o := .lst (ab.map V.int))
      exact k L _ _ _ ks zs W9 (by walk_at "same") (by walk_at "is") (join_of OK pm2 le2)
end
section
variable {P : Program} {w : World} {K : PySem.W.Frag} {mg : Str → Option Value} {base : Heap} {d : Ad}
inductive Sp_as_arcs_differences (K : PySem.W.Frag) : List V → Hp → VK → XK → Prop
  | mk {S : Hp} {O : List (Addr × HO)} {n : Int} {bs : List Bnd} {x : V} {H : Hp} {Q : VK} {E : XK} (W : Wd K S H O) (h1 : Dp K S x (.list (bs.map bndD))) (hl : bs.length ≤ 1000) (hn : -1000 ≤ n) (hn2 : n ≤ 1000)
    (k : ∀ S' H' v, Wd K S' H' O → Same S S' → Dp K S' v (.list ((dArcs n bs).map arcD)) → Q v H') : Sp_as_arcs_differences K [.int n, x] H Q E
theorem ok_as_arcs_differences (T : Txt K mg d) : FnOk P w K mg base CX0 1 d.a_as_arcs_differences d.f_as_arcs_differences ["many", "bounds"] (Sp_as_arcs_differences K) := by
  refine T.F_as_arcs_differences.ok sc_as_arcs_differences (fun vs H Q E h => ?_) (fun cdv A outer s H vs Q E hr h => ?_)
  · cases h; rfl
  · have hu := hu_of hr
    obtain ⟨W, h1, hl, hn, hn2, k⟩ := h
    rename_i S O n bs x
    refine ⟨_, (pss_cons (ps_setLc (i := 2) (own := [("bound", 3)]) rfl sc_as_arcs_differences.nd rfl rfl (sw_true rfl rfl rfl (by decide +kernel)) (pi_list (pv 1)) (blkOk_by (by first | decide +kernel | exact Eq.refl true)) (fun _ _ _ _ _ => pg_name (i := 3) sc_as_arcs_differences.nd rfl (by first | exact Or.inl rfl | exact Or.inr rfl)) (fun _ _ _ _ _ => pts_nil) (fun _ _ _ _ _ => (pe_tup (pa_cons (pe_ix (ixa (K := K) (by rfl)) (pv 3) pe_int (fun _ _ => rfl)) (pa_cons (pe_ix (ixa (K := K) (by rfl)) (pv 3) pe_int (fun _ _ => rfl)) (pa_cons pe_int (pa_cons (pe_ix (ixa (K := K) (by rfl)) (pv 3) pe_int (fun _ _ => rfl)) pa_nil)))))))
      (pss_one (ps_ret (pe_op op_catS (pv 2) (pe_lc (own := [("k", 4)]) rfl sc_as_arcs_differences.nd (pi_range1 (by rfl) T.b_range (pa_cons (pv 0) pa_nil)) (blkOk_by (by first | decide +kernel | exact Eq.refl true)) (fun _ _ _ _ _ => pg_name (i := 4) sc_as_arcs_differences.nd rfl (by first | exact Or.inl rfl | exact Or.inr rfl)) (fun _ _ _ _ _ => pts_nil) (fun _ _ _ _ _ => (pe_tup (pa_cons (pv 0) (pa_cons (pv 4) (pa_cons pe_int (pa_cons pe_int pa_nil))))))))))), ?_⟩
    try dsimp only [cxK, cxw, cxprog]
    walk_at "go"
    refine lc_map arcD (fun b : Bnd => (⟨b.b, b.a, 0, b.m⟩ : Arc)) W h1 (by omega) (fun b S' H' R acc N hz W' hS E => kn_tup fun u hu => ?_) (fun S1 H1 v1 W1 hS1 hv1 => ?_)
    · walk_at "go"
      walk_at "ly"
    walk_at "go"
    refine lcr_map arcD (fun z : Nat => (⟨n, (z : Int), 0, 0⟩ : Arc)) W1 ⟨by omega, by omega⟩ (fun z S' H' R acc N hz W' hS E => ?_) (fun S2 H2 v2 W2 hS2 hv2 => ?_)
    · walk_at "go"
      walk_at "ly"
    walk_at "go"
    refine x_catS W2 (dp_mono hS2 hv1) hv2 (by simp; omega) (fun S3 H3 v3 W3 hS3 hv3 => ?_)
    have e : (dArcs n bs).map arcD = (bs.map fun b => (⟨b.b, b.a, 0, b.m⟩ : Arc)).map arcD ++ ((List.range n.toNat).map fun z : Nat => (⟨n, (z : Int), 0, 0⟩ : Arc)).map arcD := by
      unfold dArcs
      rw [List.map_append]
    refine k S3 H3 v3 W3 (by walk_at "same") ?_
    rw [e]
    exact hv3
end
section
variable {P : Program} {w : World} {K : PySem.W.Frag} {mg : Str → Option Value} {base : Heap} {d : Ad}
abbrev numD : Num → PyData
  | .num xs => .tuple [.str "numbers", .list (xs.map PyData.int)]
  | .ring ks => .tuple [.str "ring", .list (ks.map PyData.int)]
inductive Sp_numbers_for (K : PySem.W.Frag) (C : Addr) : List V → Hp → VK → XK → Prop
  | mk {S : Hp} {O : List (Addr × HO)} {n : Int} {bs : List Bnd} {x : V} {H : Hp} {Q : VK} {E : XK} (W : Wd K S H O) (h1 : Dp K S x (.list (bs.map bndD))) (hl : bs.length ≤ 1000) (hn2 : n ≤ 1000)
    (e : ¬ GoodD n bs → ∀ S' H', Wd K S' H' O → Same S S' → E (.ref C) none H')
    (k : GoodD n bs → ∀ S' H' v r, Wd K S' H' O → Same S S' → Dp K S' v (numD r) → NumAll n bs r → Q v H') : Sp_numbers_for K C [.int n, x] H Q E
theorem ok_numbers_for (T : Txt K mg d) : FnOk P w K mg base (L2.CX P w) 5 d.a_numbers_for d.f_numbers_for ["many", "bounds"] (Sp_numbers_for K d.c_NoNetwork) := by
  refine T.F_numbers_for.okX sc_numbers_for (fun vs H Q E h => ?_) (fun cdv A outer s H vs Q E hr h => ?_)
  · cases h; rfl
  · have hu := hu_of hr
    obtain ⟨W, h1, hl, hn2, e, k⟩ := h
    rename_i S O n bs x
    refine ⟨_, (pss_cons (ps_if (PW.pt (pw_or (pt_cmpR op_lt (pv 0) pe_int (nomark _)) (pw_or1 (pt_cmpR op_gt (pe_callB (lena (K := K) (by rfl)) (by rfl) T.b_len (by decide +kernel) (pa_cons (pv 1) pa_nil)) (pe_globI (by rfl) T.g_MOST_BOUNDS) (nomark _))))) (pss_one (ps_raise rfl (takes_of rfl rfl rfl rfl) (pmk_own PySem.F.excBase_ValueError T.x_NoNetwork T.g_NoNetwork T.k_NoNetwork (raises_own T.s_NoNetwork T.t_NoNetwork) (by exact rfl)))) pss_nil)
      (pss_cons (ps_expr (pe_call (ok_look T) (hr.mono (by decide)) (by rfl) T.g_look T.k_look T.p_look .nil (passes_call (takes_of rfl rfl rfl rfl) (fun _ _ _ _ h => h)) (pa_cons (pe_op op_add (pv 0) pe_int) (pa_cons (pe_call (ok_as_arcs_differences T) (hr.mono (by decide)) (by rfl) T.g_as_arcs_differences T.k_as_arcs_differences T.p_as_arcs_differences .nil pass0 (pa_cons (pv 0) (pa_cons (pv 1) pa_nil))) pa_nil))))
      (pss_cons (ps_if (pt_val (pe_callB (anya (K := K) (by rfl) rfl) (by rfl) T.b_any (by decide +kernel) (pa_cons (pe_lc (own := [("bound", 3)]) rfl sc_numbers_for.nd (pi_list (pv 1)) (blkOk_by (by first | decide +kernel | exact Eq.refl true)) (fun _ _ _ _ _ => pg_name (i := 3) sc_numbers_for.nd rfl (by first | exact Or.inl rfl | exact Or.inr rfl)) (fun _ _ _ _ _ => pts_nil) (fun _ _ _ _ _ => (pe_cmpR (ina (K := K) (by rfl)) (pv 0) (pe_tup (pa_cons (pe_ix (ixa (K := K) (by rfl)) (pv 3) pe_int (fun _ _ => rfl)) (pa_cons (pe_ix (ixa (K := K) (by rfl)) (pv 3) pe_int (fun _ _ => rfl)) pa_nil))) (by rfl)))) pa_nil))) (pss_one (ps_raise rfl (takes_of rfl rfl rfl rfl) (pmk_own PySem.F.excBase_ValueError T.x_NoNetwork T.g_NoNetwork T.k_NoNetwork (raises_own T.s_NoNetwork T.t_NoNetwork) (by exact rfl)))) pss_nil)
      (pss_cons (ps_set (i := 2) sc_numbers_for.nd rfl (by first | exact Or.inl rfl | exact Or.inr rfl) (pe_call (ok_nearest T) (hr.mono (by decide)) (by rfl) T.g_nearest T.k_nearest T.p_nearest .nil (passes_call (takes_of rfl rfl rfl rfl) (fun _ _ _ _ h => h)) (pa_cons (pe_op op_add (pv 0) pe_int) (pa_cons (pe_call (ok_as_arcs_differences T) (hr.mono (by decide)) (by rfl) T.g_as_arcs_differences T.k_as_arcs_differences T.p_as_arcs_differences .nil pass0 (pa_cons (pv 0) (pa_cons (pv 1) pa_nil))) (pa_cons (pv 0) pa_nil)))))
      (pss_cons (ps_if (pt_cmpR op_eq (pe_ix (ixa (K := K) (by rfl)) (pv 2) pe_int (fun _ _ => rfl)) pe_str (nomark _)) (pss_one (ps_ret (pe_tup (pa_cons pe_str (pa_cons (pe_ix (ixa (K := K) (by rfl)) (pv 2) pe_int (fun _ _ => rfl)) pa_nil))))) pss_nil)
      (pss_one (ps_ret (pe_tup (pa_cons pe_str (pa_cons (pe_slice (slLa (K := K) (by rfl)) (pe_ix (ixa (K := K) (by rfl)) (pv 2) pe_int (fun _ _ => rfl)) po_none (po_some (pv 0))) pa_nil)))))))))), ?_⟩
    try dsimp only [cxK, cxw, cxprog]
    have no : ∀ {z : Prop}, (GoodD n bs → z) → ¬ z → ∀ {S' H' : Hp}, Wd K S' H' O → Same S S' → E (.ref d.c_NoNetwork) none H' := fun {z} h n {S' H'} W hS => e (fun l => n (h l)) S' H' W hS
    walk_at "go"
    refine x_iteD (fun h => no (fun G => G.n0) (by omega) W (Same.refl _)) (fun h0 => ?_)
    walk_at "go"
    refine x_iteD (fun h => no (fun G => G.few) (by rw [List.length_map] at h; omega) W (Same.refl _)) (fun hf => ?_)
    rw [List.length_map] at hf
    walk_at "go"
    refine .mk W h1 hl (by omega) hn2 (fun S1 H1 v1 W1 hS1 hv1 => ?_)
    walk_at "go"
    refine .mk W1 hv1 (fun h => no (fun G => G.look) h W1 hS1) (fun LK => ?_)
    have hx1 := dp_mono hS1 h1
    walk_at "go"
    refine lc_map PyData.bool (fun b : Bnd => decide (n ∈ [b.a, b.b])) W1 hx1 (by omega) (fun b S' H' R acc N hz W' hS E => kn_tup fun u hu => ?_) (fun S2 H2 v2 W2 hS2 hv2 => ?_)
    · walk_at "go"
      refine x_inT (ns := [b.a, b.b]) (by assumption) (by assumption) ?_
      walk_at "ly"
    walk_at "go"
    refine x_ite (fun hh => no (fun G => G.no) (fun hno => ?_) W2 (by walk_at "same")) (fun hh => ?_)
    · obtain ⟨c, hc, e1⟩ := List.any_eq_true.mp hh
      obtain ⟨b, hb, rfl⟩ := List.mem_map.mp hc
      have := hno b hb
      simp at e1
      omega
    have G : GoodD n bs := ⟨by omega, by omega, LK, fun b hb => by
      have h2 := List.any_eq_false.mp hh (decide (n ∈ [b.a, b.b])) (List.mem_map.mpr ⟨b, hb, rfl⟩)
      simp at h2
      omega⟩
    walk_at "go"
    refine .mk W2 (by walk_at "is") hl (by omega) hn2 (fun S3 H3 v3 W3 hS3 hv3 => ?_)
    walk_at "go"
    refine .mk W3 hv3 (fun h => absurd (good_near G) h) (fun _ S4 H4 v4 r W4 hS4 hv4 NO => ?_)
    cases r with
    | ring ks =>
      walk_at "go"
      refine x_iteD (fun _ => ?_) (fun h => absurd rfl h)
      walk_at "go"
      exact k G _ _ _ (.ring ks) (by assumption) (by walk_at "same") (by assumption) (dring_of G NO.1 (by have := NO.2; have := G.look.hi; omega))
    | ways L A =>
      obtain ⟨xs, e1, e2⟩ := num_of G NO
      walk_at "go"
      refine x_iteD (fun h => absurd h (by decide)) (fun _ => ?_)
      walk_at "go"
      refine x_slL W4 (by assumption) (fun S5 H5 v5 W5 hS5 hv5 => ?_)
      rw [cutD_to (by omega), ← List.map_take, e1] at hv5
      clear hv4
      have hv5' : Dp K S5 v5 (.list (xs.map PyData.int)) := by
        rw [List.map_map] at hv5
        exact hv5
      clear hv5
      walk_at "go"
      exact k G _ _ _ (.num xs) (by assumption) (by walk_at "same") (by assumption) e2
end
section
variable {P : Program} {w : World} {K : PySem.W.Frag} {mg : Str → Option Value} {base : Heap} {d : Ad}
inductive Sp_as_arcs_pairing (K : PySem.W.Frag) : List V → Hp → VK → XK → Prop
  | mk {S : Hp} {O : List (Addr × HO)} {R C : Nat} {prs : List (Int × Int)} {x : V} {H : Hp} {Q : VK} {E : XK} (W : Wd K S H O) (h1 : Dp K S x (.list (prs.map prD))) (hl : prs.length ≤ 1000) (hR : R ≤ 1000) (hC : C ≤ 1000)
    (k : ∀ S' H' v, Wd K S' H' O → Same S S' → Dp K S' v (.list ((pArcs R C prs).map arcD)) → Q v H') : Sp_as_arcs_pairing K [.int (R : Int), .int (C : Int), x] H Q E
theorem ok_as_arcs_pairing (T : Txt K mg d) : FnOk P w K mg base CX0 1 d.a_as_arcs_pairing d.f_as_arcs_pairing ["rows", "columns", "pairs"] (Sp_as_arcs_pairing K) := by
  refine T.F_as_arcs_pairing.ok sc_as_arcs_pairing (fun vs H Q E h => ?_) (fun cdv A outer s H vs Q E hr h => ?_)
  · cases h; rfl
  · have hu := hu_of hr
    obtain ⟨W, h1, hl, hR, hC, k⟩ := h
    rename_i S O R C prs x
    refine ⟨_, (pss_cons (ps_setLc (i := 3) (own := [("one", 4), ("other", 5)]) rfl sc_as_arcs_pairing.nd rfl rfl (sw_true rfl rfl rfl (by decide +kernel)) (pi_list (pv 2)) (blkOk_by (by first | decide +kernel | exact Eq.refl true)) (fun _ _ _ _ _ => tupa (n := 2) (K := K) (by rfl) rfl (pgs_cons (pg_name (i := 4) sc_as_arcs_pairing.nd rfl (by first | exact Or.inl rfl | exact Or.inr rfl)) (pgs_cons (pg_name (i := 5) sc_as_arcs_pairing.nd rfl (by first | exact Or.inl rfl | exact Or.inr rfl)) pgs_nil))) (fun _ _ _ _ _ => pts_nil) (fun _ _ _ _ _ => (pe_tup (pa_cons (pv 4) (pa_cons (pe_op op_add (pv 0) (pv 5)) (pa_cons pe_int (pa_cons pe_int pa_nil)))))))
      (pss_cons (ps_set (i := 3) sc_as_arcs_pairing.nd rfl (by first | exact Or.inl rfl | exact Or.inr rfl) (pe_op op_catS (pv 3) (pe_lc (own := [("k", 6)]) rfl sc_as_arcs_pairing.nd (pi_range1 (by rfl) T.b_range (pa_cons (pv 0) pa_nil)) (blkOk_by (by first | decide +kernel | exact Eq.refl true)) (fun _ _ _ _ _ => pg_name (i := 6) sc_as_arcs_pairing.nd rfl (by first | exact Or.inl rfl | exact Or.inr rfl)) (fun _ _ _ _ _ => pts_nil) (fun _ _ _ _ _ => (pe_tup (pa_cons (pe_op op_add (pv 0) (pv 1)) (pa_cons (pv 6) (pa_cons pe_int (pa_cons pe_int pa_nil)))))))))
      (pss_one (ps_ret (pe_op op_catS (pv 3) (pe_lc (own := [("k", 6)]) rfl sc_as_arcs_pairing.nd (pi_range1 (by rfl) T.b_range (pa_cons (pv 1) pa_nil)) (blkOk_by (by first | decide +kernel | exact Eq.refl true)) (fun _ _ _ _ _ => pg_name (i := 6) sc_as_arcs_pairing.nd rfl (by first | exact Or.inl rfl | exact Or.inr rfl)) (fun _ _ _ _ _ => pts_nil) (fun _ _ _ _ _ => (pe_tup (pa_cons (pe_op op_add (pv 0) (pv 6)) (pa_cons (pe_op op_add (pe_op op_add (pv 0) (pv 1)) pe_int) (pa_cons pe_int (pa_cons pe_int pa_nil)))))))))))), ?_⟩
    try dsimp only [cxK, cxw, cxprog]
    walk_at "go"
    refine lc_map arcD (fun p : Int × Int => (⟨p.1, R + p.2, 1, 0⟩ : Arc)) W h1 (by omega) (fun b S' H' Rr acc N hz W' hS E => kn_tup fun u hu => ?_) (fun S1 H1 v1 W1 hS1 hv1 => ?_)
    · refine x_lcb2 W' hu (kn_int (kn_int ?_))
      walk_at "go"
      walk_at "ly"
    walk_at "go"
    refine lcr_map arcD (fun z : Nat => (⟨(R : Int) + C, (z : Int), 1, 0⟩ : Arc)) W1 ⟨by omega, by omega⟩ (fun z S' H' Rr acc N hz W' hS E => ?_) (fun S2 H2 v2 W2 hS2 hv2 => ?_)
    · walk_at "go"
      walk_at "ly"
    walk_at "go"
    refine x_catS W2 (dp_mono hS2 hv1) hv2 (by simp; omega) (fun S3 H3 v3 W3 hS3 hv3 => ?_)
    walk_at "go"
    refine lcr_map arcD (fun z : Nat => (⟨(R : Int) + (z : Int), R + C + 1, 1, 0⟩ : Arc)) W3 ⟨by omega, by omega⟩ (fun z S' H' Rr acc N hz W' hS E => ?_) (fun S4 H4 v4 W4 hS4 hv4 => ?_)
    · walk_at "go"
      walk_at "ly"
    walk_at "go"
    refine x_catS W4 (dp_mono hS4 hv3) hv4 (by simp; omega) (fun S5 H5 v5 W5 hS5 hv5 => ?_)
    refine k S5 H5 v5 W5 (by walk_at "same") ?_
    have e : (pArcs R C prs).map arcD = ((prs.map fun p => (⟨p.1, R + p.2, 1, 0⟩ : Arc)).map arcD ++ ((List.range R).map fun z : Nat => (⟨(R : Int) + C, (z : Int), 1, 0⟩ : Arc)).map arcD) ++ ((List.range C).map fun z : Nat => (⟨(R : Int) + (z : Int), R + C + 1, 1, 0⟩ : Arc)).map arcD := by
      unfold pArcs
      rw [List.map_append, List.map_append]
    rw [e]
    rw [Int.toNat_natCast, Int.toNat_natCast] at hv5
    exact hv5
end
section
variable {P : Program} {w : World} {K : PySem.W.Frag} {mg : Str → Option Value} {base : Heap} {d : Ad}
abbrev pairedD (tk c0 c1 : List Int) : PyData := .tuple [.list (tk.map PyData.int), .tuple [.list (c0.map PyData.int), .list (c1.map PyData.int)]]
inductive Sp_paired (K : PySem.W.Frag) (C0 : Addr) : List V → Hp → VK → XK → Prop
  | mk {S : Hp} {O : List (Addr × HO)} {R C : Int} {prs : List (Int × Int)} {x : V} {H : Hp} {Q : VK} {E : XK} (W : Wd K S H O) (h1 : Dp K S x (.list (prs.map prD))) (hl : prs.length ≤ 1000)
    (e : ¬ GoodPI R C prs → ∀ S' H', Wd K S' H' O → Same S S' → E (.ref C0) none H')
    (k : GoodPI R C prs → ∀ S' H' v tk c0 c1, Wd K S' H' O → Same S S' → Dp K S' v (pairedD tk c0 c1) → PairOk R.toNat C.toNat prs tk c0 c1 → Q v H') : Sp_paired K C0 [.int R, .int C, x] H Q E
theorem ok_paired (T : Txt K mg d) : FnOk P w K mg base (L2.CX P w) 5 d.a_paired d.f_paired ["rows", "columns", "pairs"] (Sp_paired K d.c_NoNetwork) := by
  refine T.F_paired.okX sc_paired (fun vs H Q E h => ?_) (fun cdv A outer s H vs Q E hr h => ?_)
  · cases h; rfl
  · have hu := hu_of hr
    obtain ⟨W, h1, hl, e, k⟩ := h
    rename_i S O R C prs x
    refine ⟨_, (pss_cons (ps_if (PW.pt (pw_or (pt_not (pt_chain op_le op_le pe_int (pv 0) (pe_globI (by rfl) T.g_MOST_ROWS))) (pw_or (pt_not (pt_chain op_le op_le pe_int (pv 1) (pe_globI (by rfl) T.g_MOST_ROWS))) (pw_or1 (pt_cmpR op_gt (pe_callB (lena (K := K) (by rfl)) (by rfl) T.b_len (by decide +kernel) (pa_cons (pv 2) pa_nil)) (pe_globI (by rfl) T.g_MOST_PAIRS) (nomark _)))))) (pss_one (ps_raise rfl (takes_of rfl rfl rfl rfl) (pmk_own PySem.F.excBase_ValueError T.x_NoNetwork T.g_NoNetwork T.k_NoNetwork (raises_own T.s_NoNetwork T.t_NoNetwork) (by exact rfl)))) pss_nil)
      (pss_cons (ps_if (pt_not (pt_val (pe_callB (alla (K := K) (by rfl) rfl) (by rfl) T.b_all (by decide +kernel) (pa_cons (pe_lc (own := [("one", 8), ("other", 9)]) rfl sc_paired.nd (pi_list (pv 2)) (blkOk_by (by first | decide +kernel | exact Eq.refl true)) (fun _ _ _ _ _ => tupa (n := 2) (K := K) (by rfl) rfl (pgs_cons (pg_name (i := 8) sc_paired.nd rfl (by first | exact Or.inl rfl | exact Or.inr rfl)) (pgs_cons (pg_name (i := 9) sc_paired.nd rfl (by first | exact Or.inl rfl | exact Or.inr rfl)) pgs_nil))) (fun _ _ _ _ _ => pts_nil) (fun _ _ _ _ _ => (pe_and (pe_chain op_le op_lt pe_int (pv 8) (pv 0)) (pe_one (pe_chain op_le op_lt pe_int (pv 9) (pv 1)))))) pa_nil)))) (pss_one (ps_raise rfl (takes_of rfl rfl rfl rfl) (pmk_own PySem.F.excBase_ValueError T.x_NoNetwork T.g_NoNetwork T.k_NoNetwork (raises_own T.s_NoNetwork T.t_NoNetwork) (by exact rfl)))) pss_nil)
      (pss_cons (ps_set (i := 3) sc_paired.nd rfl (by first | exact Or.inl rfl | exact Or.inr rfl) (pe_call (ok_as_arcs_pairing T) (hr.mono (by decide)) (by rfl) T.g_as_arcs_pairing T.k_as_arcs_pairing T.p_as_arcs_pairing .nil pass0 (pa_cons (pv 0) (pa_cons (pv 1) (pa_cons (pv 2) pa_nil)))))
      (pss_cons (ps_set (i := 4) sc_paired.nd rfl (by first | exact Or.inl rfl | exact Or.inr rfl) (pe_call (ok_greatest T) (hr.mono (by decide)) (by rfl) T.g_greatest T.k_greatest T.p_greatest .nil (passes_call (takes_of rfl rfl rfl rfl) (fun _ _ _ _ h => h)) (pa_cons (pe_op op_add (pe_op op_add (pv 0) (pv 1)) pe_int) (pa_cons (pv 3) (pa_cons (pe_op op_add (pv 0) (pv 1)) (pa_cons (pe_op op_add (pe_op op_add (pv 0) (pv 1)) pe_int) pa_nil))))))
      (pss_cons (ps_setLc (i := 5) (own := [("k", 10)]) rfl sc_paired.nd rfl rfl (sw_true rfl rfl rfl (by decide +kernel)) (pi_range1 (by rfl) T.b_range (pa_cons (pe_callB (lena (K := K) (by rfl)) (by rfl) T.b_len (by decide +kernel) (pa_cons (pv 2) pa_nil)) pa_nil)) (blkOk_by (by first | decide +kernel | exact Eq.refl true)) (fun _ _ _ _ _ => pg_name (i := 10) sc_paired.nd rfl (by first | exact Or.inl rfl | exact Or.inr rfl)) (fun _ _ _ _ _ => pts_one (pt_cmpR op_eq (pe_ix (ixa (K := K) (by rfl)) (pe_ix (ixa (K := K) (by rfl)) (pv 4) pe_int (fun _ _ => rfl)) (pv 10) (fun _ _ => rfl)) pe_int (nomark _))) (fun _ _ _ _ _ => (pv 10)))
      (pss_cons (ps_set (i := 6) sc_paired.nd rfl (by first | exact Or.inl rfl | exact Or.inr rfl) (pe_ix (ixa (K := K) (by rfl)) (pv 4) pe_int (fun _ _ => rfl)))
      (pss_cons (ps_set (i := 7) sc_paired.nd rfl (by first | exact Or.inl rfl | exact Or.inr rfl) (pe_tup (pa_cons (pe_lc (own := [("k", 10)]) rfl sc_paired.nd (pi_range1 (by rfl) T.b_range (pa_cons (pv 0) pa_nil)) (blkOk_by (by first | decide +kernel | exact Eq.refl true)) (fun _ _ _ _ _ => pg_name (i := 10) sc_paired.nd rfl (by first | exact Or.inl rfl | exact Or.inr rfl)) (fun _ _ _ _ _ => pts_one (pt_cmpR (notIna (K := K) (by rfl)) (pv 10) (pv 6) (by rfl))) (fun _ _ _ _ _ => (pv 10))) (pa_cons (pe_lc (own := [("k", 10)]) rfl sc_paired.nd (pi_range1 (by rfl) T.b_range (pa_cons (pv 1) pa_nil)) (blkOk_by (by first | decide +kernel | exact Eq.refl true)) (fun _ _ _ _ _ => pg_name (i := 10) sc_paired.nd rfl (by first | exact Or.inl rfl | exact Or.inr rfl)) (fun _ _ _ _ _ => pts_one (pt_cmpR (ina (K := K) (by rfl)) (pe_op op_add (pv 0) (pv 10)) (pv 6) (by rfl))) (fun _ _ _ _ _ => (pv 10))) pa_nil))))
      (pss_one (ps_ret (pe_tup (pa_cons (pv 5) (pa_cons (pv 7) pa_nil)))))))))))), ?_⟩
    try dsimp only [cxK, cxw, cxprog]
    have no : ∀ {z : Prop}, (GoodPI R C prs → z) → ¬ z → ∀ {S' H' : Hp}, Wd K S' H' O → Same S S' → E (.ref d.c_NoNetwork) none H' := fun {z} h n {S' H'} W hS => e (fun l => n (h l)) S' H' W hS
    walk_at "go"
    refine x_iteD (fun r0 => ?_) (fun r0 => ?_)
    rotate_left
    · walk_at "go"
      exact no (fun G => G.r0) r0 W (Same.refl _)
    walk_at "go"
    refine x_iteND (fun r1 => no (fun G => G.r1) r1 W (Same.refl _)) (fun r1 => ?_)
    walk_at "go"
    refine x_iteD (fun c0 => ?_) (fun c0 => ?_)
    rotate_left
    · walk_at "go"
      exact no (fun G => G.c0) c0 W (Same.refl _)
    walk_at "go"
    refine x_iteND (fun c1 => no (fun G => G.c1) c1 W (Same.refl _)) (fun c1 => ?_)
    walk_at "go"
    refine x_iteD (fun hf => no (fun G => G.few) (by rw [List.length_map] at hf; omega) W (Same.refl _)) (fun hf => ?_)
    rw [List.length_map] at hf
    walk_at "go"
    refine lc_map PyData.bool (fun p : Int × Int => decide (0 ≤ p.1) && decide (p.1 < R) && decide (0 ≤ p.2) && decide (p.2 < C)) W h1 (by omega) (fun p S' H' Rr acc N hz W' hS E => kn_tup fun u hu => ?_) (fun S1 H1 v1 W1 hS1 hv1 => ?_)
    · refine x_lcb2 W' hu (kn_int (kn_int ?_))
      walk_at "go"
      refine x_iteD (fun h0 => ?_) (fun h0 => ?_)
      rotate_left
      · rw [decide_eq_false h0, Bool.false_and, Bool.false_and, Bool.false_and] at E
        walk_at "go"
        walk_at "ly"
      rw [decide_eq_true h0, Bool.true_and] at E
      walk_at "go"
      refine x_iteD (fun h1 => ?_) (fun h1 => ?_)
      rotate_left
      · rw [decide_eq_false h1, Bool.false_and, Bool.false_and] at E
        walk_at "go"
        walk_at "ly"
      rw [decide_eq_true h1, Bool.true_and] at E
      walk_at "go"
      refine x_iteD (fun h2 => ?_) (fun h2 => ?_)
      rotate_left
      · rw [decide_eq_false h2, Bool.false_and] at E
        walk_at "go"
        walk_at "ly"
      rw [decide_eq_true h2, Bool.true_and] at E
      walk_at "go"
      walk_at "ly"
    walk_at "go"
    refine x_iteN (fun hh => no (fun G => G.rng) (fun hno => ?_) W1 hS1) (fun hh => ?_)
    · have : ((prs.map fun p : Int × Int => decide (0 ≤ p.1) && decide (p.1 < R) && decide (0 ≤ p.2) && decide (p.2 < C)).all id) = true := by
        rw [List.all_eq_true]
        intro b hb
        obtain ⟨p, hp, rfl⟩ := List.mem_map.mp hb
        have := hno p hp
        simp [this.1, this.2.1, this.2.2.1, this.2.2.2]
      rw [this] at hh
      cases hh
    have G : GoodPI R C prs := ⟨r0, r1, c0, c1, by omega, fun p hp => by
      have := List.all_eq_true.mp hh _ (List.mem_map.mpr ⟨p, hp, rfl⟩)
      simp only [id, Bool.and_eq_true, decide_eq_true_eq] at this
      exact ⟨this.1.1.1, this.1.1.2, this.1.2, this.2⟩⟩
    clear no e
    obtain ⟨r, rfl⟩ : ∃ r : Nat, R = r := ⟨R.toNat, by omega⟩
    obtain ⟨c, rfl⟩ : ∃ c : Nat, C = c := ⟨C.toNat, by omega⟩
    have G' : GoodP r c prs := ⟨by omega, by omega, by omega, G.rng⟩
    walk_at "go"
    refine .mk W1 (by walk_at "is") hl (by omega) (by omega) (fun S2 H2 v2 W2 hS2 hv2 => ?_)
    walk_at "go"
    refine .mk W2 hv2 (fun a ha => ?_) (fun h => absurd (pa_good G') h) (fun _ S3 H3 vf ms side W3 hS3 hvf GR => ?_)
    · obtain ⟨j, hj⟩ := List.getElem?_of_mem ha
      rw [← nth_nat hj, pa_room (List.getElem?_eq_some_iff.mp hj).1]
      decide
    have PO := pair_ok G' GR (by omega)
    have hml : ms.length = (pArcs r c prs).length := GR.flow.len
    rw [pArcs_len] at hml
    have hx3 : Dp K S3 x (.list (prs.map prD)) := by walk_at "is"
    walk_at "go"
    refine lcr_filt PyData.int (fun k : Nat => decide (nth ms (k : Int) = 1)) (fun k : Nat => (k : Int)) W3 ⟨by omega, by rw [List.length_map]; omega⟩ (fun j S' H' Rr acc N hj W' hS E => ?_) (fun S4 H4 v4 W4 hS4 hv4 => ?_)
    · have hj' : j < prs.length := by
        rw [List.length_map] at hj
        omega
      walk_at "go"
      refine x_ite (fun hc => ?_) (fun hc => ?_)
      · walk_at "go"
        walk_at "lyp"
      · walk_at "lnp"
    rw [List.length_map, Int.toNat_natCast] at hv4
    walk_at "go"
    rename_i vs hvs
    refine lcr_filt PyData.int (fun k : Nat => !decide ((k : Int) ∈ side)) (fun k : Nat => (k : Int)) W4 ⟨by omega, by omega⟩ (fun j S' H' Rr acc N hj W' hS E => ?_) (fun S5 H5 v5 W5 hS5 hv5 => ?_)
    · walk_at "go"
      refine x_inL W' (by walk_at "is") ?_
      walk_at "go"
      refine x_ite (fun hc => ?_) (fun hc => ?_)
      · walk_at "go"
        walk_at "lyp"
      · walk_at "lnp"
    walk_at "go"
    refine lcr_filt PyData.int (fun k : Nat => decide ((r : Int) + (k : Int) ∈ side)) (fun k : Nat => (k : Int)) W5 ⟨by omega, by omega⟩ (fun j S' H' Rr acc N hj W' hS E => ?_) (fun S6 H6 v6 W6 hS6 hv6 => ?_)
    · walk_at "go"
      refine x_inL W' (by walk_at "is") ?_
      walk_at "go"
      refine x_ite (fun hc => ?_) (fun hc => ?_)
      · walk_at "go"
        walk_at "lyp"
      · walk_at "lnp"
    rw [Int.toNat_natCast] at hv5 hv6
    walk_at "go"
    exact k G _ _ _ _ _ _ (by assumption) (by walk_at "same") (by assumption) PO
end
section
variable {P : Program} {w : World} {K : PySem.W.Frag} {mg : Str → Option Value} {base : Heap} {d : Ad}
inductive Sp_law_asked (K : PySem.W.Frag) : List V → Hp → VK → XK → Prop
  | mk {S : Hp} {O : List (Addr × HO)} {w n s g : Int} {as : List Arc} {x : V} {H : Hp} {Q : VK} {E : XK} (W : Wd K S H O) (h1 : Dp K S x (.list (as.map arcD))) (hl : as.length ≤ 1000) (hn : n ≤ 1000) (hr : ∀ a ∈ as, a.r ≤ 10 ^ 30)
    (k1 : Good5 w n as s g → ∀ S' H' O', Wd K S' H' O' → Same S S' → Q (.str "ok") H') (k2 : ¬ Good5 w n as s g → ∀ S' H' O', Wd K S' H' O' → Same S S' → Q (.str "no") H') : Sp_law_asked K [.int w, .int n, x, .int s, .int g] H Q E
theorem ok_law_asked (T : Txt K mg d) : FnOk P w K mg base CX0 6 d.a_law_asked d.f_law_asked ["_law_way", "_law_many", "_law_arcs", "_law_start", "_law_goal"] (Sp_law_asked K) := by
  refine T.F_law_asked.ok sc_law_asked (fun vs H Q E h => ?_) (fun cdv A outer s H vs Q E hr h => ?_)
  · cases h; rfl
  · have hu := hu_of hr
    obtain ⟨W, h1, hl, hn, hrm, k1, k2⟩ := h
    rename_i S O w n s g as x
    have y1 := T.y_NoNetwork
    have e1 := T.e_NoNetwork_BestError
    refine ⟨_, (pss_cons (ps_set (i := 5) sc_law_asked.nd rfl (by first | exact Or.inl rfl | exact Or.inr rfl) pe_non)
      (pss_cons (ps_tryK (i := 6) rfl rfl rfl sc_law_asked.nd rfl rfl ⟨rfl, by decide, Or.inl T.g_BestError⟩ (fun W pn xe tk _ => (pss_one (ps_if (pt_cmpR op_eq (by exact pv 0) pe_int (nomark _)) (pss_one (ps_expr (by exact (pe_callS (ok_greatest T) (hr.mono (by decide)) rfl T.g_greatest T.k_greatest T.p_greatest (fun σ => passAt tk σ) (by exact (pa_cons (by exact pv 1) (pa_cons (by exact pv 2) (pa_cons (by exact pv 3) (pa_cons (by exact pv 4) pa_nil))))))))) (pss_one (ps_if (pt_cmpR op_eq (by exact pv 0) pe_int (nomark _)) (pss_one (ps_expr (by exact (pe_callS (ok_nearest T) (hr.mono (by decide)) rfl T.g_nearest T.k_nearest T.p_nearest (fun σ => passAt tk σ) (by exact (pa_cons (by exact pv 1) (pa_cons (by exact pv 2) (pa_cons (by exact pv 3) pa_nil)))))))) (pss_one (ps_if (pt_cmpR op_eq (by exact pv 0) pe_int (nomark _)) (pss_one (ps_expr (by exact (pe_callS (ok_joined T) (hr.mono (by decide)) rfl T.g_joined T.k_joined T.p_joined (fun σ => passAt tk σ) (by exact (pa_cons (by exact pv 1) (pa_cons (by exact pv 2) pa_nil))))))) (pss_one (ps_if (pt_cmpR op_eq (by exact pv 0) pe_int (nomark _)) (pss_one (ps_expr (by exact (pe_callS (ok_numbers_for T) (hr.mono (by decide)) rfl T.g_numbers_for T.k_numbers_for T.p_numbers_for (fun σ => passAt tk σ) (by exact (pa_cons (by exact pv 1) (pa_cons (pe_lc (own := [("_law_arc", 7)]) (wi := iList K (tVar 2)) (g := gName 7) (tt := tYes) (te := tTup (tCons (tOp (rIx K) (tVar 7) (tC (.int 0))) (tCons (tOp (rIx K) (tVar 7) (tC (.int 1))) (tCons (tOp (rIx K) (tVar 7) (tC (.int 3))) tNil)))) rfl sc_law_asked.nd (pi_list (by exact pv 2)) (blkOk_by (by first | decide +kernel | exact Eq.refl true)) (fun _ _ _ _ _ => pg_name (i := 7) sc_law_asked.nd rfl (by first | exact Or.inl rfl | exact Or.inr rfl)) (fun _ _ _ _ _ => pts_nil) (fun _ _ _ _ _ => (pe_tup (pa_cons (pe_ix (ixa (K := K) (by rfl)) (by exact pv 7) pe_int (fun _ _ => rfl)) (pa_cons (pe_ix (ixa (K := K) (by rfl)) (by exact pv 7) pe_int (fun _ _ => rfl)) (pa_cons (pe_ix (ixa (K := K) (by rfl)) (by exact pv 7) pe_int (fun _ _ => rfl)) pa_nil)))))) pa_nil))))))) (pss_one (ps_expr (by exact (pe_callS (ok_paired T) (hr.mono (by decide)) rfl T.g_paired T.k_paired T.p_paired (fun σ => passAt tk σ) (by exact (pa_cons (by exact pv 1) (pa_cons (by exact pv 4) (pa_cons (pe_lc (own := [("_law_arc", 7)]) (wi := iList K (tVar 2)) (g := gName 7) (tt := tYes) (te := tTup (tCons (tOp (rIx K) (tVar 7) (tC (.int 0))) (tCons (tOp (rIx K) (tVar 7) (tC (.int 1))) tNil))) rfl sc_law_asked.nd (pi_list (by exact pv 2)) (blkOk_by (by first | decide +kernel | exact Eq.refl true)) (fun _ _ _ _ _ => pg_name (i := 7) sc_law_asked.nd rfl (by first | exact Or.inl rfl | exact Or.inr rfl)) (fun _ _ _ _ _ => pts_nil) (fun _ _ _ _ _ => (pe_tup (pa_cons (pe_ix (ixa (K := K) (by rfl)) (by exact pv 7) pe_int (fun _ _ => rfl)) (pa_cons (pe_ix (ixa (K := K) (by rfl)) (by exact pv 7) pe_int (fun _ _ => rfl)) pa_nil))))) pa_nil))))))))))))))))) (fun a oe cls d' pn hz hf => (pss_one (ps_set (i := 5) sc_law_asked.nd rfl (by first | exact Or.inl rfl | exact Or.inr rfl) (pv 6)))))
      (pss_one (ps_ret (pe_ifExp (pt_cmpR ol_isN (pv 5) pe_non (nomark _)) pe_str (pe_call (ok_law_kind T) (hr.mono (by decide)) (by rfl) T.g_law_kind T.k_law_kind T.p_law_kind .nil pass0 (pa_cons (pv 5) pa_nil))))))), ?_⟩
    try dsimp only [cxK, cxw, cxprog]
    walk_at "g"
    refine x_ifJ (fun σ' H' => ∃ S', ∃ z7 : Option V, σ' = [some (.int w), some (.int n), some x, some (.int s), some (.int g), some .non, none, z7] ∧ Wd K S' H' O ∧ Same S S' ∧ Good5 w n as s g) ?_ ?_
    · intro nx' hnx
      walk_at "go"
      refine x_iteD (fun e0 => ?_) (fun e0 => ?_)
      · have eg : Good5 w n as s g ↔ GoodG n as s g := by unfold Good5; rw [if_pos e0]
        walk_at "go"
        refine .mk W h1 hrm (fun hno S2 H2 W2 hS2 => ?_) (fun G S2 H2 v2 ms side W2 hS2 _ _ => ?_)
        · refine ⟨e1, fun a ha => ?_⟩
          walk_at "go"
          have W3 := W2.alloc ha (o := ExK (.ref d.c_NoNetwork) none a)
          generalize upd H2 a (ExK (.ref d.c_NoNetwork) none a) = H3 at *
          have hE := W3.at 0 rfl
          walk_at "go"
          refine .mk W3 hE (fun S4 H4 W4 hS4 => ?_)
          exact k2 (fun g => hno (eg.mp g)) S4 H4 _ W4 (by walk_at "same")
        · walk_at "go"
          exact hnx _ _ ⟨S2, _, rfl, W2, hS2, eg.mpr G⟩
      walk_at "go"
      refine x_iteD (fun e1' => ?_) (fun e1' => ?_)
      · have eg : Good5 w n as s g ↔ GoodN n as s := by unfold Good5; rw [if_neg e0, if_pos e1']
        walk_at "go"
        refine .mk W h1 (fun hno S2 H2 W2 hS2 => ?_) (fun G S2 H2 v2 r W2 hS2 _ _ => ?_)
        · refine ⟨e1, fun a ha => ?_⟩
          walk_at "go"
          have W3 := W2.alloc ha (o := ExK (.ref d.c_NoNetwork) none a)
          generalize upd H2 a (ExK (.ref d.c_NoNetwork) none a) = H3 at *
          have hE := W3.at 0 rfl
          walk_at "go"
          refine .mk W3 hE (fun S4 H4 W4 hS4 => ?_)
          exact k2 (fun g => hno (eg.mp g)) S4 H4 _ W4 (by walk_at "same")
        · walk_at "go"
          exact hnx _ _ ⟨S2, _, rfl, W2, hS2, eg.mpr G⟩
      walk_at "go"
      refine x_iteD (fun e2 => ?_) (fun e2 => ?_)
      · have eg : Good5 w n as s g ↔ LookOk n as := by unfold Good5; rw [if_neg e0, if_neg e1', if_pos e2]
        walk_at "go"
        refine .mk W h1 (fun hno S2 H2 W2 hS2 => ?_) (fun G S2 H2 v2 ks zs W2 hS2 _ _ => ?_)
        · refine ⟨e1, fun a ha => ?_⟩
          walk_at "go"
          have W3 := W2.alloc ha (o := ExK (.ref d.c_NoNetwork) none a)
          generalize upd H2 a (ExK (.ref d.c_NoNetwork) none a) = H3 at *
          have hE := W3.at 0 rfl
          walk_at "go"
          refine .mk W3 hE (fun S4 H4 W4 hS4 => ?_)
          exact k2 (fun g => hno (eg.mp g)) S4 H4 _ W4 (by walk_at "same")
        · walk_at "go"
          exact hnx _ _ ⟨S2, _, rfl, W2, hS2, eg.mpr G⟩
      walk_at "go"
      refine x_iteD (fun e3 => ?_) (fun e3 => ?_)
      · have eg : Good5 w n as s g ↔ GoodD n (bndsOf as) := by unfold Good5; rw [if_neg e0, if_neg e1', if_neg e2, if_pos e3]
        walk_at "go"
        refine lc_map bndD (fun a : Arc => (⟨a.s, a.t, a.c⟩ : Bnd)) W h1 (by omega) (fun a S' H' Rr acc N hz W' hS E => kn_tup fun u hu => ?_) (fun S1 H1 v1 W1 hS1 hv1 => ?_)
        · walk_at "go"
          walk_at "ly"
        walk_at "go"
        refine .mk W1 hv1 (by rw [List.length_map]; exact hl) hn (fun hno S2 H2 W2 hS2 => ?_) (fun G S2 H2 v2 r W2 hS2 _ _ => ?_)
        · refine ⟨e1, fun a ha => ?_⟩
          walk_at "go"
          have W3 := W2.alloc ha (o := ExK (.ref d.c_NoNetwork) none a)
          generalize upd H2 a (ExK (.ref d.c_NoNetwork) none a) = H3 at *
          have hE := W3.at 0 rfl
          walk_at "go"
          refine .mk W3 hE (fun S4 H4 W4 hS4 => ?_)
          exact k2 (fun g => hno (eg.mp g)) S4 H4 _ W4 (by walk_at "same")
        · walk_at "go"
          exact hnx _ _ ⟨S2, _, rfl, W2, by walk_at "same", eg.mpr G⟩
      · have eg : Good5 w n as s g ↔ GoodPI n g (prsOf as) := by unfold Good5; rw [if_neg e0, if_neg e1', if_neg e2, if_neg e3]
        walk_at "go"
        refine lc_map prD (fun a : Arc => (a.s, a.t)) W h1 (by omega) (fun a S' H' Rr acc N hz W' hS E => kn_tup fun u hu => ?_) (fun S1 H1 v1 W1 hS1 hv1 => ?_)
        · walk_at "go"
          walk_at "ly"
        walk_at "go"
        refine .mk W1 hv1 (by rw [List.length_map]; exact hl) (fun hno S2 H2 W2 hS2 => ?_) (fun G S2 H2 v2 tk c0 c1 W2 hS2 _ _ => ?_)
        · refine ⟨e1, fun a ha => ?_⟩
          walk_at "go"
          have W3 := W2.alloc ha (o := ExK (.ref d.c_NoNetwork) none a)
          generalize upd H2 a (ExK (.ref d.c_NoNetwork) none a) = H3 at *
          have hE := W3.at 0 rfl
          walk_at "go"
          refine .mk W3 hE (fun S4 H4 W4 hS4 => ?_)
          exact k2 (fun g => hno (eg.mp g)) S4 H4 _ W4 (by walk_at "same")
        · walk_at "go"
          exact hnx _ _ ⟨S2, _, rfl, W2, by walk_at "same", eg.mpr G⟩
    · rintro σ' H' ⟨S', z7, rfl, W', hS', G⟩
      walk_at "go"
      exact k1 G _ _ _ W' hS'
end
section
variable {P : Program} {w : World} {K : PySem.W.Frag} {mg : Str → Option Value} {base : Heap} {d : Ad}
theorem x_ixA {K : PySem.W.Frag} {S H : Hp} {O : List (Addr × HO)} {Q : VK} {p : Addr} {vs : List V} {ds : List PyData} {i : Int} {d : PyData} (n : Nat) (W : Wd K S H O) (h : O[n]? = some (p, .lst vs)) (ha : DpAll K S vs ds) (hi : atI ds i = some d) (k : Kn K S d fun u => Q u H) : rIx K (.ref p) (.int i) H Q := by
  obtain ⟨u, hu, hd⟩ := dp_at ha hi
  exact x_ixO n W h hu (k.of u hd)
inductive Sp_law (K : PySem.W.Frag) : List V → Hp → VK → XK → Prop
  | mk {ns : List Int} {x : V} {H : Hp} {Q : VK} {E : XK} (h : Dp K H x (.list (ns.map PyData.int))) (k : ∀ H', Q (.bl true) H') : Sp_law K [x] H Q E
theorem ok_law (T : Txt K mg d) : FnOk P w K mg base CX0 7 d.a_law d.f_law ["_law_script"] (Sp_law K) := by
  refine T.F_law.ok sc_law (fun vs H Q E h => ?_) (fun cdv A outer s H vs Q E hr h => ?_)
  · cases h; rfl
  · have hu := hu_of hr
    obtain ⟨h, k⟩ := h
    rename_i ns x
    have W := Wd.all (K := K) H
    have w0 := Int.emod_nonneg (mix ns 0) (show (5 : Int) ≠ 0 by decide)
    have w1 := Int.emod_lt_of_pos (mix ns 0) (show (0 : Int) < 5 by decide)
    have a0 := Int.emod_nonneg (mix ns 1) (show (10 : Int) ≠ 0 by decide)
    have a1 := Int.emod_lt_of_pos (mix ns 1) (show (0 : Int) < 10 by decide)
    have b0 := Int.emod_nonneg (mix ns 2) (show (10 : Int) ≠ 0 by decide)
    have b1 := Int.emod_lt_of_pos (mix ns 2) (show (0 : Int) < 10 by decide)
    have c0 := Int.emod_nonneg (mix ns 52) (show (3 : Int) ≠ 0 by decide)
    have c1 := Int.emod_lt_of_pos (mix ns 52) (show (0 : Int) < 3 by decide)
    have d0 := Int.emod_nonneg (mix ns 53) (show (2 : Int) ≠ 0 by decide)
    have d1 := Int.emod_lt_of_pos (mix ns 53) (show (0 : Int) < 2 by decide)
    refine ⟨_, (pss_cons (ps_set (i := 1) sc_law.nd rfl (by first | exact Or.inl rfl | exact Or.inr rfl) (pe_op op_mod (pe_call (ok_law_mix T) (hr.mono (by decide)) (by rfl) T.g_law_mix T.k_law_mix T.p_law_mix .nil pass0 (pa_cons (pv 0) (pa_cons pe_int pa_nil))) pe_int))
      (pss_cons (ps_set (i := 2) sc_law.nd rfl (by first | exact Or.inl rfl | exact Or.inr rfl) (pe_ix (ixa (K := K) (by rfl)) (pe_lst (pa_cons pe_int (pa_cons pe_int (pa_cons pe_int (pa_cons pe_int (pa_cons pe_int (pa_cons pe_int (pa_cons pe_int (pa_cons pe_int (pa_cons pe_int (pa_cons pe_int pa_nil))))))))))) (pe_op op_mod (pe_call (ok_law_mix T) (hr.mono (by decide)) (by rfl) T.g_law_mix T.k_law_mix T.p_law_mix .nil pass0 (pa_cons (pv 0) (pa_cons pe_int pa_nil))) pe_int) (fun _ _ => rfl)))
      (pss_cons (ps_set (i := 3) sc_law.nd rfl (by first | exact Or.inl rfl | exact Or.inr rfl) (pe_ix (ixa (K := K) (by rfl)) (pe_lst (pa_cons pe_int (pa_cons pe_int (pa_cons pe_int (pa_cons pe_int (pa_cons pe_int (pa_cons pe_int (pa_cons pe_int (pa_cons pe_int (pa_cons pe_int (pa_cons pe_int pa_nil))))))))))) (pe_op op_mod (pe_call (ok_law_mix T) (hr.mono (by decide)) (by rfl) T.g_law_mix T.k_law_mix T.p_law_mix .nil pass0 (pa_cons (pv 0) (pa_cons pe_int pa_nil))) pe_int) (fun _ _ => rfl)))
      (pss_cons (ps_set (i := 4) sc_law.nd rfl (by first | exact Or.inl rfl | exact Or.inr rfl) (pe_op op_sub (pe_op op_mod (pe_call (ok_law_mix T) (hr.mono (by decide)) (by rfl) T.g_law_mix T.k_law_mix T.p_law_mix .nil pass0 (pa_cons (pv 0) (pa_cons pe_int pa_nil))) pe_int) pe_int))
      (pss_cons (ps_set (i := 5) sc_law.nd rfl (by first | exact Or.inl rfl | exact Or.inr rfl) (pe_op op_sub (pe_op op_mod (pe_call (ok_law_mix T) (hr.mono (by decide)) (by rfl) T.g_law_mix T.k_law_mix T.p_law_mix .nil pass0 (pa_cons (pv 0) (pa_cons pe_int pa_nil))) pe_int) pe_int))
      (pss_cons (ps_set (i := 6) sc_law.nd rfl (by first | exact Or.inl rfl | exact Or.inr rfl) (pe_lst pa_nil))
      (pss_cons (ps_for PassesOwn.never rfl (pi_range1 (by rfl) T.b_range (pa_cons (pv 3) pa_nil)) (pg_name (i := 7) sc_law.nd rfl (by first | exact Or.inl rfl | exact Or.inr rfl)) (pss_cons (ps_set (i := 8) sc_law.nd rfl (by first | exact Or.inl rfl | exact Or.inr rfl) (pe_call (ok_law_mix T) (hr.mono (by decide)) (by rfl) T.g_law_mix T.k_law_mix T.p_law_mix .nil pass0 (pa_cons (pv 0) (pa_cons (pe_op op_add pe_int (pv 7)) pa_nil))))
      (pss_cons (ps_expr (pe_bm PySem.F.plainAttrs_list PySem.F.slot_list_append PySem.F.type_list_append mt_append (pv 6) (pa_cons (pe_tup (pa_cons (pe_op op_mod (pv 8) (pe_callB (cl_max2 rfl) (by rfl) T.b_max (by decide +kernel) (pa_cons pe_int (pa_cons (pv 2) pa_nil)))) (pa_cons (pe_op op_mod (pe_op op_fdiv (pv 8) pe_int) (pe_callB (cl_max2 rfl) (by rfl) T.b_max (by decide +kernel) (pa_cons pe_int (pa_cons (pv 2) pa_nil)))) (pa_cons (pe_op op_mod (pe_op op_fdiv (pv 8) pe_int) pe_int) (pa_cons pe_int pa_nil))))) pa_nil)))
      (pss_one (ps_if (pt_cmpR op_eq (pv 1) pe_int (nomark _)) (pss_one (ps_asg (pe_tup (pa_cons (pe_op op_mod (pv 8) (pe_callB (cl_max2 rfl) (by rfl) T.b_max (by decide +kernel) (pa_cons pe_int (pa_cons (pv 2) pa_nil)))) (pa_cons (pe_op op_mod (pe_op op_fdiv (pv 8) pe_int) (pe_callB (cl_max2 rfl) (by rfl) T.b_max (by decide +kernel) (pa_cons pe_int (pa_cons (pv 4) pa_nil)))) (pa_cons pe_int (pa_cons pe_int pa_nil))))) (pg_sub (pv 6) (pe_un un_neg pe_int) set_list))) pss_nil)))))
      (pss_cons (ps_set (i := 9) sc_law.nd rfl (by first | exact Or.inl rfl | exact Or.inr rfl) (pe_and (pe_cmpR op_eq (pe_op op_mod (pe_call (ok_law_mix T) (hr.mono (by decide)) (by rfl) T.g_law_mix T.k_law_mix T.p_law_mix .nil pass0 (pa_cons (pv 0) (pa_cons pe_int pa_nil))) pe_int) pe_int (nomark _)) (pe_one (pe_cmpR op_gt (pv 3) pe_int (nomark _)))))
      (pss_cons (ps_if (trutha (K := K) (by rfl) (pv 9) (by intro _; rfl)) (pss_cons (ps_set (i := 10) sc_law.nd rfl (by first | exact Or.inl rfl | exact Or.inr rfl) (pe_op op_mod (pe_call (ok_law_mix T) (hr.mono (by decide)) (by rfl) T.g_law_mix T.k_law_mix T.p_law_mix .nil pass0 (pa_cons (pv 0) (pa_cons pe_int pa_nil))) (pv 3)))
      (pss_cons (ps_set (i := 11) sc_law.nd rfl (by first | exact Or.inl rfl | exact Or.inr rfl) (pe_ix (ixa (K := K) (by rfl)) (pe_lst (pa_cons (pe_un un_neg pe_int) (pa_cons (pv 2) (pa_cons (pe_op op_add (pv 2) pe_int) pa_nil)))) (pe_op op_mod (pe_call (ok_law_mix T) (hr.mono (by decide)) (by rfl) T.g_law_mix T.k_law_mix T.p_law_mix .nil pass0 (pa_cons (pv 0) (pa_cons pe_int pa_nil))) pe_int) (fun _ _ => rfl)))
      (pss_cons (ps_if (pt_cmpR op_eq (pv 1) pe_int (nomark _)) (pss_one (ps_set (i := 11) sc_law.nd rfl (by first | exact Or.inl rfl | exact Or.inr rfl) (pe_ix (ixa (K := K) (by rfl)) (pe_lst (pa_cons (pv 11) (pa_cons (pe_ix (ixa (K := K) (by rfl)) (pe_lst (pa_cons (pe_un un_neg pe_int) (pa_cons (pv 4) (pa_cons (pe_op op_add (pv 4) pe_int) pa_nil)))) (pe_op op_mod (pe_call (ok_law_mix T) (hr.mono (by decide)) (by rfl) T.g_law_mix T.k_law_mix T.p_law_mix .nil pass0 (pa_cons (pv 0) (pa_cons pe_int pa_nil))) pe_int) (fun _ _ => rfl)) pa_nil))) (pe_op op_mod (pe_call (ok_law_mix T) (hr.mono (by decide)) (by rfl) T.g_law_mix T.k_law_mix T.p_law_mix .nil pass0 (pa_cons (pv 0) (pa_cons pe_int pa_nil))) pe_int) (fun _ _ => rfl)))) pss_nil)
      (pss_one (ps_asg (pe_ix (ixa (K := K) (by rfl)) (pe_lst (pa_cons (pe_tup (pa_cons (pv 11) (pa_cons (pe_ix (ixa (K := K) (by rfl)) (pe_ix (ixa (K := K) (by rfl)) (pv 6) (pv 10) (fun _ _ => rfl)) pe_int (fun _ _ => rfl)) (pa_cons pe_int (pa_cons pe_int pa_nil))))) (pa_cons (pe_tup (pa_cons (pe_ix (ixa (K := K) (by rfl)) (pe_ix (ixa (K := K) (by rfl)) (pv 6) (pv 10) (fun _ _ => rfl)) pe_int (fun _ _ => rfl)) (pa_cons (pv 11) (pa_cons pe_int (pa_cons pe_int pa_nil))))) pa_nil))) (pe_op op_mod (pe_call (ok_law_mix T) (hr.mono (by decide)) (by rfl) T.g_law_mix T.k_law_mix T.p_law_mix .nil pass0 (pa_cons (pv 0) (pa_cons pe_int pa_nil))) pe_int) (fun _ _ => rfl)) (pg_sub (pv 6) (pv 10) set_list)))))) pss_nil)
      (pss_cons (ps_set (i := 12) sc_law.nd rfl (by first | exact Or.inl rfl | exact Or.inr rfl) (pe_and (pe_cmpR op_eq (pv 1) pe_int (nomark _)) (pe_and (pe_cmpR op_eq (pe_op op_mod (pe_call (ok_law_mix T) (hr.mono (by decide)) (by rfl) T.g_law_mix T.k_law_mix T.p_law_mix .nil pass0 (pa_cons (pv 0) (pa_cons pe_int pa_nil))) pe_int) pe_int (nomark _)) (pe_one (pe_cmpR op_gt (pv 3) pe_int (nomark _))))))
      (pss_cons (ps_if (trutha (K := K) (by rfl) (pv 12) (by intro _; rfl)) (pss_cons (ps_set (i := 10) sc_law.nd rfl (by first | exact Or.inl rfl | exact Or.inr rfl) (pe_op op_mod (pe_call (ok_law_mix T) (hr.mono (by decide)) (by rfl) T.g_law_mix T.k_law_mix T.p_law_mix .nil pass0 (pa_cons (pv 0) (pa_cons pe_int pa_nil))) (pv 3)))
      (pss_one (ps_asg (pe_op (catTa (K := K) (by rfl)) (pe_slice (slTa (K := K) (by rfl)) (pe_ix (ixa (K := K) (by rfl)) (pv 6) (pv 10) (fun _ _ => rfl)) po_none (po_some pe_int)) (pe_tup (pa_cons (pe_un un_neg pe_int) (pa_cons pe_int pa_nil)))) (pg_sub (pv 6) (pv 10) set_list)))) pss_nil)
      (pss_cons (ps_set (i := 13) sc_law.nd rfl (by first | exact Or.inl rfl | exact Or.inr rfl) (pe_and (pe_not (pv 9)) (pe_one (pe_not (pv 12)))))
      (pss_cons (ps_if (pt_cmpR op_lt (pv 1) pe_int (nomark _)) (pss_one (ps_set (i := 13) sc_law.nd rfl (by first | exact Or.inl rfl | exact Or.inr rfl) (pe_and (pv 13) (pe_and (pe_chain op_le op_le pe_int (pv 2) pe_int) (pe_one (pe_cmpR op_le (pv 3) pe_int (nomark _))))))) pss_nil)
      (pss_cons (ps_if (pt_cmpR op_lt (pv 1) pe_int (nomark _)) (pss_one (ps_set (i := 13) sc_law.nd rfl (by first | exact Or.inl rfl | exact Or.inr rfl) (pe_and (pv 13) (pe_one (pe_chain op_le op_lt pe_int (pv 5) (pv 2)))))) pss_nil)
      (pss_cons (ps_if (pt_cmpR op_eq (pv 1) pe_int (nomark _)) (pss_one (ps_set (i := 13) sc_law.nd rfl (by first | exact Or.inl rfl | exact Or.inr rfl) (pe_and (pv 13) (pe_and (pe_chain op_le op_lt pe_int (pv 4) (pv 2)) (pe_one (pe_cmpR op_ne (pv 5) (pv 4) (nomark _))))))) pss_nil)
      (pss_cons (ps_if (pt_cmpR op_eq (pv 1) pe_int (nomark _)) (pss_one (ps_set (i := 13) sc_law.nd rfl (by first | exact Or.inl rfl | exact Or.inr rfl) (pe_and (pv 13) (pe_and (pe_cmpR op_le (pv 2) pe_int (nomark _)) (pe_and (pe_cmpR op_le (pv 3) pe_int (nomark _)) (pe_one (pe_or (pe_cmpR op_gt (pv 2) pe_int (nomark _)) (pe_one (pe_cmpR op_eq (pv 3) pe_int (nomark _)))))))))) pss_nil)
      (pss_cons (ps_if (pt_cmpR op_eq (pv 1) pe_int (nomark _)) (pss_one (ps_set (i := 13) sc_law.nd rfl (by first | exact Or.inl rfl | exact Or.inr rfl) (pe_and (pv 13) (pe_and (pe_cmpR op_le (pv 2) pe_int (nomark _)) (pe_and (pe_chain op_le op_le pe_int (pv 4) pe_int) (pe_and (pe_cmpR op_le (pv 3) pe_int (nomark _)) (pe_one (pe_or (pe_and (pe_cmpR op_gt (pv 2) pe_int (nomark _)) (pe_one (pe_cmpR op_gt (pv 4) pe_int (nomark _)))) (pe_one (pe_cmpR op_eq (pv 3) pe_int (nomark _))))))))))) pss_nil)
      (pss_one (ps_ret (pe_cmpR op_eq (pe_call (ok_law_asked T) (hr.mono (by decide)) (by rfl) T.g_law_asked T.k_law_asked T.p_law_asked .nil pass0 (pa_cons (pv 1) (pa_cons (pv 2) (pa_cons (pv 6) (pa_cons (pv 5) (pa_cons (pv 4) pa_nil)))))) (pe_ix (ixa (K := K) (by rfl)) (pe_lst (pa_cons pe_str (pa_cons pe_str pa_nil))) (pe_callTy cl_int1 (by rfl) T.b_int (by decide +kernel) (pa_cons (pv 13) pa_nil)) (fun _ _ => rfl)) (nomark _))))))))))))))))))))), ?_⟩
    try dsimp only [cxK, cxw, cxprog]
    walk_at "go"
    generalize mix ns 0 % 5 = w at *
    refine x_lst W (ds := ([0, 1, 2, 5, 6, 11, 12, 13, 3, 4] : List Int).map PyData.int) (dpAll_ints [0, 1, 2, 5, 6, 11, 12, 13, 3, 4]) (by simp) (fun S1 H1 v1 W1 hS1 hv1 => ?_)
    have hx1 : Dp K S1 x (.list (ns.map PyData.int)) := by walk_at "is"
    walk_at "go"
    try (refine x_ixL W1 hv1 (atI_map (f := PyData.int) (xs := ([0, 1, 2, 5, 6, 11, 12, 13, 3, 4] : List Int)) a0 (by simp; omega)) (kn_int ?_))
    have hn1 := nth_mem (xs := ([0, 1, 2, 5, 6, 11, 12, 13, 3, 4] : List Int)) (i := mix ns 1 % 10) a0 (by simp; omega)
    generalize nth ([0, 1, 2, 5, 6, 11, 12, 13, 3, 4] : List Int) (mix ns 1 % 10) = n at *
    have n0 : 0 ≤ n ∧ n ≤ 13 := by
      simp only [List.mem_cons, List.not_mem_nil, or_false] at hn1
      omega
    clear hn1
    walk_at "go"
    refine x_lst W1 (ds := ([0, 1, 3, 28, 29, 30, 31, 40, 41, 2] : List Int).map PyData.int) (dpAll_ints [0, 1, 3, 28, 29, 30, 31, 40, 41, 2]) (by simp) (fun S2 H2 v2 W2 hS2 hv2 => ?_)
    have hx2 : Dp K S2 x (.list (ns.map PyData.int)) := by walk_at "is"
    walk_at "go"
    try (refine x_ixL W2 hv2 (atI_map (f := PyData.int) (xs := ([0, 1, 3, 28, 29, 30, 31, 40, 41, 2] : List Int)) b0 (by simp; omega)) (kn_int ?_))
    have hm1 := nth_mem (xs := ([0, 1, 3, 28, 29, 30, 31, 40, 41, 2] : List Int)) (i := mix ns 2 % 10) b0 (by simp; omega)
    generalize nth ([0, 1, 3, 28, 29, 30, 31, 40, 41, 2] : List Int) (mix ns 2 % 10) = m at *
    have m0 : 0 ≤ m ∧ m ≤ 41 := by
      simp only [List.mem_cons, List.not_mem_nil, or_false] at hm1
      omega
    clear hm1
    walk_at "go"
    have g0 := Int.emod_lt_of_pos (mix ns 3) (show (0 : Int) < 8 by decide)
    generalize mix ns 3 % 8 - 1 = g at *
    generalize mix ns 4 % 8 - 1 = s at *
    refine x_own W2 (by simp) (fun p H3 W3 => ?_)
    walk_at "go"
    refine x_forN (fun i σ' H' => ∃ (S' : Hp) (vs : List V) (as : List Arc), ∃ z7 z8 : Option V, σ' = [some x, some (.int w), some (.int n), some (.int m), some (.int g), some (.int s), some (.ref p), z7, z8, none, none, none, none, none] ∧ Wd K S' H' ((p, .lst vs) :: []) ∧ Same S2 S' ∧ DpAll K S' vs (as.map arcD) ∧ as.length = i ∧
        ∀ a ∈ as, BaseA w n g a ∧ a.r ≤ 10) ⟨by omega, by omega⟩ ⟨S2, [], [], _, _, rfl, W3, Same.refl _, .nil, rfl, fun a ha => by cases ha⟩ ?_ ?_
    · rintro i σ' H' hi ⟨S', vs, as, z7, z8, rfl, W', hS', hA, hal, hB⟩
      have hx' : Dp K S' x (.list (ns.map PyData.int)) := by walk_at "is"
      have hvl : vs.length = i := by rw [dpAll_len hA, List.length_map, hal]
      walk_at "go"
      generalize mix ns (5 + (i : Int)) = q at *
      rename_i S4 H4 v4 W4 hS4 hv4
      refine x_app 0 W4 rfl (by omega) (fun H5 W5 => ?_)
      have hA4 : DpAll K S4 (vs ++ [v4]) ((as ++ [(⟨q % max 1 n, q / 16 % max 1 n, q / 256 % 9, 1⟩ : Arc)]).map arcD) := by
        rw [List.map_append]
        exact dpAll_app (dpAll_mono hS4 hA) hv4
      have e1 := Int.emod_nonneg q (show max 1 n ≠ 0 by omega)
      have e2 := Int.emod_lt_of_pos q (show 0 < max 1 n by omega)
      have e3 := Int.emod_nonneg (q / 16) (show max 1 n ≠ 0 by omega)
      have e4 := Int.emod_lt_of_pos (q / 16) (show 0 < max 1 n by omega)
      have e5 := Int.emod_nonneg (q / 256) (show (9 : Int) ≠ 0 by decide)
      have e6 := Int.emod_lt_of_pos (q / 256) (show (0 : Int) < 9 by decide)
      have e7 := Int.emod_nonneg (q / 16) (show max 1 g ≠ 0 by omega)
      have e8 := Int.emod_lt_of_pos (q / 16) (show 0 < max 1 g by omega)
      walk_at "go"
      refine x_iteD (fun hw => ?_) (fun hw => ?_)
      · walk_at "go"
        rename_i S6 H6 v6 W6 hS6 hv6
        refine x_setO 0 W6 rfl (j := i) (by
          rw [List.length_append, List.length_singleton, hvl]
          unfold ixN
          rw [if_neg (by decide), if_pos (by omega)]
          congr 1
          omega) (fun H7 W7 => ?_)
        refine ⟨S6, _, as ++ [(⟨q % max 1 n, q / 16 % max 1 g, 1, 1⟩ : Arc)], _, _, rfl, W7, by walk_at "same", ?_, by rw [List.length_append, hal]; rfl, fun a ha => ?_⟩
        · have e : (as ++ [(⟨q % max 1 n, q / 16 % max 1 g, 1, 1⟩ : Arc)]).map arcD = ((as ++ [(⟨q % max 1 n, q / 16 % max 1 n, q / 256 % 9, 1⟩ : Arc)]).map arcD).set i (arcD ⟨q % max 1 n, q / 16 % max 1 g, 1, 1⟩) := by
            rw [← List.map_set]
            congr 1
            rw [List.set_append_right _ _ (by omega), hal, Nat.sub_self]
            rfl
          rw [e]
          exact dpAll_set i (dpAll_mono hS6 hA4) hv6
        · rcases List.mem_append.mp ha with h | h
          · exact hB a h
          · rw [List.mem_singleton.mp h]
            exact ⟨⟨e1, e2, e7, by rw [if_pos hw]; exact e8, by dsimp only; omega⟩, by dsimp only; omega⟩
      · walk_at "go"
        refine ⟨S4, _, _, _, _, rfl, W5, by walk_at "same", hA4, by rw [List.length_append, hal]; rfl, fun a ha => ?_⟩
        rcases List.mem_append.mp ha with h | h
        · exact hB a h
        · rw [List.mem_singleton.mp h]
          exact ⟨⟨e1, e2, e3, by rw [if_neg hw]; exact e4, e5⟩, by dsimp only; omega⟩
    rintro σ' H4 ⟨S4, vs, as, z7, z8, rfl, W4, hS4, hA, hal, hB⟩
    have hx4 : Dp K S4 x (.list (ns.map PyData.int)) := by walk_at "is"
    walk_at "g"
    refine x_cutV (fun u H' => ∃ bad : Bool, u = .bl bad ∧ H' = H4 ∧ (bad = true → 0 < m)) ?_ ?_
    · intro Q' hQ
      walk_at "go"
      refine x_iteD (fun _ => ?_) (fun _ => ?_)
      · walk_at "go"
        exact hQ _ _ ⟨_, rfl, rfl, fun h => of_decide_eq_true h⟩
      · exact hQ _ _ ⟨_, rfl, rfl, fun h => by cases h⟩
    rintro u H' ⟨bad, rfl, rfl, hbm⟩
    walk_at "g"
    refine x_ifJ (fun σ' H' => ∃ (S' : Hp) (vs : List V) (as : List Arc), ∃ z10 z11 : Option V, σ' = [some x, some (.int w), some (.int n), some (.int m), some (.int g), some (.int s), some (.ref p), z7, z8, some (.bl bad), z10, z11, none, none] ∧ Wd K S' H' ((p, .lst vs) :: []) ∧ Same S4 S' ∧ DpAll K S' vs (as.map arcD) ∧ as.length = m.toNat ∧
        (∀ a ∈ as, a.r ≤ 10) ∧ (bad = false → ∀ a ∈ as, BaseA w n g a) ∧ (bad = true → ∃ a ∈ as, BadA w n g a)) ?_ ?_
    · intro nx' hnx
      walk_at "go"
      refine x_ite (fun hb => ?_) (fun hb => ?_)
      rotate_left
      · walk_at "go"
        exact hnx _ _ ⟨S4, vs, as, _, _, rfl, W4, Same.refl _, hA, hal, fun a ha => (hB a ha).2, fun _ a ha => (hB a ha).1, fun h => by rw [hb] at h; cases h⟩
      have hm := hbm hb
      have f0 := Int.emod_nonneg (mix ns 51) (show m ≠ 0 by omega)
      have f1 := Int.emod_lt_of_pos (mix ns 51) (show 0 < m by omega)
      walk_at "go"
      generalize mix ns 51 % m = at0 at *
      refine x_lst W4 (ds := ([-1, n, n + 1] : List Int).map PyData.int) (dpAll_ints [-1, n, n + 1]) (by simp) (fun S5 H5 v5 W5 hS5 hv5 => ?_)
      have hx5 : Dp K S5 x (.list (ns.map PyData.int)) := by walk_at "is"
      walk_at "g"
      try (refine x_ixL W5 hv5 (atI_map (f := PyData.int) (xs := ([-1, n, n + 1] : List Int)) c0 (by simp; omega)) (kn_int ?_))
      have ho := nth_mem (xs := ([-1, n, n + 1] : List Int)) (i := mix ns 52 % 3) c0 (by simp; omega)
      generalize nth ([-1, n, n + 1] : List Int) (mix ns 52 % 3) = o1 at *
      have ho1 : ¬ (0 ≤ o1 ∧ o1 < n) := by
        simp only [List.mem_cons, List.not_mem_nil, or_false] at ho
        omega
      walk_at "g"
      refine x_ifJ (fun σ' H' => ∃ (S' : Hp) (o2 : Int), σ' = [some x, some (.int w), some (.int n), some (.int m), some (.int g), some (.int s), some (.ref p), z7, z8, some (.bl bad), some (.int at0), some (.int o2), none, none] ∧ Wd K S' H' ((p, .lst vs) :: []) ∧ Same S5 S' ∧
        (mix ns 53 % 2 = 0 → ¬ (0 ≤ o2 ∧ o2 < n)) ∧ (mix ns 53 % 2 = 1 → ¬ (0 ≤ o2 ∧ o2 < if w = 4 then g else n))) ?_ ?_
      · intro nx2 hnx2
        walk_at "go"
        refine x_iteD (fun hw => ?_) (fun hw => ?_)
        · walk_at "go"
          refine x_lst W5 (ds := ([-1, g, g + 1] : List Int).map PyData.int) (dpAll_ints [-1, g, g + 1]) (by simp) (fun S6 H6 v6 W6 hS6 hv6 => ?_)
          have hx6 : Dp K S6 x (.list (ns.map PyData.int)) := by walk_at "is"
          walk_at "go"
          try (refine x_ixL W6 hv6 (atI_map (f := PyData.int) (xs := ([-1, g, g + 1] : List Int)) c0 (by simp; omega)) (kn_int ?_))
          have hp2 := nth_mem (xs := ([-1, g, g + 1] : List Int)) (i := mix ns 52 % 3) c0 (by simp; omega)
          generalize nth ([-1, g, g + 1] : List Int) (mix ns 52 % 3) = o3 at *
          have ho3 : ¬ (0 ≤ o3 ∧ o3 < g) := by
            simp only [List.mem_cons, List.not_mem_nil, or_false] at hp2
            omega
          walk_at "go"
          refine x_lst W6 (ds := ([o1, o3] : List Int).map PyData.int) (dpAll_ints [o1, o3]) (by simp) (fun S7 H7 v7 W7 hS7 hv7 => ?_)
          have hx7 : Dp K S7 x (.list (ns.map PyData.int)) := by walk_at "is"
          walk_at "go"
          try (refine x_ixL W7 hv7 (atI_map (f := PyData.int) (xs := ([o1, o3] : List Int)) d0 (by simp; omega)) (kn_int ?_))
          walk_at "go"
          refine hnx2 _ _ ⟨S7, _, rfl, W7, by walk_at "same", fun h => ?_, fun h => ?_⟩
          · rw [h]
            exact ho1
          · rw [h, if_pos hw]
            exact ho3
        · walk_at "go"
          exact hnx2 _ _ ⟨S5, o1, rfl, W5, Same.refl _, fun _ => ho1, fun _ => by rw [if_neg hw]; exact ho1⟩
      rintro σ' H6 ⟨S6, o2, rfl, W6, hS6, hq0, hq1⟩
      have hA6 : DpAll K S6 vs (as.map arcD) := dpAll_mono (by walk_at "same") hA
      have hx6 : Dp K S6 x (.list (ns.map PyData.int)) := by walk_at "is"
      have hin : atI (as.map arcD) at0 = some (arcD (nth as at0)) := atI_map f0 (by omega)
      have hmem := nth_mem (xs := as) f0 (by omega)
      walk_at "go"
      refine x_ixA 0 W6 rfl hA6 hin (kn_tup fun ua hua => ?_)
      walk_at "go"
      rename_i S7 H7 t7 W7 hS7 ht7
      have hA7 : DpAll K S7 vs (as.map arcD) := dpAll_mono hS7 hA6
      refine x_ixA 0 W7 rfl hA7 hin (kn_tup fun ub hub => ?_)
      walk_at "go"
      rename_i S8 H8 t8 W8 hS8 ht8
      have hA8 : DpAll K S8 vs (as.map arcD) := dpAll_mono hS8 hA7
      refine x_lst W8 (ds := [(⟨o2, (nth as at0).t, 1, 1⟩ : Arc), ⟨(nth as at0).s, o2, 1, 1⟩].map arcD) (.cons (dp_mono hS8 ht7) (.cons ht8 .nil)) (by simp) (fun S9 H9 v9 W9 hS9 hv9 => ?_)
      have hA9 : DpAll K S9 vs (as.map arcD) := dpAll_mono hS9 hA8
      have hx9 : Dp K S9 x (.list (ns.map PyData.int)) := by walk_at "is"
      walk_at "go"
      rename_i uc huc
      have hnew : (nth [(⟨o2, (nth as at0).t, 1, 1⟩ : Arc), ⟨(nth as at0).s, o2, 1, 1⟩] (mix ns 53 % 2)).r = 1 ∧ BadA w n g (nth [(⟨o2, (nth as at0).t, 1, 1⟩ : Arc), ⟨(nth as at0).s, o2, 1, 1⟩] (mix ns 53 % 2)) := by
        rcases (show mix ns 53 % 2 = 0 ∨ mix ns 53 % 2 = 1 by omega) with hh | hh
        · rw [hh]
          exact ⟨rfl, .inl (hq0 hh)⟩
        · rw [hh]
          exact ⟨rfl, .inr (hq1 hh)⟩
      generalize nth [(⟨o2, (nth as at0).t, 1, 1⟩ : Arc), ⟨(nth as at0).s, o2, 1, 1⟩] (mix ns 53 % 2) = na at *
      have hvl : vs.length = as.length := by rw [dpAll_len hA, List.length_map]
      walk_at "go"
      refine x_setO 0 W9 rfl (ixN_of f0 (by omega)) (fun H10 W10 => ?_)
      walk_at "go"
      refine hnx _ _ ⟨S9, _, as.set at0.toNat na, _, _, rfl, W10, by walk_at "same", ?_, by rw [List.length_set]; exact hal, fun a ha => ?_, fun h => (by rw [hb] at h; cases h), fun _ => ⟨na, ?_, hnew.2⟩⟩
      · rw [List.map_set]
        exact dpAll_set _ hA9 huc
      · rcases List.mem_or_eq_of_mem_set ha with h | h
        · exact (hB a h).2
        · rw [h, hnew.1]
          decide
      · exact List.mem_iff_getElem?.mpr ⟨at0.toNat, by rw [List.getElem?_set_self (by omega)]⟩
    clear hB hA hbm hal W4 hx4
    clear vs as
    rintro σ' H5 ⟨S5, vs, as, z10, z11, rfl, W5, hS5, hA, hal, hr, hb1, hb2⟩
    have hx5 : Dp K S5 x (.list (ns.map PyData.int)) := by walk_at "is"
    walk_at "g"
    refine x_cutV (fun u H' => ∃ neg : Bool, u = .bl neg ∧ H' = H5 ∧ (neg = true → w = 0 ∧ 0 < m)) ?_ ?_
    · intro Q' hQ
      walk_at "go"
      refine x_iteD (fun hw => ?_) (fun _ => ?_)
      · walk_at "go"
        refine x_iteD (fun _ => ?_) (fun _ => ?_)
        · walk_at "go"
          exact hQ _ _ ⟨_, rfl, rfl, fun h => ⟨hw, of_decide_eq_true h⟩⟩
        · exact hQ _ _ ⟨_, rfl, rfl, fun h => by cases h⟩
      · exact hQ _ _ ⟨_, rfl, rfl, fun h => by cases h⟩
    rintro u H' ⟨neg, rfl, rfl, hnm⟩
    walk_at "g"
    refine x_ifJ (fun σ' H' => ∃ (S' : Hp) (vs : List V) (as : List Arc), ∃ z10 z11 : Option V, σ' = [some x, some (.int w), some (.int n), some (.int m), some (.int g), some (.int s), some (.ref p), z7, z8, some (.bl bad), z10, z11, some (.bl neg), none] ∧ Wd K S' H' ((p, .lst vs) :: []) ∧ Same S5 S' ∧ DpAll K S' vs (as.map arcD) ∧ as.length = m.toNat ∧
        (∀ a ∈ as, a.r ≤ 10) ∧ (bad = false → neg = false → ∀ a ∈ as, BaseA w n g a) ∧ (bad = true ∨ neg = true → ¬ Good5 w n as s g)) ?_ ?_
    · intro nx' hnx
      walk_at "go"
      refine x_ite (fun hb => ?_) (fun hb => ?_)
      rotate_left
      · walk_at "go"
        refine hnx _ _ ⟨S5, vs, as, _, _, rfl, W5, Same.refl _, hA, hal, hr, fun h _ => hb1 h, fun hh => ?_⟩
        rcases hh with hh | hh
        · obtain ⟨a, ha, hbad⟩ := hb2 hh
          exact bad_not w0 w1 ha hbad
        · rw [hb] at hh
          cases hh
      obtain ⟨hw, hm⟩ := hnm hb
      have f0 := Int.emod_nonneg (mix ns 55) (show m ≠ 0 by omega)
      have f1 := Int.emod_lt_of_pos (mix ns 55) (show 0 < m by omega)
      walk_at "go"
      generalize mix ns 55 % m = at0 at *
      have hin : atI (as.map arcD) at0 = some (arcD (nth as at0)) := atI_map f0 (by omega)
      have hvl : vs.length = as.length := by rw [dpAll_len hA, List.length_map]
      refine x_ixA 0 W5 rfl hA hin (kn_tup fun ua hua => ?_)
      walk_at "go"
      refine x_slT W5 hua (fun h => by have := h.2; simp [HT.sIx] at this) (fun S6 H6 v6 W6 hS6 hv6 => ?_)
      walk_at "go"
      rename_i S7 H7 v7 W7 hS7 hv7
      refine x_catT W7 (dp_mono hS7 hv6) hv7 (by simp [cutD, HT.sIx]) (by simp) (by simp [cutD, HT.sIx]) (fun S8 H8 v8 W8 hS8 hv8 => ?_)
      have hA8 : DpAll K S8 vs (as.map arcD) := dpAll_mono (by walk_at "same") hA
      have hv8' : Dp K S8 v8 (arcD ⟨(nth as at0).s, (nth as at0).t, -1, 1⟩) := hv8
      walk_at "go"
      refine x_setO 0 W8 rfl (ixN_of f0 (by omega)) (fun H9 W9 => ?_)
      walk_at "go"
      refine hnx _ _ ⟨S8, _, as.set at0.toNat ⟨(nth as at0).s, (nth as at0).t, -1, 1⟩, _, _, rfl, W9, by walk_at "same", ?_, by rw [List.length_set]; exact hal, fun a ha => ?_, fun _ h => (by rw [hb] at h; cases h), fun _ => ?_⟩
      · rw [List.map_set]
        exact dpAll_set _ hA8 hv8'
      · rcases List.mem_or_eq_of_mem_set ha with h | h
        · exact hr a h
        · rw [h]
          show (-1 : Int) ≤ 10
          decide
      · have hmem : (⟨(nth as at0).s, (nth as at0).t, -1, 1⟩ : Arc) ∈ as.set at0.toNat ⟨(nth as at0).s, (nth as at0).t, -1, 1⟩ := List.mem_iff_getElem?.mpr ⟨at0.toNat, by rw [List.getElem?_set_self (by omega)]⟩
        rw [hw]
        exact neg_not hmem (show (-1 : Int) < 0 by decide)
    clear hb1 hb2 hA hal hr hnm W5 hx5 z10 z11
    clear vs as
    rintro σ' H6 ⟨S6, vs, as, z10, z11, rfl, W6, hS6, hA, hal, hr, hb1, hb2⟩
    refine x_giveN 0 W6 rfl hA (fun S7 W7 hS7 hv7 => ?_)
    replace W7 : Wd K S7 H6 [] := W7
    clear W6
    have hx7 : Dp K S7 x (.list (ns.map PyData.int)) := by walk_at "is"
    walk_at "g"
    refine x_cutV (fun u H' => ∃ b : Bool, u = .bl b ∧ H' = H6 ∧ (b = true ↔ bad = false ∧ neg = false)) ?_ ?_
    · intro Q' hQ
      walk_at "go"
      refine x_iteN (fun h1 => ?_) (fun h1 => ?_)
      · walk_at "go"
        exact hQ _ _ ⟨_, rfl, rfl, by rw [h1]; simp⟩
      · exact hQ _ _ ⟨_, rfl, rfl, by rw [h1]; simp⟩
    rintro u H' ⟨b, rfl, rfl, hb⟩
    walk_at "g"
    refine x_ifJ (fun σ' H' => ∃ b0' : Bool, σ' = [some x, some (.int w), some (.int n), some (.int m), some (.int g), some (.int s), some (.ref p), z7, z8, some (.bl bad), z10, z11, some (.bl neg), some (.bl b0')] ∧ Wd K S7 H' [] ∧ (b0' = true ↔ b = true ∧ (w < 3 → 1 ≤ n ∧ n ≤ 12 ∧ m ≤ 40))) ?_ ?_
    · intro nx' hnx
      walk_at "go"
      refine x_iteD (fun hw => ?_) (fun hw => ?_)
      rotate_left
      · walk_at "go"
        exact hnx _ _ ⟨b, rfl, by assumption, ⟨fun h => ⟨h, fun h2 => absurd h2 hw⟩, fun h => h.1⟩⟩
      walk_at "go"
      refine x_ite (fun hb => ?_) (fun hb => ?_)
      rotate_left
      · walk_at "go"
        exact hnx _ _ ⟨_, rfl, by assumption, iff_of_false Bool.false_ne_true fun h => by rw [hb] at h; exact absurd h.1 Bool.false_ne_true⟩
      walk_at "go"
      refine x_iteD (fun t0 => ?_) (fun t0 => ?_)
      rotate_left
      · walk_at "go"
        exact hnx _ _ ⟨_, rfl, by assumption, iff_of_false Bool.false_ne_true fun h => by have := h.2 hw; omega⟩
      walk_at "go"
      refine x_iteD (fun t1 => ?_) (fun t1 => ?_)
      rotate_left
      · walk_at "go"
        exact hnx _ _ ⟨_, rfl, by assumption, iff_of_false Bool.false_ne_true fun h => by have := h.2 hw; omega⟩
      walk_at "go"
      exact hnx _ _ ⟨_, rfl, by assumption, ⟨fun h => ⟨hb, fun _ => by simp at h; omega⟩, fun h => by have := h.2 hw; simp; omega⟩⟩
    rintro σ' H' ⟨b0', rfl, Wb0, hb0'⟩
    walk_at "g"
    refine x_ifJ (fun σ' H' => ∃ b1' : Bool, σ' = [some x, some (.int w), some (.int n), some (.int m), some (.int g), some (.int s), some (.ref p), z7, z8, some (.bl bad), z10, z11, some (.bl neg), some (.bl b1')] ∧ Wd K S7 H' [] ∧ (b1' = true ↔ b0' = true ∧ (w < 2 → 0 ≤ s ∧ s < n))) ?_ ?_
    · intro nx' hnx
      walk_at "go"
      refine x_iteD (fun hw => ?_) (fun hw => ?_)
      rotate_left
      · walk_at "go"
        exact hnx _ _ ⟨b0', rfl, by assumption, ⟨fun h => ⟨h, fun h2 => absurd h2 hw⟩, fun h => h.1⟩⟩
      walk_at "go"
      refine x_ite (fun hb => ?_) (fun hb => ?_)
      rotate_left
      · walk_at "go"
        exact hnx _ _ ⟨_, rfl, by assumption, iff_of_false Bool.false_ne_true fun h => by rw [hb] at h; exact absurd h.1 Bool.false_ne_true⟩
      walk_at "go"
      refine x_iteD (fun t0 => ?_) (fun t0 => ?_)
      rotate_left
      · walk_at "go"
        exact hnx _ _ ⟨_, rfl, by assumption, iff_of_false Bool.false_ne_true fun h => by have := h.2 hw; omega⟩
      walk_at "go"
      exact hnx _ _ ⟨_, rfl, by assumption, ⟨fun h => ⟨hb, fun _ => by simp at h; omega⟩, fun h => by have := h.2 hw; simp; omega⟩⟩
    rintro σ' H' ⟨b1', rfl, Wb1, hb1'⟩
    walk_at "g"
    refine x_ifJ (fun σ' H' => ∃ b2' : Bool, σ' = [some x, some (.int w), some (.int n), some (.int m), some (.int g), some (.int s), some (.ref p), z7, z8, some (.bl bad), z10, z11, some (.bl neg), some (.bl b2')] ∧ Wd K S7 H' [] ∧ (b2' = true ↔ b1' = true ∧ (w = 0 → 0 ≤ g ∧ g < n ∧ s ≠ g))) ?_ ?_
    · intro nx' hnx
      walk_at "go"
      refine x_iteD (fun hw => ?_) (fun hw => ?_)
      rotate_left
      · walk_at "go"
        exact hnx _ _ ⟨b1', rfl, by assumption, ⟨fun h => ⟨h, fun h2 => absurd h2 hw⟩, fun h => h.1⟩⟩
      walk_at "go"
      refine x_ite (fun hb => ?_) (fun hb => ?_)
      rotate_left
      · walk_at "go"
        exact hnx _ _ ⟨_, rfl, by assumption, iff_of_false Bool.false_ne_true fun h => by rw [hb] at h; exact absurd h.1 Bool.false_ne_true⟩
      walk_at "go"
      refine x_iteD (fun t0 => ?_) (fun t0 => ?_)
      rotate_left
      · walk_at "go"
        exact hnx _ _ ⟨_, rfl, by assumption, iff_of_false Bool.false_ne_true fun h => by have := h.2 hw; omega⟩
      walk_at "go"
      refine x_iteD (fun t1 => ?_) (fun t1 => ?_)
      rotate_left
      · walk_at "go"
        exact hnx _ _ ⟨_, rfl, by assumption, iff_of_false Bool.false_ne_true fun h => by have := h.2 hw; omega⟩
      walk_at "go"
      exact hnx _ _ ⟨_, rfl, by assumption, ⟨fun h => ⟨hb, fun _ => by simp at h; omega⟩, fun h => by have := h.2 hw; simp; omega⟩⟩
    rintro σ' H' ⟨b2', rfl, Wb2, hb2'⟩
    walk_at "g"
    refine x_ifJ (fun σ' H' => ∃ b3' : Bool, σ' = [some x, some (.int w), some (.int n), some (.int m), some (.int g), some (.int s), some (.ref p), z7, z8, some (.bl bad), z10, z11, some (.bl neg), some (.bl b3')] ∧ Wd K S7 H' [] ∧ (b3' = true ↔ b2' = true ∧ (w = 3 → n ≤ 11 ∧ m ≤ 29 ∧ (0 < n ∨ m = 0)))) ?_ ?_
    · intro nx' hnx
      walk_at "go"
      refine x_iteD (fun hw => ?_) (fun hw => ?_)
      rotate_left
      · walk_at "go"
        exact hnx _ _ ⟨b2', rfl, by assumption, ⟨fun h => ⟨h, fun h2 => absurd h2 hw⟩, fun h => h.1⟩⟩
      walk_at "go"
      refine x_ite (fun hb => ?_) (fun hb => ?_)
      rotate_left
      · walk_at "go"
        exact hnx _ _ ⟨_, rfl, by assumption, iff_of_false Bool.false_ne_true fun h => by rw [hb] at h; exact absurd h.1 Bool.false_ne_true⟩
      walk_at "go"
      refine x_iteD (fun t0 => ?_) (fun t0 => ?_)
      rotate_left
      · walk_at "go"
        exact hnx _ _ ⟨_, rfl, by assumption, iff_of_false Bool.false_ne_true fun h => by have := h.2 hw; omega⟩
      walk_at "go"
      refine x_iteD (fun t1 => ?_) (fun t1 => ?_)
      rotate_left
      · walk_at "go"
        exact hnx _ _ ⟨_, rfl, by assumption, iff_of_false Bool.false_ne_true fun h => by have := h.2 hw; omega⟩
      walk_at "go"
      refine x_iteD (fun t2 => ?_) (fun t2 => ?_)
      · walk_at "go"
        exact hnx _ _ ⟨_, rfl, by assumption, iff_of_true rfl ⟨hb, fun _ => by omega⟩⟩
      · walk_at "go"
        exact hnx _ _ ⟨_, rfl, by assumption, ⟨fun h => ⟨hb, fun _ => by simp at h; omega⟩, fun h => by have := h.2 hw; simp; omega⟩⟩
    rintro σ' H' ⟨b3', rfl, Wb3, hb3⟩
    walk_at "g"
    refine x_ifJ (fun σ' H' => ∃ b4' : Bool, σ' = [some x, some (.int w), some (.int n), some (.int m), some (.int g), some (.int s), some (.ref p), z7, z8, some (.bl bad), z10, z11, some (.bl neg), some (.bl b4')] ∧ Wd K S7 H' [] ∧ (b4' = true ↔ b3' = true ∧ (w = 4 → n ≤ 5 ∧ 0 ≤ g ∧ g ≤ 5 ∧ m ≤ 30 ∧ ((0 < n ∧ 0 < g) ∨ m = 0)))) ?_ ?_
    · intro nx' hnx
      walk_at "go"
      refine x_iteD (fun hw => ?_) (fun hw => ?_)
      rotate_left
      · walk_at "go"
        exact hnx _ _ ⟨b3', rfl, by assumption, ⟨fun h => ⟨h, fun h2 => absurd h2 hw⟩, fun h => h.1⟩⟩
      walk_at "go"
      refine x_ite (fun hb => ?_) (fun hb => ?_)
      rotate_left
      · walk_at "go"
        exact hnx _ _ ⟨_, rfl, by assumption, iff_of_false Bool.false_ne_true fun h => by rw [hb] at h; exact absurd h.1 Bool.false_ne_true⟩
      walk_at "go"
      refine x_iteD (fun t0 => ?_) (fun t0 => ?_)
      rotate_left
      · walk_at "go"
        exact hnx _ _ ⟨_, rfl, by assumption, iff_of_false Bool.false_ne_true fun h => by have := h.2 hw; omega⟩
      walk_at "go"
      refine x_iteD (fun t1 => ?_) (fun t1 => ?_)
      rotate_left
      · walk_at "go"
        exact hnx _ _ ⟨_, rfl, by assumption, iff_of_false Bool.false_ne_true fun h => by have := h.2 hw; omega⟩
      walk_at "go"
      refine x_iteD (fun t2 => ?_) (fun t2 => ?_)
      rotate_left
      · walk_at "go"
        exact hnx _ _ ⟨_, rfl, by assumption, iff_of_false Bool.false_ne_true fun h => by have := h.2 hw; omega⟩
      walk_at "go"
      refine x_iteD (fun t3 => ?_) (fun t3 => ?_)
      rotate_left
      · walk_at "go"
        exact hnx _ _ ⟨_, rfl, by assumption, iff_of_false Bool.false_ne_true fun h => by have := h.2 hw; omega⟩
      walk_at "go"
      refine x_iteD (fun t4 => ?_) (fun t4 => ?_)
      · walk_at "go"
        refine x_ite (fun t5 => ?_) (fun t5 => ?_)
        · have t5' := of_decide_eq_true t5
          walk_at "go"
          exact hnx _ _ ⟨_, rfl, by assumption, iff_of_true rfl ⟨hb, fun _ => by omega⟩⟩
        · have t5' := of_decide_eq_false t5
          walk_at "go"
          exact hnx _ _ ⟨_, rfl, by assumption, ⟨fun h => ⟨hb, fun _ => by simp at h; omega⟩, fun h => by have := h.2 hw; simp; omega⟩⟩
      · walk_at "go"
        exact hnx _ _ ⟨_, rfl, by assumption, ⟨fun h => ⟨hb, fun _ => by simp at h; omega⟩, fun h => by have := h.2 hw; simp; omega⟩⟩
    rintro σ' H' ⟨b4', rfl, Wb4, hb4⟩
    have hgood : b4' = true ↔ Good5 w n as s g := by
      have hml : (as.length : Int) = m := by omega
      by_cases hbn : bad = false ∧ neg = false
      · rw [good_iff w0 w1 n0.1 (hb1 hbn.1 hbn.2), hml]
        unfold good5
        rw [hb4, hb3, hb2', hb1', hb0', hb]
        simp only [hbn, and_self, true_and]
        constructor
        · rintro ⟨⟨⟨⟨h0, h1⟩, h2⟩, h3⟩, h4⟩
          exact ⟨h0, h1, h2, h3, h4⟩
        · rintro ⟨h0, h1, h2, h3, h4⟩
          exact ⟨⟨⟨⟨h0, h1⟩, h2⟩, h3⟩, h4⟩
      · refine iff_of_false (fun h => ?_) (hb2 ?_)
        · have h1 := (hb4.mp h).1
          have h2 := (hb3.mp h1).1
          have h3 := (hb2'.mp h2).1
          have h4 := (hb1'.mp h3).1
          have h5 := (hb0'.mp h4).1
          exact hbn (hb.mp h5)
        · cases bad
          · cases neg
            · exact absurd ⟨rfl, rfl⟩ hbn
            · exact .inr rfl
          · exact .inl rfl
    walk_at "go"
    refine .mk Wb4 (by walk_at "is") (by omega) (by omega) (fun a ha => by have := hr a ha; omega) (fun G S8 H8 O8 W8 hS8 => ?_) (fun G S8 H8 O8 W8 hS8 => ?_)
    · walk_at "go"
      refine x_lst W8 (ds := [.str "no", .str "ok"]) (.cons (.str _) (.cons (.str _) .nil)) (by simp) (fun S9 H9 v9 W9 hS9 hv9 => ?_)
      rw [hgood.mpr G]
      walk_at "go"
      rw [decide_eq_true rfl]
      exact k _
    · walk_at "go"
      refine x_lst W8 (ds := [.str "no", .str "ok"]) (.cons (.str _) (.cons (.str _) .nil)) (by simp) (fun S9 H9 v9 W9 hS9 hv9 => ?_)
      have hf : b4' = false := by
        cases h : b4' with
        | false => rfl
        | true => exact absurd (hgood.mp h) G
      rw [hf]
      walk_at "go"
      rw [decide_eq_true rfl]
      exact k _
end
end SB
namespace SB
open PySem PySem.Spec PyProof.Rows L2
theorem all_mk {K : PySem.W.Frag} {h : Heap} {mg : Str → Option Value} {fa f_look f_steps_from f_reached f_way_back f_greatest f_nearest f_as_arcs_differences f_numbers_for f_as_arcs_pairing f_paired f_root_of f_joined f_law_cell f_law_mix f_law_kind f_law_asked f_law f_Ways_init f_Ways_shorten f_Ways_ring c_Ways c_BestError c_NoNetwork c_NoTable c_NoRatio c_NoWay : Addr}
    {od_look an_look : Option Addr} {sl_look : Array (Option Value)} {oc_look kV_look dc_look pm_look cd_look ct_look : Value}
    {od_steps_from an_steps_from : Option Addr} {sl_steps_from : Array (Option Value)} {oc_steps_from kV_steps_from dc_steps_from pm_steps_from cd_steps_from ct_steps_from : Value}
    {od_reached an_reached : Option Addr} {sl_reached : Array (Option Value)} {oc_reached kV_reached dc_reached pm_reached cd_reached ct_reached : Value}
    {od_way_back an_way_back : Option Addr} {sl_way_back : Array (Option Value)} {oc_way_back kV_way_back dc_way_back pm_way_back cd_way_back ct_way_back : Value}
    {od_greatest an_greatest : Option Addr} {sl_greatest : Array (Option Value)} {oc_greatest kV_greatest dc_greatest pm_greatest cd_greatest ct_greatest : Value}
    {od_nearest an_nearest : Option Addr} {sl_nearest : Array (Option Value)} {oc_nearest kV_nearest dc_nearest pm_nearest cd_nearest ct_nearest : Value}
    {od_as_arcs_differences an_as_arcs_differences : Option Addr} {sl_as_arcs_differences : Array (Option Value)} {oc_as_arcs_differences kV_as_arcs_differences dc_as_arcs_differences pm_as_arcs_differences cd_as_arcs_differences ct_as_arcs_differences : Value}
    {od_numbers_for an_numbers_for : Option Addr} {sl_numbers_for : Array (Option Value)} {oc_numbers_for kV_numbers_for dc_numbers_for pm_numbers_for cd_numbers_for ct_numbers_for : Value}
    {od_as_arcs_pairing an_as_arcs_pairing : Option Addr} {sl_as_arcs_pairing : Array (Option Value)} {oc_as_arcs_pairing kV_as_arcs_pairing dc_as_arcs_pairing pm_as_arcs_pairing cd_as_arcs_pairing ct_as_arcs_pairing : Value}
    {od_paired an_paired : Option Addr} {sl_paired : Array (Option Value)} {oc_paired kV_paired dc_paired pm_paired cd_paired ct_paired : Value}
    {od_root_of an_root_of : Option Addr} {sl_root_of : Array (Option Value)} {oc_root_of kV_root_of dc_root_of pm_root_of cd_root_of ct_root_of : Value}
    {od_joined an_joined : Option Addr} {sl_joined : Array (Option Value)} {oc_joined kV_joined dc_joined pm_joined cd_joined ct_joined : Value}
    {od_law_cell an_law_cell : Option Addr} {sl_law_cell : Array (Option Value)} {oc_law_cell kV_law_cell dc_law_cell pm_law_cell cd_law_cell ct_law_cell : Value}
    {od_law_mix an_law_mix : Option Addr} {sl_law_mix : Array (Option Value)} {oc_law_mix kV_law_mix dc_law_mix pm_law_mix cd_law_mix ct_law_mix : Value}
    {od_law_kind an_law_kind : Option Addr} {sl_law_kind : Array (Option Value)} {oc_law_kind kV_law_kind dc_law_kind pm_law_kind cd_law_kind ct_law_kind : Value}
    {od_law_asked an_law_asked : Option Addr} {sl_law_asked : Array (Option Value)} {oc_law_asked kV_law_asked dc_law_asked pm_law_asked cd_law_asked ct_law_asked : Value}
    {od_law an_law : Option Addr} {sl_law : Array (Option Value)} {oc_law kV_law dc_law pm_law cd_law ct_law : Value}
    {od_Ways_init an_Ways_init : Option Addr} {sl_Ways_init : Array (Option Value)} {oc_Ways_init kV_Ways_init dc_Ways_init pm_Ways_init cd_Ways_init ct_Ways_init : Value}
    {od_Ways_shorten an_Ways_shorten : Option Addr} {sl_Ways_shorten : Array (Option Value)} {oc_Ways_shorten kV_Ways_shorten dc_Ways_shorten pm_Ways_shorten cd_Ways_shorten ct_Ways_shorten : Value}
    {od_Ways_ring an_Ways_ring : Option Addr} {sl_Ways_ring : Array (Option Value)} {oc_Ways_ring kV_Ways_ring dc_Ways_ring pm_Ways_ring cd_Ways_ring ct_Ways_ring : Value}
    {t_MOST_PLACES t_MOST_ARCS t_MOST_BOUNDS t_MOST_ROWS t_MOST_PAIRS : Tok} (X : K.In h) (G : h.Ns mainGlobals mg) (hfa : mg "law" = some (.ref fa))
    (B_Ways : PySem.W.nsIn K mainGlobals "Ways" = some (some (.ref c_Ways)))
    (A_look : PySem.W.nsIn K mainGlobals "look" = some (some (.ref f_look)))
    (L_look : K.lookup f_look = some ⟨oc_look, od_look, .func (PySem.W.fnOf "look" "look" (defArgs s_look) (defBody s_look) (defScope s_look) .none kV_look dc_look pm_look an_look cd_look ct_look), sl_look⟩)
    (C_look : PySem.W.codeIn K cd_look "look" = true)
    (K_look : PySem.W.keepIn K (.ref f_look) = true)
    (A_steps_from : PySem.W.nsIn K mainGlobals "steps_from" = some (some (.ref f_steps_from)))
    (L_steps_from : K.lookup f_steps_from = some ⟨oc_steps_from, od_steps_from, .func (PySem.W.fnOf "steps_from" "steps_from" (defArgs s_steps_from) (defBody s_steps_from) (defScope s_steps_from) .none kV_steps_from dc_steps_from pm_steps_from an_steps_from cd_steps_from ct_steps_from), sl_steps_from⟩)
    (C_steps_from : PySem.W.codeIn K cd_steps_from "steps_from" = true)
    (K_steps_from : PySem.W.keepIn K (.ref f_steps_from) = true)
    (A_reached : PySem.W.nsIn K mainGlobals "reached" = some (some (.ref f_reached)))
    (L_reached : K.lookup f_reached = some ⟨oc_reached, od_reached, .func (PySem.W.fnOf "reached" "reached" (defArgs s_reached) (defBody s_reached) (defScope s_reached) .none kV_reached dc_reached pm_reached an_reached cd_reached ct_reached), sl_reached⟩)
    (C_reached : PySem.W.codeIn K cd_reached "reached" = true)
    (K_reached : PySem.W.keepIn K (.ref f_reached) = true)
    (A_way_back : PySem.W.nsIn K mainGlobals "way_back" = some (some (.ref f_way_back)))
    (L_way_back : K.lookup f_way_back = some ⟨oc_way_back, od_way_back, .func (PySem.W.fnOf "way_back" "way_back" (defArgs s_way_back) (defBody s_way_back) (defScope s_way_back) .none kV_way_back dc_way_back pm_way_back an_way_back cd_way_back ct_way_back), sl_way_back⟩)
    (C_way_back : PySem.W.codeIn K cd_way_back "way_back" = true)
    (K_way_back : PySem.W.keepIn K (.ref f_way_back) = true)
    (A_greatest : PySem.W.nsIn K mainGlobals "greatest" = some (some (.ref f_greatest)))
    (L_greatest : K.lookup f_greatest = some ⟨oc_greatest, od_greatest, .func (PySem.W.fnOf "greatest" "greatest" (defArgs s_greatest) (defBody s_greatest) (defScope s_greatest) .none kV_greatest dc_greatest pm_greatest an_greatest cd_greatest ct_greatest), sl_greatest⟩)
    (C_greatest : PySem.W.codeIn K cd_greatest "greatest" = true)
    (K_greatest : PySem.W.keepIn K (.ref f_greatest) = true)
    (A_nearest : PySem.W.nsIn K mainGlobals "nearest" = some (some (.ref f_nearest)))
    (L_nearest : K.lookup f_nearest = some ⟨oc_nearest, od_nearest, .func (PySem.W.fnOf "nearest" "nearest" (defArgs s_nearest) (defBody s_nearest) (defScope s_nearest) .none kV_nearest dc_nearest pm_nearest an_nearest cd_nearest ct_nearest), sl_nearest⟩)
    (C_nearest : PySem.W.codeIn K cd_nearest "nearest" = true)
    (K_nearest : PySem.W.keepIn K (.ref f_nearest) = true)
    (A_as_arcs_differences : PySem.W.nsIn K mainGlobals "as_arcs_differences" = some (some (.ref f_as_arcs_differences)))
    (L_as_arcs_differences : K.lookup f_as_arcs_differences = some ⟨oc_as_arcs_differences, od_as_arcs_differences, .func (PySem.W.fnOf "as_arcs" "as_arcs" (defArgs s_as_arcs_differences) (defBody s_as_arcs_differences) (defScope s_as_arcs_differences) .none kV_as_arcs_differences dc_as_arcs_differences pm_as_arcs_differences an_as_arcs_differences cd_as_arcs_differences ct_as_arcs_differences), sl_as_arcs_differences⟩)
    (C_as_arcs_differences : PySem.W.codeIn K cd_as_arcs_differences "as_arcs" = true)
    (K_as_arcs_differences : PySem.W.keepIn K (.ref f_as_arcs_differences) = true)
    (A_numbers_for : PySem.W.nsIn K mainGlobals "numbers_for" = some (some (.ref f_numbers_for)))
    (L_numbers_for : K.lookup f_numbers_for = some ⟨oc_numbers_for, od_numbers_for, .func (PySem.W.fnOf "numbers_for" "numbers_for" (defArgs s_numbers_for) (defBody s_numbers_for) (defScope s_numbers_for) .none kV_numbers_for dc_numbers_for pm_numbers_for an_numbers_for cd_numbers_for ct_numbers_for), sl_numbers_for⟩)
    (C_numbers_for : PySem.W.codeIn K cd_numbers_for "numbers_for" = true)
    (K_numbers_for : PySem.W.keepIn K (.ref f_numbers_for) = true)
    (A_as_arcs_pairing : PySem.W.nsIn K mainGlobals "as_arcs_pairing" = some (some (.ref f_as_arcs_pairing)))
    (L_as_arcs_pairing : K.lookup f_as_arcs_pairing = some ⟨oc_as_arcs_pairing, od_as_arcs_pairing, .func (PySem.W.fnOf "as_arcs" "as_arcs" (defArgs s_as_arcs_pairing) (defBody s_as_arcs_pairing) (defScope s_as_arcs_pairing) .none kV_as_arcs_pairing dc_as_arcs_pairing pm_as_arcs_pairing an_as_arcs_pairing cd_as_arcs_pairing ct_as_arcs_pairing), sl_as_arcs_pairing⟩)
    (C_as_arcs_pairing : PySem.W.codeIn K cd_as_arcs_pairing "as_arcs" = true)
    (K_as_arcs_pairing : PySem.W.keepIn K (.ref f_as_arcs_pairing) = true)
    (A_paired : PySem.W.nsIn K mainGlobals "paired" = some (some (.ref f_paired)))
    (L_paired : K.lookup f_paired = some ⟨oc_paired, od_paired, .func (PySem.W.fnOf "paired" "paired" (defArgs s_paired) (defBody s_paired) (defScope s_paired) .none kV_paired dc_paired pm_paired an_paired cd_paired ct_paired), sl_paired⟩)
    (C_paired : PySem.W.codeIn K cd_paired "paired" = true)
    (K_paired : PySem.W.keepIn K (.ref f_paired) = true)
    (A_root_of : PySem.W.nsIn K mainGlobals "root_of" = some (some (.ref f_root_of)))
    (L_root_of : K.lookup f_root_of = some ⟨oc_root_of, od_root_of, .func (PySem.W.fnOf "root_of" "root_of" (defArgs s_root_of) (defBody s_root_of) (defScope s_root_of) .none kV_root_of dc_root_of pm_root_of an_root_of cd_root_of ct_root_of), sl_root_of⟩)
    (C_root_of : PySem.W.codeIn K cd_root_of "root_of" = true)
    (K_root_of : PySem.W.keepIn K (.ref f_root_of) = true)
    (A_joined : PySem.W.nsIn K mainGlobals "joined" = some (some (.ref f_joined)))
    (L_joined : K.lookup f_joined = some ⟨oc_joined, od_joined, .func (PySem.W.fnOf "joined" "joined" (defArgs s_joined) (defBody s_joined) (defScope s_joined) .none kV_joined dc_joined pm_joined an_joined cd_joined ct_joined), sl_joined⟩)
    (C_joined : PySem.W.codeIn K cd_joined "joined" = true)
    (K_joined : PySem.W.keepIn K (.ref f_joined) = true)
    (A_law_cell : PySem.W.nsIn K mainGlobals "_law_cell" = some (some (.ref f_law_cell)))
    (L_law_cell : K.lookup f_law_cell = some ⟨oc_law_cell, od_law_cell, .func (PySem.W.fnOf "_law_cell" "_law_cell" (defArgs s_law_cell) (defBody s_law_cell) (defScope s_law_cell) .none kV_law_cell dc_law_cell pm_law_cell an_law_cell cd_law_cell ct_law_cell), sl_law_cell⟩)
    (C_law_cell : PySem.W.codeIn K cd_law_cell "_law_cell" = true)
    (K_law_cell : PySem.W.keepIn K (.ref f_law_cell) = true)
    (A_law_mix : PySem.W.nsIn K mainGlobals "_law_mix" = some (some (.ref f_law_mix)))
    (L_law_mix : K.lookup f_law_mix = some ⟨oc_law_mix, od_law_mix, .func (PySem.W.fnOf "_law_mix" "_law_mix" (defArgs s_law_mix) (defBody s_law_mix) (defScope s_law_mix) .none kV_law_mix dc_law_mix pm_law_mix an_law_mix cd_law_mix ct_law_mix), sl_law_mix⟩)
    (C_law_mix : PySem.W.codeIn K cd_law_mix "_law_mix" = true)
    (K_law_mix : PySem.W.keepIn K (.ref f_law_mix) = true)
    (A_law_kind : PySem.W.nsIn K mainGlobals "_law_kind" = some (some (.ref f_law_kind)))
    (L_law_kind : K.lookup f_law_kind = some ⟨oc_law_kind, od_law_kind, .func (PySem.W.fnOf "_law_kind" "_law_kind" (defArgs s_law_kind) (defBody s_law_kind) (defScope s_law_kind) .none kV_law_kind dc_law_kind pm_law_kind an_law_kind cd_law_kind ct_law_kind), sl_law_kind⟩)
    (C_law_kind : PySem.W.codeIn K cd_law_kind "_law_kind" = true)
    (K_law_kind : PySem.W.keepIn K (.ref f_law_kind) = true)
    (A_law_asked : PySem.W.nsIn K mainGlobals "_law_asked" = some (some (.ref f_law_asked)))
    (L_law_asked : K.lookup f_law_asked = some ⟨oc_law_asked, od_law_asked, .func (PySem.W.fnOf "_law_asked" "_law_asked" (defArgs s_law_asked) (defBody s_law_asked) (defScope s_law_asked) .none kV_law_asked dc_law_asked pm_law_asked an_law_asked cd_law_asked ct_law_asked), sl_law_asked⟩)
    (C_law_asked : PySem.W.codeIn K cd_law_asked "_law_asked" = true)
    (K_law_asked : PySem.W.keepIn K (.ref f_law_asked) = true)
    (A_law : PySem.W.nsIn K mainGlobals "law" = some (some (.ref f_law)))
    (L_law : K.lookup f_law = some ⟨oc_law, od_law, .func (PySem.W.fnOf "law" "law" (defArgs s_law) (defBody s_law) (defScope s_law) .none kV_law dc_law pm_law an_law cd_law ct_law), sl_law⟩)
    (C_law : PySem.W.codeIn K cd_law "law" = true)
    (K_law : PySem.W.keepIn K (.ref f_law) = true)
    (A_Ways_init : PySem.W.findIn K (.ref c_Ways) "__init__" = some (some (.ref f_Ways_init)))
    (J_Ways_init : PySem.W.isFn K (.ref f_Ways_init) = true)
    (L_Ways_init : K.lookup f_Ways_init = some ⟨oc_Ways_init, od_Ways_init, .func (PySem.W.fnOf "__init__" "Ways.__init__" (defArgs s_Ways_init) (defBody s_Ways_init) (defScope s_Ways_init) .none kV_Ways_init dc_Ways_init pm_Ways_init an_Ways_init cd_Ways_init ct_Ways_init), sl_Ways_init⟩)
    (C_Ways_init : PySem.W.codeIn K cd_Ways_init "Ways.__init__" = true)
    (K_Ways_init : PySem.W.keepIn K (.ref f_Ways_init) = true)
    (A_Ways_shorten : PySem.W.findIn K (.ref c_Ways) "shorten" = some (some (.ref f_Ways_shorten)))
    (J_Ways_shorten : PySem.W.isFn K (.ref f_Ways_shorten) = true)
    (L_Ways_shorten : K.lookup f_Ways_shorten = some ⟨oc_Ways_shorten, od_Ways_shorten, .func (PySem.W.fnOf "shorten" "Ways.shorten" (defArgs s_Ways_shorten) (defBody s_Ways_shorten) (defScope s_Ways_shorten) .none kV_Ways_shorten dc_Ways_shorten pm_Ways_shorten an_Ways_shorten cd_Ways_shorten ct_Ways_shorten), sl_Ways_shorten⟩)
    (C_Ways_shorten : PySem.W.codeIn K cd_Ways_shorten "Ways.shorten" = true)
    (K_Ways_shorten : PySem.W.keepIn K (.ref f_Ways_shorten) = true)
    (A_Ways_ring : PySem.W.findIn K (.ref c_Ways) "ring" = some (some (.ref f_Ways_ring)))
    (J_Ways_ring : PySem.W.isFn K (.ref f_Ways_ring) = true)
    (L_Ways_ring : K.lookup f_Ways_ring = some ⟨oc_Ways_ring, od_Ways_ring, .func (PySem.W.fnOf "ring" "Ways.ring" (defArgs s_Ways_ring) (defBody s_Ways_ring) (defScope s_Ways_ring) .none kV_Ways_ring dc_Ways_ring pm_Ways_ring an_Ways_ring cd_Ways_ring ct_Ways_ring), sl_Ways_ring⟩)
    (C_Ways_ring : PySem.W.codeIn K cd_Ways_ring "Ways.ring" = true)
    (K_Ways_ring : PySem.W.keepIn K (.ref f_Ways_ring) = true)
    (pg_Ways : PySem.W.plainGet K c_Ways Str.empty = true)
    (hd_Ways : PySem.W.hasDictIn K c_Ways = true)
    (po_Ways : PySem.W.plainOver K c_Ways = true)
    (sa_Ways : PySem.W.findIn K (.ref c_Ways) "__setattr__" = some (some (.builtin "object.__setattr__")))
    (mk_Ways : PySem.W.makesIn K c_Ways = true)
    (kc_Ways : PySem.W.keepIn K (.ref c_Ways) = true)
    (n_Ways_arcs : PySem.W.findIn K (.ref c_Ways) "arcs" = some none)
    (n_Ways_lengths : PySem.W.findIn K (.ref c_Ways) "lengths" = some none)
    (n_Ways_last : PySem.W.findIn K (.ref c_Ways) "last" = some none)
    (B_BestError : PySem.W.nsIn K mainGlobals "BestError" = some (some (.ref c_BestError)))
    (K_BestError : PySem.W.keepIn K (.ref c_BestError) = true)
    (X_BestError : PySem.W.excIn K c_BestError veT "ValueError.__new__" = true)
    (S_BestError : PySem.W.subIn K (.ref c_BestError) (.type "BaseException") = some true)
    (T_BestError : PySem.W.typeIn K (.ref c_BestError) = some (.type "type"))
    (I_BestError : PySem.W.isClsIn K c_BestError = true)
    (B_NoNetwork : PySem.W.nsIn K mainGlobals "NoNetwork" = some (some (.ref c_NoNetwork)))
    (K_NoNetwork : PySem.W.keepIn K (.ref c_NoNetwork) = true)
    (X_NoNetwork : PySem.W.excIn K c_NoNetwork veT "ValueError.__new__" = true)
    (S_NoNetwork : PySem.W.subIn K (.ref c_NoNetwork) (.type "BaseException") = some true)
    (T_NoNetwork : PySem.W.typeIn K (.ref c_NoNetwork) = some (.type "type"))
    (I_NoNetwork : PySem.W.isClsIn K c_NoNetwork = true)
    (B_NoTable : PySem.W.nsIn K mainGlobals "NoTable" = some (some (.ref c_NoTable)))
    (K_NoTable : PySem.W.keepIn K (.ref c_NoTable) = true)
    (X_NoTable : PySem.W.excIn K c_NoTable veT "ValueError.__new__" = true)
    (S_NoTable : PySem.W.subIn K (.ref c_NoTable) (.type "BaseException") = some true)
    (T_NoTable : PySem.W.typeIn K (.ref c_NoTable) = some (.type "type"))
    (I_NoTable : PySem.W.isClsIn K c_NoTable = true)
    (B_NoRatio : PySem.W.nsIn K mainGlobals "NoRatio" = some (some (.ref c_NoRatio)))
    (K_NoRatio : PySem.W.keepIn K (.ref c_NoRatio) = true)
    (X_NoRatio : PySem.W.excIn K c_NoRatio veT "ValueError.__new__" = true)
    (S_NoRatio : PySem.W.subIn K (.ref c_NoRatio) (.type "BaseException") = some true)
    (T_NoRatio : PySem.W.typeIn K (.ref c_NoRatio) = some (.type "type"))
    (I_NoRatio : PySem.W.isClsIn K c_NoRatio = true)
    (B_NoWay : PySem.W.nsIn K mainGlobals "NoWay" = some (some (.ref c_NoWay)))
    (K_NoWay : PySem.W.keepIn K (.ref c_NoWay) = true)
    (X_NoWay : PySem.W.excIn K c_NoWay veT "ValueError.__new__" = true)
    (S_NoWay : PySem.W.subIn K (.ref c_NoWay) (.type "BaseException") = some true)
    (T_NoWay : PySem.W.typeIn K (.ref c_NoWay) = some (.type "type"))
    (I_NoWay : PySem.W.isClsIn K c_NoWay = true)
    (e_NoNetwork_BestError : PySem.W.subIn K (.ref c_NoNetwork) (.ref c_BestError) = some true)
    (yga_NoNetwork : PySem.W.findIn K (.ref c_NoNetwork) "__getattribute__" = some (some (.builtin "BaseException.__getattribute__")))
    (ygg_NoNetwork : PySem.W.findIn K (.ref c_NoNetwork) "__getattr__" = some none)
    (yhh_NoNetwork : PySem.W.hasDictIn K c_NoNetwork = true)
    (ycl_NoNetwork : PySem.W.findIn K (.ref c_NoNetwork) "__class__" = some (some (.builtin "object.__class__")))
    (ymo_NoNetwork : PySem.W.mroIn K c_NoNetwork (.type "object") = some true)
    (ysp_NoNetwork : PySem.W.specialIn K (.builtin "object.__class__") "__get__" = some (some (.builtin "getset_descriptor.__get__")))
    (ytk_NoNetwork : PySem.W.takesIn K (.builtin "object.__class__") = some true)
    (v_NoNetwork_NoRatio : c_NoNetwork ≠ c_NoRatio)
    (q_NoNetwork_NoRatio : PySem.W.subIn K (.ref c_NoNetwork) (.ref c_NoRatio) = some false)
    (v_NoNetwork_NoTable : c_NoNetwork ≠ c_NoTable)
    (q_NoNetwork_NoTable : PySem.W.subIn K (.ref c_NoNetwork) (.ref c_NoTable) = some false)
    (v_NoNetwork_NoWay : c_NoNetwork ≠ c_NoWay)
    (q_NoNetwork_NoWay : PySem.W.subIn K (.ref c_NoNetwork) (.ref c_NoWay) = some false)
    (q_NoNetwork_ValueError : PySem.W.subIn K (.ref c_NoNetwork) (.type "ValueError") = some true)
    (g_MOST_PLACES : PySem.W.nsIn K mainGlobals "MOST_PLACES" = some (some (.int 12 t_MOST_PLACES)))
    (g_MOST_ARCS : PySem.W.nsIn K mainGlobals "MOST_ARCS" = some (some (.int 40 t_MOST_ARCS)))
    (g_MOST_BOUNDS : PySem.W.nsIn K mainGlobals "MOST_BOUNDS" = some (some (.int 29 t_MOST_BOUNDS)))
    (g_MOST_ROWS : PySem.W.nsIn K mainGlobals "MOST_ROWS" = some (some (.int 5 t_MOST_ROWS)))
    (g_MOST_PAIRS : PySem.W.nsIn K mainGlobals "MOST_PAIRS" = some (some (.int 30 t_MOST_PAIRS)))
    (z_ValueError : PySem.W.nsIn K mainGlobals "ValueError" = some none)
    (z_all : PySem.W.nsIn K mainGlobals "all" = some none)
    (z_any : PySem.W.nsIn K mainGlobals "any" = some none)
    (z_int : PySem.W.nsIn K mainGlobals "int" = some none)
    (z_isinstance : PySem.W.nsIn K mainGlobals "isinstance" = some none)
    (z_len : PySem.W.nsIn K mainGlobals "len" = some none)
    (z_list : PySem.W.nsIn K mainGlobals "list" = some none)
    (z_max : PySem.W.nsIn K mainGlobals "max" = some none)
    (z_min : PySem.W.nsIn K mainGlobals "min" = some none)
    (z_range : PySem.W.nsIn K mainGlobals "range" = some none)
    (z_sorted : PySem.W.nsIn K mainGlobals "sorted" = some none)
    : ∃ d : Ad, Txt K mg d ∧ d.a_law = fa ∧ ∀ (s : Shared) (u : Value), BindsTo s d.f_law ⟨[u], []⟩ [("_law_script", u)] := by
  have e : f_law = fa := Value.ref.inj (Option.some.inj ((PySem.W.mg_of X G A_law).symm.trans hfa))
  subst e
  refine ⟨{
    a_look := f_look
    f_look := PySem.W.fnOf "look" "look" (defArgs s_look) (defBody s_look) (defScope s_look) .none kV_look dc_look pm_look an_look cd_look ct_look
    a_steps_from := f_steps_from
    f_steps_from := PySem.W.fnOf "steps_from" "steps_from" (defArgs s_steps_from) (defBody s_steps_from) (defScope s_steps_from) .none kV_steps_from dc_steps_from pm_steps_from an_steps_from cd_steps_from ct_steps_from
    a_reached := f_reached
    f_reached := PySem.W.fnOf "reached" "reached" (defArgs s_reached) (defBody s_reached) (defScope s_reached) .none kV_reached dc_reached pm_reached an_reached cd_reached ct_reached
    a_way_back := f_way_back
    f_way_back := PySem.W.fnOf "way_back" "way_back" (defArgs s_way_back) (defBody s_way_back) (defScope s_way_back) .none kV_way_back dc_way_back pm_way_back an_way_back cd_way_back ct_way_back
    a_greatest := f_greatest
    f_greatest := PySem.W.fnOf "greatest" "greatest" (defArgs s_greatest) (defBody s_greatest) (defScope s_greatest) .none kV_greatest dc_greatest pm_greatest an_greatest cd_greatest ct_greatest
    a_nearest := f_nearest
    f_nearest := PySem.W.fnOf "nearest" "nearest" (defArgs s_nearest) (defBody s_nearest) (defScope s_nearest) .none kV_nearest dc_nearest pm_nearest an_nearest cd_nearest ct_nearest
    a_as_arcs_differences := f_as_arcs_differences
    f_as_arcs_differences := PySem.W.fnOf "as_arcs" "as_arcs" (defArgs s_as_arcs_differences) (defBody s_as_arcs_differences) (defScope s_as_arcs_differences) .none kV_as_arcs_differences dc_as_arcs_differences pm_as_arcs_differences an_as_arcs_differences cd_as_arcs_differences ct_as_arcs_differences
    a_numbers_for := f_numbers_for
    f_numbers_for := PySem.W.fnOf "numbers_for" "numbers_for" (defArgs s_numbers_for) (defBody s_numbers_for) (defScope s_numbers_for) .none kV_numbers_for dc_numbers_for pm_numbers_for an_numbers_for cd_numbers_for ct_numbers_for
    a_as_arcs_pairing := f_as_arcs_pairing
    f_as_arcs_pairing := PySem.W.fnOf "as_arcs" "as_arcs" (defArgs s_as_arcs_pairing) (defBody s_as_arcs_pairing) (defScope s_as_arcs_pairing) .none kV_as_arcs_pairing dc_as_arcs_pairing pm_as_arcs_pairing an_as_arcs_pairing cd_as_arcs_pairing ct_as_arcs_pairing
    a_paired := f_paired
    f_paired := PySem.W.fnOf "paired" "paired" (defArgs s_paired) (defBody s_paired) (defScope s_paired) .none kV_paired dc_paired pm_paired an_paired cd_paired ct_paired
    a_root_of := f_root_of
    f_root_of := PySem.W.fnOf "root_of" "root_of" (defArgs s_root_of) (defBody s_root_of) (defScope s_root_of) .none kV_root_of dc_root_of pm_root_of an_root_of cd_root_of ct_root_of
    a_joined := f_joined
    f_joined := PySem.W.fnOf "joined" "joined" (defArgs s_joined) (defBody s_joined) (defScope s_joined) .none kV_joined dc_joined pm_joined an_joined cd_joined ct_joined
    a_law_cell := f_law_cell
    f_law_cell := PySem.W.fnOf "_law_cell" "_law_cell" (defArgs s_law_cell) (defBody s_law_cell) (defScope s_law_cell) .none kV_law_cell dc_law_cell pm_law_cell an_law_cell cd_law_cell ct_law_cell
    a_law_mix := f_law_mix
    f_law_mix := PySem.W.fnOf "_law_mix" "_law_mix" (defArgs s_law_mix) (defBody s_law_mix) (defScope s_law_mix) .none kV_law_mix dc_law_mix pm_law_mix an_law_mix cd_law_mix ct_law_mix
    a_law_kind := f_law_kind
    f_law_kind := PySem.W.fnOf "_law_kind" "_law_kind" (defArgs s_law_kind) (defBody s_law_kind) (defScope s_law_kind) .none kV_law_kind dc_law_kind pm_law_kind an_law_kind cd_law_kind ct_law_kind
    a_law_asked := f_law_asked
    f_law_asked := PySem.W.fnOf "_law_asked" "_law_asked" (defArgs s_law_asked) (defBody s_law_asked) (defScope s_law_asked) .none kV_law_asked dc_law_asked pm_law_asked an_law_asked cd_law_asked ct_law_asked
    a_law := f_law
    f_law := PySem.W.fnOf "law" "law" (defArgs s_law) (defBody s_law) (defScope s_law) .none kV_law dc_law pm_law an_law cd_law ct_law
    a_Ways_init := f_Ways_init
    f_Ways_init := PySem.W.fnOf "__init__" "Ways.__init__" (defArgs s_Ways_init) (defBody s_Ways_init) (defScope s_Ways_init) .none kV_Ways_init dc_Ways_init pm_Ways_init an_Ways_init cd_Ways_init ct_Ways_init
    a_Ways_shorten := f_Ways_shorten
    f_Ways_shorten := PySem.W.fnOf "shorten" "Ways.shorten" (defArgs s_Ways_shorten) (defBody s_Ways_shorten) (defScope s_Ways_shorten) .none kV_Ways_shorten dc_Ways_shorten pm_Ways_shorten an_Ways_shorten cd_Ways_shorten ct_Ways_shorten
    a_Ways_ring := f_Ways_ring
    f_Ways_ring := PySem.W.fnOf "ring" "Ways.ring" (defArgs s_Ways_ring) (defBody s_Ways_ring) (defScope s_Ways_ring) .none kV_Ways_ring dc_Ways_ring pm_Ways_ring an_Ways_ring cd_Ways_ring ct_Ways_ring
    c_Ways := c_Ways
    c_BestError := c_BestError
    c_NoNetwork := c_NoNetwork
    c_NoTable := c_NoTable
    c_NoRatio := c_NoRatio
    c_NoWay := c_NoWay
    t_MOST_PLACES := t_MOST_PLACES
    t_MOST_ARCS := t_MOST_ARCS
    t_MOST_BOUNDS := t_MOST_BOUNDS
    t_MOST_ROWS := t_MOST_ROWS
    t_MOST_PAIRS := t_MOST_PAIRS
    }, {
    F_look := fun_mk (st := s_look) L_look C_look K_look
    p_look := (fun_mk (st := s_look) L_look C_look K_look).binds fun _ _ _ _ _ _ us hl => match us, hl with | [_, _], _ => rfl
    g_look := PySem.W.mg_of X G A_look
    k_look := K_look
    F_steps_from := fun_mk (st := s_steps_from) L_steps_from C_steps_from K_steps_from
    p_steps_from := (fun_mk (st := s_steps_from) L_steps_from C_steps_from K_steps_from).binds fun _ _ _ _ _ _ us hl => match us, hl with | [_, _, _], _ => rfl
    g_steps_from := PySem.W.mg_of X G A_steps_from
    k_steps_from := K_steps_from
    F_reached := fun_mk (st := s_reached) L_reached C_reached K_reached
    p_reached := (fun_mk (st := s_reached) L_reached C_reached K_reached).binds fun _ _ _ _ _ _ us hl => match us, hl with | [_, _, _], _ => rfl
    g_reached := PySem.W.mg_of X G A_reached
    k_reached := K_reached
    F_way_back := fun_mk (st := s_way_back) L_way_back C_way_back K_way_back
    p_way_back := (fun_mk (st := s_way_back) L_way_back C_way_back K_way_back).binds fun _ _ _ _ _ _ us hl => match us, hl with | [_, _], _ => rfl
    g_way_back := PySem.W.mg_of X G A_way_back
    k_way_back := K_way_back
    F_greatest := fun_mk (st := s_greatest) L_greatest C_greatest K_greatest
    p_greatest := (fun_mk (st := s_greatest) L_greatest C_greatest K_greatest).binds fun _ _ _ _ _ _ us hl => match us, hl with | [_, _, _, _], _ => rfl
    g_greatest := PySem.W.mg_of X G A_greatest
    k_greatest := K_greatest
    F_nearest := fun_mk (st := s_nearest) L_nearest C_nearest K_nearest
    p_nearest := (fun_mk (st := s_nearest) L_nearest C_nearest K_nearest).binds fun _ _ _ _ _ _ us hl => match us, hl with | [_, _, _], _ => rfl
    g_nearest := PySem.W.mg_of X G A_nearest
    k_nearest := K_nearest
    F_as_arcs_differences := fun_mk (st := s_as_arcs_differences) L_as_arcs_differences C_as_arcs_differences K_as_arcs_differences
    p_as_arcs_differences := (fun_mk (st := s_as_arcs_differences) L_as_arcs_differences C_as_arcs_differences K_as_arcs_differences).binds fun _ _ _ _ _ _ us hl => match us, hl with | [_, _], _ => rfl
    g_as_arcs_differences := PySem.W.mg_of X G A_as_arcs_differences
    k_as_arcs_differences := K_as_arcs_differences
    F_numbers_for := fun_mk (st := s_numbers_for) L_numbers_for C_numbers_for K_numbers_for
    p_numbers_for := (fun_mk (st := s_numbers_for) L_numbers_for C_numbers_for K_numbers_for).binds fun _ _ _ _ _ _ us hl => match us, hl with | [_, _], _ => rfl
    g_numbers_for := PySem.W.mg_of X G A_numbers_for
    k_numbers_for := K_numbers_for
    F_as_arcs_pairing := fun_mk (st := s_as_arcs_pairing) L_as_arcs_pairing C_as_arcs_pairing K_as_arcs_pairing
    p_as_arcs_pairing := (fun_mk (st := s_as_arcs_pairing) L_as_arcs_pairing C_as_arcs_pairing K_as_arcs_pairing).binds fun _ _ _ _ _ _ us hl => match us, hl with | [_, _, _], _ => rfl
    g_as_arcs_pairing := PySem.W.mg_of X G A_as_arcs_pairing
    k_as_arcs_pairing := K_as_arcs_pairing
    F_paired := fun_mk (st := s_paired) L_paired C_paired K_paired
    p_paired := (fun_mk (st := s_paired) L_paired C_paired K_paired).binds fun _ _ _ _ _ _ us hl => match us, hl with | [_, _, _], _ => rfl
    g_paired := PySem.W.mg_of X G A_paired
    k_paired := K_paired
    F_root_of := fun_mk (st := s_root_of) L_root_of C_root_of K_root_of
    p_root_of := (fun_mk (st := s_root_of) L_root_of C_root_of K_root_of).binds fun _ _ _ _ _ _ us hl => match us, hl with | [_, _], _ => rfl
    g_root_of := PySem.W.mg_of X G A_root_of
    k_root_of := K_root_of
    F_joined := fun_mk (st := s_joined) L_joined C_joined K_joined
    p_joined := (fun_mk (st := s_joined) L_joined C_joined K_joined).binds fun _ _ _ _ _ _ us hl => match us, hl with | [_, _], _ => rfl
    g_joined := PySem.W.mg_of X G A_joined
    k_joined := K_joined
    F_law_cell := fun_mk (st := s_law_cell) L_law_cell C_law_cell K_law_cell
    p_law_cell := (fun_mk (st := s_law_cell) L_law_cell C_law_cell K_law_cell).binds fun _ _ _ _ _ _ us hl => match us, hl with | [_, _], _ => rfl
    g_law_cell := PySem.W.mg_of X G A_law_cell
    k_law_cell := K_law_cell
    F_law_mix := fun_mk (st := s_law_mix) L_law_mix C_law_mix K_law_mix
    p_law_mix := (fun_mk (st := s_law_mix) L_law_mix C_law_mix K_law_mix).binds fun _ _ _ _ _ _ us hl => match us, hl with | [_, _], _ => rfl
    g_law_mix := PySem.W.mg_of X G A_law_mix
    k_law_mix := K_law_mix
    F_law_kind := fun_mk (st := s_law_kind) L_law_kind C_law_kind K_law_kind
    p_law_kind := (fun_mk (st := s_law_kind) L_law_kind C_law_kind K_law_kind).binds fun _ _ _ _ _ _ us hl => match us, hl with | [_], _ => rfl
    g_law_kind := PySem.W.mg_of X G A_law_kind
    k_law_kind := K_law_kind
    F_law_asked := fun_mk (st := s_law_asked) L_law_asked C_law_asked K_law_asked
    p_law_asked := (fun_mk (st := s_law_asked) L_law_asked C_law_asked K_law_asked).binds fun _ _ _ _ _ _ us hl => match us, hl with | [_, _, _, _, _], _ => rfl
    g_law_asked := PySem.W.mg_of X G A_law_asked
    k_law_asked := K_law_asked
    F_law := fun_mk (st := s_law) L_law C_law K_law
    p_law := (fun_mk (st := s_law) L_law C_law K_law).binds fun _ _ _ _ _ _ us hl => match us, hl with | [_], _ => rfl
    g_law := PySem.W.mg_of X G A_law
    k_law := K_law
    F_Ways_init := fun_mk (st := s_Ways_init) L_Ways_init C_Ways_init K_Ways_init
    p_Ways_init := (fun_mk (st := s_Ways_init) L_Ways_init C_Ways_init K_Ways_init).binds fun _ _ _ _ _ _ us hl => match us, hl with | [_, _, _, _], _ => rfl
    F_Ways_shorten := fun_mk (st := s_Ways_shorten) L_Ways_shorten C_Ways_shorten K_Ways_shorten
    p_Ways_shorten := (fun_mk (st := s_Ways_shorten) L_Ways_shorten C_Ways_shorten K_Ways_shorten).binds fun _ _ _ _ _ _ us hl => match us, hl with | [_], _ => rfl
    h_Ways_shorten := ⟨A_Ways_shorten, J_Ways_shorten, K_Ways_shorten⟩
    F_Ways_ring := fun_mk (st := s_Ways_ring) L_Ways_ring C_Ways_ring K_Ways_ring
    p_Ways_ring := (fun_mk (st := s_Ways_ring) L_Ways_ring C_Ways_ring K_Ways_ring).binds fun _ _ _ _ _ _ us hl => match us, hl with | [_, _], _ => rfl
    h_Ways_ring := ⟨A_Ways_ring, J_Ways_ring, K_Ways_ring⟩
    g_Ways := PySem.W.mg_of X G B_Ways
    c_Ways := ⟨pg_Ways, hd_Ways, po_Ways, sa_Ways⟩
    m_Ways := ⟨mk_Ways, A_Ways_init, J_Ways_init, kc_Ways⟩
    n_Ways_arcs := n_Ways_arcs
    n_Ways_lengths := n_Ways_lengths
    n_Ways_last := n_Ways_last
    g_BestError := PySem.W.mg_of X G B_BestError
    k_BestError := K_BestError
    x_BestError := X_BestError
    s_BestError := S_BestError
    t_BestError := T_BestError
    i_BestError := I_BestError
    g_NoNetwork := PySem.W.mg_of X G B_NoNetwork
    k_NoNetwork := K_NoNetwork
    x_NoNetwork := X_NoNetwork
    s_NoNetwork := S_NoNetwork
    t_NoNetwork := T_NoNetwork
    i_NoNetwork := I_NoNetwork
    g_NoTable := PySem.W.mg_of X G B_NoTable
    k_NoTable := K_NoTable
    x_NoTable := X_NoTable
    s_NoTable := S_NoTable
    t_NoTable := T_NoTable
    i_NoTable := I_NoTable
    g_NoRatio := PySem.W.mg_of X G B_NoRatio
    k_NoRatio := K_NoRatio
    x_NoRatio := X_NoRatio
    s_NoRatio := S_NoRatio
    t_NoRatio := T_NoRatio
    i_NoRatio := I_NoRatio
    g_NoWay := PySem.W.mg_of X G B_NoWay
    k_NoWay := K_NoWay
    x_NoWay := X_NoWay
    s_NoWay := S_NoWay
    t_NoWay := T_NoWay
    i_NoWay := I_NoWay
    e_NoNetwork_BestError := exm_own S_BestError I_BestError T_BestError e_NoNetwork_BestError
    y_NoNetwork := ⟨yga_NoNetwork, ygg_NoNetwork, S_NoNetwork, yhh_NoNetwork, ycl_NoNetwork, ysp_NoNetwork, ytk_NoNetwork, ymo_NoNetwork⟩
    q_NoNetwork_NoRatio := kit_own v_NoNetwork_NoRatio I_NoRatio T_NoRatio q_NoNetwork_NoRatio
    q_NoNetwork_NoTable := kit_own v_NoNetwork_NoTable I_NoTable T_NoTable q_NoNetwork_NoTable
    q_NoNetwork_NoWay := kit_own v_NoNetwork_NoWay I_NoWay T_NoWay q_NoNetwork_NoWay
    q_NoNetwork_ValueError := kit_bty (by decide +kernel) q_NoNetwork_ValueError
    q_NoNetwork_NoNetwork := kit_self
    g_MOST_PLACES := PySem.W.mg_of X G g_MOST_PLACES
    g_MOST_ARCS := PySem.W.mg_of X G g_MOST_ARCS
    g_MOST_BOUNDS := PySem.W.mg_of X G g_MOST_BOUNDS
    g_MOST_ROWS := PySem.W.mg_of X G g_MOST_ROWS
    g_MOST_PAIRS := PySem.W.mg_of X G g_MOST_PAIRS
    b_ValueError := PySem.W.mg_none_of X G z_ValueError
    b_all := PySem.W.mg_none_of X G z_all
    b_any := PySem.W.mg_none_of X G z_any
    b_int := PySem.W.mg_none_of X G z_int
    b_isinstance := PySem.W.mg_none_of X G z_isinstance
    b_len := PySem.W.mg_none_of X G z_len
    b_list := PySem.W.mg_none_of X G z_list
    b_max := PySem.W.mg_none_of X G z_max
    b_min := PySem.W.mg_none_of X G z_min
    b_range := PySem.W.mg_none_of X G z_range
    b_sorted := PySem.W.mg_none_of X G z_sorted
    }, rfl, fun s u => .of_eq rfl⟩
theorem walk {l : PySem.W.OpenLaw} {q : Program} {loose : List Str} {XP : (Str → Option Value) → Heap → Prop} {YP : World → Heap → Prop} {d : DefRec} {K : Params → PySem.W.Frag} (hn : l.most = some 63) (hdf : d.params.defaults = [])
    (hY : ∀ (w : World) (h : Heap), YP w h → (K w.params).In h)
    (F : ∀ (w : World) (mg : Str → Option Value) (fa : Addr) (h : Heap), (K w.params).In h → h.Ns mainGlobals mg → mg d.name = some (.ref fa) →
      ∃ d : Ad, Txt (K w.params) mg d ∧ d.a_law = fa ∧ ∀ (s : Shared) (u : Value), BindsTo s d.f_law ⟨[u], []⟩ [("_law_script", u)]) :
    PySem.W.WalkO q loose XP YP l.row.toRowW d [] (fun f vs => PySem.call f vs) :=
  L2.walk_of (n := 63) (k := 7) (x := "_law_script") (CX := fun _ => CX0) (sp := fun w => Sp_law (K w.params)) hn (by decide) hdf ⟨rfl, by decide, by decide⟩ hY
    (fun w mg fa h KX G hmg => by
      obtain ⟨dd, T, e, hb⟩ := F w mg fa h KX G hmg
      subst e
      exact ⟨dd.f_law, hb, fun base _ _ => ok_law T⟩)
    (fun w H a ns hl hO hS => Sp_law.mk (ns := ns) (.lst hS (dpAll_ints ns)) (fun _ => rfl)) fun _ _ _ _ _ z => z
end SB
open PySem PySem.W PyProof.Rows
set_option maxRecDepth 100000 in
set_option maxHeartbeats 0 in
theorem PySem.Challenge.cw_surebest_k11_no_networks_holds : PySem.Challenge.rw_surebest_k11_no_networks.Holds := by
  w_on; o_law; k_head; (case hw => w_witness2)
  k_fill
  refine SB.walk (l := PySem.Challenge.rw_surebest_k11_no_networks) rfl rfl (fun w h Y => PySem.W.kIn_of Y) ?F
  case F =>
    intro w mg fa h KX G hmg
    refine' SB.all_mk KX G hmg ?B_Ways ?A_look ?L_look ?C_look ?K_look ?A_steps_from ?L_steps_from ?C_steps_from ?K_steps_from ?A_reached ?L_reached ?C_reached ?K_reached ?A_way_back ?L_way_back ?C_way_back ?K_way_back ?A_greatest ?L_greatest ?C_greatest ?K_greatest ?A_nearest ?L_nearest ?C_nearest ?K_nearest ?A_as_arcs_differences ?L_as_arcs_differences ?C_as_arcs_differences ?K_as_arcs_differences ?A_numbers_for ?L_numbers_for ?C_numbers_for ?K_numbers_for ?A_as_arcs_pairing ?L_as_arcs_pairing ?C_as_arcs_pairing ?K_as_arcs_pairing ?A_paired ?L_paired ?C_paired ?K_paired ?A_root_of ?L_root_of ?C_root_of ?K_root_of ?A_joined ?L_joined ?C_joined ?K_joined ?A_law_cell ?L_law_cell ?C_law_cell ?K_law_cell ?A_law_mix ?L_law_mix ?C_law_mix ?K_law_mix ?A_law_kind ?L_law_kind ?C_law_kind ?K_law_kind ?A_law_asked ?L_law_asked ?C_law_asked ?K_law_asked ?A_law ?L_law ?C_law ?K_law ?A_Ways_init ?J_Ways_init ?L_Ways_init ?C_Ways_init ?K_Ways_init ?A_Ways_shorten ?J_Ways_shorten ?L_Ways_shorten ?C_Ways_shorten ?K_Ways_shorten ?A_Ways_ring ?J_Ways_ring ?L_Ways_ring ?C_Ways_ring ?K_Ways_ring ?pg_Ways ?hd_Ways ?po_Ways ?sa_Ways ?mk_Ways ?kc_Ways ?n_Ways_arcs ?n_Ways_lengths ?n_Ways_last ?B_BestError ?K_BestError ?X_BestError ?S_BestError ?T_BestError ?I_BestError ?B_NoNetwork ?K_NoNetwork ?X_NoNetwork ?S_NoNetwork ?T_NoNetwork ?I_NoNetwork ?B_NoTable ?K_NoTable ?X_NoTable ?S_NoTable ?T_NoTable ?I_NoTable ?B_NoRatio ?K_NoRatio ?X_NoRatio ?S_NoRatio ?T_NoRatio ?I_NoRatio ?B_NoWay ?K_NoWay ?X_NoWay ?S_NoWay ?T_NoWay ?I_NoWay ?e_NoNetwork_BestError ?yga_NoNetwork ?ygg_NoNetwork ?yhh_NoNetwork ?ycl_NoNetwork ?ymo_NoNetwork ?ysp_NoNetwork ?ytk_NoNetwork ?v_NoNetwork_NoRatio ?q_NoNetwork_NoRatio ?v_NoNetwork_NoTable ?q_NoNetwork_NoTable ?v_NoNetwork_NoWay ?q_NoNetwork_NoWay ?q_NoNetwork_ValueError ?g_MOST_PLACES ?g_MOST_ARCS ?g_MOST_BOUNDS ?g_MOST_ROWS ?g_MOST_PAIRS ?z_ValueError ?z_all ?z_any ?z_int ?z_isinstance ?z_len ?z_list ?z_max ?z_min ?z_range ?z_sorted
    (case B_Ways => k_is)
    (case A_look => k_is)
    (case L_look => k_is)
    (case C_look => k_is)
    (case K_look => k_is)
    (case A_steps_from => k_is)
    (case L_steps_from => k_is)
    (case C_steps_from => k_is)
    (case K_steps_from => k_is)
    (case A_reached => k_is)
    (case L_reached => k_is)
    (case C_reached => k_is)
    (case K_reached => k_is)
    (case A_way_back => k_is)
    (case L_way_back => k_is)
    (case C_way_back => k_is)
    (case K_way_back => k_is)
    (case A_greatest => k_is)
    (case L_greatest => k_is)
    (case C_greatest => k_is)
    (case K_greatest => k_is)
    (case A_nearest => k_is)
    (case L_nearest => k_is)
    (case C_nearest => k_is)
    (case K_nearest => k_is)
    (case A_as_arcs_differences => k_is)
    (case L_as_arcs_differences => k_is)
    (case C_as_arcs_differences => k_is)
    (case K_as_arcs_differences => k_is)
    (case A_numbers_for => k_is)
    (case L_numbers_for => k_is)
    (case C_numbers_for => k_is)
    (case K_numbers_for => k_is)
    (case A_as_arcs_pairing => k_is)
    (case L_as_arcs_pairing => k_is)
    (case C_as_arcs_pairing => k_is)
    (case K_as_arcs_pairing => k_is)
    (case A_paired => k_is)
    (case L_paired => k_is)
    (case C_paired => k_is)
    (case K_paired => k_is)
    (case A_root_of => k_is)
    (case L_root_of => k_is)
    (case C_root_of => k_is)
    (case K_root_of => k_is)
    (case A_joined => k_is)
    (case L_joined => k_is)
    (case C_joined => k_is)
    (case K_joined => k_is)
    (case A_law_cell => k_is)
    (case L_law_cell => k_is)
    (case C_law_cell => k_is)
    (case K_law_cell => k_is)
    (case A_law_mix => k_is)
    (case L_law_mix => k_is)
    (case C_law_mix => k_is)
    (case K_law_mix => k_is)
    (case A_law_kind => k_is)
    (case L_law_kind => k_is)
    (case C_law_kind => k_is)
    (case K_law_kind => k_is)
    (case A_law_asked => k_is)
    (case L_law_asked => k_is)
    (case C_law_asked => k_is)
    (case K_law_asked => k_is)
    (case A_law => k_is)
    (case L_law => k_is)
    (case C_law => k_is)
    (case K_law => k_is)
    (case A_Ways_init => k_is)
    (case J_Ways_init => k_is)
    (case L_Ways_init => k_is)
    (case C_Ways_init => k_is)
    (case K_Ways_init => k_is)
    (case A_Ways_shorten => k_is)
    (case J_Ways_shorten => k_is)
    (case L_Ways_shorten => k_is)
    (case C_Ways_shorten => k_is)
    (case K_Ways_shorten => k_is)
    (case A_Ways_ring => k_is)
    (case J_Ways_ring => k_is)
    (case L_Ways_ring => k_is)
    (case C_Ways_ring => k_is)
    (case K_Ways_ring => k_is)
    (case pg_Ways => k_is)
    (case hd_Ways => k_is)
    (case po_Ways => k_is)
    (case sa_Ways => k_is)
    (case mk_Ways => k_is)
    (case kc_Ways => k_is)
    (case n_Ways_arcs => k_is)
    (case n_Ways_lengths => k_is)
    (case n_Ways_last => k_is)
    (case B_BestError => k_is)
    (case K_BestError => k_is)
    (case X_BestError => k_exc)
    (case S_BestError => k_is)
    (case T_BestError => k_is)
    (case I_BestError => k_is)
    (case B_NoNetwork => k_is)
    (case K_NoNetwork => k_is)
    (case X_NoNetwork => k_exc)
    (case S_NoNetwork => k_is)
    (case T_NoNetwork => k_is)
    (case I_NoNetwork => k_is)
    (case B_NoTable => k_is)
    (case K_NoTable => k_is)
    (case X_NoTable => k_exc)
    (case S_NoTable => k_is)
    (case T_NoTable => k_is)
    (case I_NoTable => k_is)
    (case B_NoRatio => k_is)
    (case K_NoRatio => k_is)
    (case X_NoRatio => k_exc)
    (case S_NoRatio => k_is)
    (case T_NoRatio => k_is)
    (case I_NoRatio => k_is)
    (case B_NoWay => k_is)
    (case K_NoWay => k_is)
    (case X_NoWay => k_exc)
    (case S_NoWay => k_is)
    (case T_NoWay => k_is)
    (case I_NoWay => k_is)
    (case e_NoNetwork_BestError => k_is)
    (case yga_NoNetwork => k_is)
    (case ygg_NoNetwork => k_is)
    (case yhh_NoNetwork => k_is)
    (case ycl_NoNetwork => k_is)
    (case ymo_NoNetwork => k_is)
    (case ysp_NoNetwork => k_is)
    (case ytk_NoNetwork => k_is)
    (case v_NoNetwork_NoRatio => exact (by decide))
    (case q_NoNetwork_NoRatio => k_is)
    (case v_NoNetwork_NoTable => exact (by decide))
    (case q_NoNetwork_NoTable => k_is)
    (case v_NoNetwork_NoWay => exact (by decide))
    (case q_NoNetwork_NoWay => k_is)
    (case q_NoNetwork_ValueError => k_is)
    (case g_MOST_PLACES => k_is)
    (case g_MOST_ARCS => k_is)
    (case g_MOST_BOUNDS => k_is)
    (case g_MOST_ROWS => k_is)
    (case g_MOST_PAIRS => k_is)
    (case z_ValueError => k_is)
    (case z_all => k_is)
    (case z_any => k_is)
    (case z_int => k_is)
    (case z_isinstance => k_is)
    (case z_len => k_is)
    (case z_list => k_is)
    (case z_max => k_is)
    (case z_min => k_is)
    (case z_range => k_is)
    (case z_sorted => k_is)
#print axioms PySem.Challenge.cw_surebest_k11_no_networks_holds
