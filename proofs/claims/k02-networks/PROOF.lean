import PyProof.Rows.All
import Wide.All
import OpenK.AllK
import Wide.FinOn
import HandS.ForMost
import HandS.ForExc
import HandS.Wide
import HandS.IsInst
import HandS.ExcIs
import HandS.Style
import HandS.Flow
import HandS.Zip
import HandS.SortInts
import HandS.SortRule
import PySem.Challenge.RW_surebest_k02_networks
set_option Elab.async false
set_option linter.all false
set_option maxRecDepth 100000
set_option maxHeartbeats 4000000
/-! plain words -/
namespace SB
/-- the item at a place -/
def nth {α : Type} [Inhabited α] (xs : List α) (i : Int) : α := xs.getD i.toNat default
theorem nth_eq {α : Type} [Inhabited α] {xs : List α} {i : Int} {x : α} (h : xs[i.toNat]? = some x) : nth xs i = x := by
  unfold nth
  rw [List.getD_eq_getElem?_getD, h]
  rfl
theorem nth_get {α : Type} [Inhabited α] {xs : List α} {i : Int} (h0 : 0 ≤ i) (h : i < xs.length) : xs[i.toNat]? = some (nth xs i) := by
  have hl : i.toNat < xs.length := by omega
  unfold nth
  rw [List.getD_eq_getElem?_getD, List.getElem?_eq_getElem hl]
  rfl
theorem nth_nat {α : Type} [Inhabited α] {xs : List α} {i : Nat} {x : α} (h : xs[i]? = some x) : nth xs (i : Int) = x := nth_eq (by simpa using h)
theorem nth_mem {α : Type} [Inhabited α] {xs : List α} {i : Int} (h0 : 0 ≤ i) (h : i < xs.length) : nth xs i ∈ xs := List.mem_of_getElem? (nth_get h0 h)
end SB
/-! The layer of these proofs: a stable heap S, owned objects O, data Dp over S; one step lemma a reading. -/
namespace SB
open PySem PySem.Spec PyProof.Rows L2

/-! ### the stable heap and the owned objects -/
structure Wd (K : PySem.W.Frag) (S H : Hp) (O : List (Addr × HO)) : Prop where
  sub : Same S H
  own : ∀ p ∈ O, H p.1 = some p.2 ∧ S p.1 = none
  nd : (O.map (·.1)).Nodup
section
variable {K : PySem.W.Frag} {S S' H : Hp} {O : List (Addr × HO)} {p q : Addr} {o u : HO} {n : Nat}
theorem Wd.all (H : Hp) : Wd K H H [] := ⟨Same.refl H, fun _ h => absurd h (by simp), List.nodup_nil⟩
theorem Wd.frS (W : Wd K S H O) (h : H q = none) : S q = none := W.sub.free h
theorem Wd.frO (W : Wd K S H O) (h : H q = none) : q ∉ O.map (·.1) := fun hm => by
  obtain ⟨r, hr, e⟩ := List.mem_map.mp hm
  have := (W.own r hr).1
  rw [e, h] at this
  cases this
theorem Wd.at (W : Wd K S H O) (n : Nat) (h : O[n]? = some (p, o)) : H p = some o := (W.own _ (List.mem_of_getElem? h)).1
theorem Wd.atS (W : Wd K S H O) (n : Nat) (h : O[n]? = some (p, o)) : S p = none := (W.own _ (List.mem_of_getElem? h)).2
theorem same_new (h : S q = none) : Same S (upd S q o) := fun b u e => by rw [upd_ne (ne_of_none e h)]; exact e
/-- a new object that is ours to change -/
theorem Wd.alloc (W : Wd K S H O) (h : H q = none) : Wd K S (upd H q o) ((q, o) :: O) := by
  refine ⟨fun b u e => ?_, fun r hr => ?_, ?_⟩
  · rw [upd_ne (ne_of_none (W.sub b u e) h)]
    exact W.sub b u e
  · rcases List.mem_cons.mp hr with rfl | hr
    · exact ⟨upd_same, W.frS h⟩
    · exact ⟨by rw [upd_ne (ne_of_none (W.own r hr).1 h)]; exact (W.own r hr).1, (W.own r hr).2⟩
  · rw [List.map_cons]
    exact List.nodup_cons.mpr ⟨W.frO h, W.nd⟩
/-- a new object that stays -/
theorem Wd.new (W : Wd K S H O) (h : H q = none) : Wd K (upd S q o) (upd H q o) O := by
  refine ⟨fun b u e => ?_, fun r hr => ?_, W.nd⟩
  · by_cases hb : b = q
    · subst hb; rw [upd_same] at e ⊢; exact e
    · rw [upd_ne hb] at e ⊢
      exact W.sub b u e
  · have hne : r.1 ≠ q := ne_of_none (W.own r hr).1 h
    exact ⟨by rw [upd_ne hne]; exact (W.own r hr).1, by rw [upd_ne hne]; exact (W.own r hr).2⟩
theorem nodup_at : ∀ {O : List (Addr × HO)} {n m : Nat} {a b : Addr × HO}, (O.map (·.1)).Nodup → O[n]? = some a → O[m]? = some b → a.1 = b.1 → n = m := fun {O n m a b} nd h1 h2 e => by
  have g1 : (O.map (·.1))[n]? = some a.1 := by rw [List.getElem?_map, h1]; rfl
  have g2 : (O.map (·.1))[m]? = some a.1 := by rw [List.getElem?_map, h2, e]; rfl
  exact nd_ix nd g1 g2
/-- one of ours is written -/
theorem Wd.put (W : Wd K S H O) (n : Nat) (h : O[n]? = some (p, o)) : Wd K S (upd H p u) (O.set n (p, u)) := by
  have hn : n < O.length := (List.getElem?_eq_some_iff.mp h).1
  have hS := W.atS n h
  refine ⟨fun b x e => ?_, fun r hr => ?_, ?_⟩
  · rw [upd_ne (ne_of_none e hS)]
    exact W.sub b x e
  · obtain ⟨m, hm⟩ := List.getElem?_of_mem hr
    by_cases hmn : m = n
    · subst hmn
      rw [List.getElem?_set_self hn] at hm
      cases hm
      exact ⟨upd_same, hS⟩
    · rw [List.getElem?_set_ne (Ne.symm hmn)] at hm
      have hne : r.1 ≠ p := fun e => hmn (nodup_at W.nd hm h e)
      have := W.own r (List.mem_of_getElem? hm)
      exact ⟨by rw [upd_ne hne]; exact this.1, this.2⟩
  · have e : (O.set n (p, u)).map (·.1) = O.map (·.1) := by
      have g : (O.map (·.1))[n]? = some p := by rw [List.getElem?_map, h]; rfl
      apply List.ext_getElem?
      intro i
      rw [List.getElem?_map, List.getElem?_map, List.getElem?_set]
      by_cases hi : n = i
      · subst hi
        rw [if_pos rfl, if_pos hn, h]
        rfl
      · rw [if_neg hi]
    rw [e]
    exact W.nd
/-- one of ours is ours no longer: it stays as it is -/
theorem Wd.give (W : Wd K S H O) (n : Nat) (h : O[n]? = some (p, o)) : Wd K (upd S p o) H (O.eraseIdx n) := by
  have hnd : ((O.eraseIdx n).map (·.1)).Nodup := W.nd.sublist ((List.eraseIdx_sublist O n).map _)
  refine ⟨fun b x e => ?_, fun r hr => ?_, hnd⟩
  · by_cases hb : b = p
    · subst hb; rw [upd_same] at e; cases e; exact W.at n h
    · rw [upd_ne hb] at e
      exact W.sub b x e
  · have hr' : r ∈ O := (List.eraseIdx_sublist O n).subset hr
    have hne : r.1 ≠ p := by
      intro e
      obtain ⟨i, hi⟩ := List.getElem?_of_mem hr
      rw [List.getElem?_eraseIdx] at hi
      split at hi
      · have := nodup_at W.nd hi h e
        omega
      · have := nodup_at W.nd hi h e
        omega
    exact ⟨by have := (W.own r hr').1; exact this, by rw [upd_ne hne]; exact (W.own r hr').2⟩
/-- a stable heap that grew -/
theorem Wd.lst (W : Wd K S H O) {xs : List V} (h : SqL K S p xs) : SqL K H p xs := W.sub.seq h
theorem same_rd {H H' : Hp} {a : Addr} {u : HO} (e : Same H H') (h : Rd H a u) : Rd H' a u := by
  rcases h with h | ⟨o, h⟩
  · exact .inl (e _ _ h)
  · exact .inr ⟨o, e _ _ h⟩
theorem same_t {K : PySem.W.Frag} {H H' : Hp} {a : Addr} {xs : List V} (e : Same H H') (h : SqT K H a xs) : SqT K H' a xs := by
  rcases h with h | h
  · exact .inl (same_rd e h)
  · exact .inr h
theorem Wd.tup (W : Wd K S H O) {xs : List V} (h : SqT K S p xs) : SqT K H p xs := same_t W.sub h
end

/-! ### data -/
section
variable {K : PySem.W.Frag} {S S' H : Hp} {O : List (Addr × HO)}
mutual
theorem dp_mono (hs : Same S S') : ∀ {v : V} {d : PyData}, Dp K S v d → Dp K S' v d
  | _, _, .non => .non
  | _, _, .bl b => .bl b
  | _, _, .int i => .int i
  | _, _, .str x => .str x
  | _, _, .lst h a => .lst (hs.seq h) (dpAll_mono hs a)
  | _, _, .tup h a => .tup (same_t hs h) (dpAll_mono hs a)
theorem dpAll_mono (hs : Same S S') : ∀ {vs : List V} {ds : List PyData}, DpAll K S vs ds → DpAll K S' vs ds
  | _, _, .nil => .nil
  | _, _, .cons h a => .cons (dp_mono hs h) (dpAll_mono hs a)
end
theorem dpAll_len : ∀ {vs : List V} {ds : List PyData}, DpAll K S vs ds → vs.length = ds.length
  | _, _, .nil => rfl
  | _, _, .cons _ a => by rw [List.length_cons, List.length_cons, dpAll_len a]
theorem dpAll_get : ∀ {vs : List V} {ds : List PyData} {i : Nat} {d : PyData}, DpAll K S vs ds → ds[i]? = some d → ∃ v, vs[i]? = some v ∧ Dp K S v d
  | _, _, _, _, .nil, h => by simp at h
  | _, _, 0, _, .cons h a, e => by
    rw [List.getElem?_cons_zero] at e
    cases e
    exact ⟨_, rfl, h⟩
  | _, _, i + 1, _, .cons h a, e => by
    rw [List.getElem?_cons_succ] at e
    obtain ⟨v, h1, h2⟩ := dpAll_get a e
    exact ⟨v, by rw [List.getElem?_cons_succ]; exact h1, h2⟩
theorem dpAll_get' : ∀ {vs : List V} {ds : List PyData} {i : Nat} {v : V}, DpAll K S vs ds → vs[i]? = some v → ∃ d, ds[i]? = some d ∧ Dp K S v d
  | _, _, _, _, .nil, h => by simp at h
  | _, _, 0, _, .cons h a, e => by
    rw [List.getElem?_cons_zero] at e
    cases e
    exact ⟨_, rfl, h⟩
  | _, _, i + 1, _, .cons h a, e => by
    rw [List.getElem?_cons_succ] at e
    obtain ⟨d, h1, h2⟩ := dpAll_get' a e
    exact ⟨d, by rw [List.getElem?_cons_succ]; exact h1, h2⟩
theorem dpAll_app : ∀ {vs : List V} {ds : List PyData} {v : V} {d : PyData}, DpAll K S vs ds → Dp K S v d → DpAll K S (vs ++ [v]) (ds ++ [d])
  | _, _, _, _, .nil, h => .cons h .nil
  | _, _, _, _, .cons h a, h' => .cons h (dpAll_app a h')
theorem dpAll_cat : ∀ {vs ws : List V} {ds es : List PyData}, DpAll K S vs ds → DpAll K S ws es → DpAll K S (vs ++ ws) (ds ++ es)
  | _, _, _, _, .nil, h => h
  | _, _, _, _, .cons h a, h' => .cons h (dpAll_cat a h')
theorem dpAll_set : ∀ {vs : List V} {ds : List PyData} {v : V} {d : PyData} (i : Nat), DpAll K S vs ds → Dp K S v d → DpAll K S (vs.set i v) (ds.set i d)
  | _, _, _, _, _, .nil, h => .nil
  | _, _, _, _, 0, .cons h a, h' => .cons h' a
  | _, _, _, _, i + 1, .cons h a, h' => .cons h (dpAll_set i a h')
theorem dpAll_take : ∀ {vs : List V} {ds : List PyData} (n : Nat), DpAll K S vs ds → DpAll K S (vs.take n) (ds.take n)
  | _, _, 0, _ => .nil
  | _, _, _ + 1, .nil => .nil
  | _, _, n + 1, .cons h a => .cons h (dpAll_take n a)
theorem dpAll_drop : ∀ {vs : List V} {ds : List PyData} (n : Nat), DpAll K S vs ds → DpAll K S (vs.drop n) (ds.drop n)
  | _, _, 0, h => h
  | _, _, _ + 1, .nil => .nil
  | _, _, n + 1, .cons h a => dpAll_drop n a
theorem dpAll_ints : ∀ ns : List Int, DpAll K S (ns.map V.int) (ns.map PyData.int)
  | [] => .nil
  | n :: ns => .cons (.int n) (dpAll_ints ns)
theorem dpAll_bools : ∀ bs : List Bool, DpAll K S (bs.map V.bl) (bs.map PyData.bool)
  | [] => .nil
  | n :: ns => .cons (.bl n) (dpAll_bools ns)
theorem ints_of : ∀ {vs : List V} {ns : List Int}, DpAll K S vs (ns.map PyData.int) → vs = ns.map V.int
  | _, [], .nil => rfl
  | _, n :: ns, .cons (.int _) a => by rw [ints_of a]; rfl
theorem bools_of : ∀ {vs : List V} {ns : List Bool}, DpAll K S vs (ns.map PyData.bool) → vs = ns.map V.bl
  | _, [], .nil => rfl
  | _, n :: ns, .cons (.bl _) a => by rw [bools_of a]; rfl
theorem dp_int_eq {v : V} {i : Int} : Dp K S v (.int i) → v = .int i
  | .int _ => rfl
theorem dp_bl_eq {v : V} {i : Bool} : Dp K S v (.bool i) → v = .bl i
  | .bl _ => rfl
theorem dp_non_eq {v : V} : Dp K S v .none → v = .non
  | .non => rfl
theorem dp_str_eq {v : V} {i : Str} : Dp K S v (.str i) → v = .str i
  | .str _ => rfl
theorem dp_lst_ex {v : V} {ds : List PyData} : Dp K S v (.list ds) → ∃ a vs, v = .ref a ∧ SqL K S a vs ∧ DpAll K S vs ds
  | .lst h a => ⟨_, _, rfl, h, a⟩
theorem dp_tup_ex {v : V} {ds : List PyData} : Dp K S v (.tuple ds) → ∃ a vs, v = .ref a ∧ SqT K S a vs ∧ DpAll K S vs ds
  | .tup h a => ⟨_, _, rfl, h, a⟩
/-- a list that is given away -/
theorem dp_give {p : Addr} {vs : List V} {ds : List PyData} (h : S p = none) (a : DpAll K S vs ds) : Dp K (upd S p (.lst vs)) (.ref p) (.list ds) :=
  .lst (.inl (.inl upd_same)) (dpAll_mono (same_new h) a)
/-- what comes, by its datum: a flat value is written out -/
def Kn (K : PySem.W.Frag) (S : Hp) (d : PyData) (P : V → Prop) : Prop :=
  match d with
  | .none => P .non
  | .bool b => P (.bl b)
  | .int i => P (.int i)
  | .str x => P (.str x)
  | d => ∀ u, Dp K S u d → P u
theorem Kn.of {d : PyData} {P : V → Prop} (h : Kn K S d P) : ∀ u, Dp K S u d → P u := fun u hu => by
  cases hu with
  | non => exact h
  | bl b => exact h
  | int i => exact h
  | str x => exact h
  | lst h1 h2 => exact h _ (.lst h1 h2)
  | tup h1 h2 => exact h _ (.tup h1 h2)
theorem kn_int {i : Int} {P : V → Prop} (h : P (.int i)) : Kn K S (.int i) P := h
theorem kn_bl {i : Bool} {P : V → Prop} (h : P (.bl i)) : Kn K S (.bool i) P := h
theorem kn_str {i : Str} {P : V → Prop} (h : P (.str i)) : Kn K S (.str i) P := h
theorem kn_non {P : V → Prop} (h : P .non) : Kn K S .none P := h
theorem kn_tup {ds : List PyData} {P : V → Prop} (h : ∀ u, Dp K S u (.tuple ds) → P u) : Kn K S (.tuple ds) P := h
theorem kn_lst {ds : List PyData} {P : V → Prop} (h : ∀ u, Dp K S u (.list ds) → P u) : Kn K S (.list ds) P := h
theorem kn_any {d : PyData} {P : V → Prop} (h : ∀ u, Dp K S u d → P u) : Kn K S d P := by
  cases d with
  | none => exact h _ .non
  | bool b => exact h _ (.bl b)
  | int i => exact h _ (.int i)
  | str x => exact h _ (.str x)
  | list ds => exact h
  | tuple ds => exact h
  | dict _ => exact h
end
end SB
/-! Step lemmas: a reading's head, what it asks. -/
namespace SB
open PySem PySem.Spec PyProof.Rows L2
/-! ### readings by names (a name keeps what follows in one piece) -/
def NewT (Q : VK) (xs : List V) (H : Hp) : Prop := xs.length ≤ sizeLine ∧ ∀ p, H p = none → Q (.ref p) (upd H p (.tup xs))
def NewL (Q : VK) (xs : List V) (H : Hp) : Prop := xs.length ≤ sizeLine ∧ ∀ p, H p = none → Q (.ref p) (upd H p (.lst xs))
def rLen (K : PySem.W.Frag) : List V → Hp → VK → Prop := fun xs H Q => ∃ p ys, xs = [.ref p] ∧ (SqL K H p ys ∨ SqT K H p ys) ∧ Q (.int (ys.length : Int)) H
def rAbs : List V → Hp → VK → Prop := fun xs H Q => ∃ i, xs = [.int i] ∧ Q (.int (if i < 0 then -i else i)) H
def rMx2 : List V → Hp → VK → Prop := fun xs H Q => ∃ i j, xs = [.int i, .int j] ∧ Q (.int (if j > i then j else i)) H
def rInt1 : List V → Hp → VK → Prop := fun xs H Q => (∃ i, xs = [.int i] ∧ Q (.int i) H) ∨ ∃ k, xs = [.bl k] ∧ Q (.int (if k then 1 else 0)) H
def rLst (K : PySem.W.Frag) : List V → Hp → VK → Prop := fun xs H Q => ∃ p ys, xs = [.ref p] ∧ (SqL K H p ys ∨ SqT K H p ys) ∧ ∀ l, H l = none → Q (.ref l) (upd H l (.lst ys))
def rNon : R2 := fun x y H Q => y = .non ∧ Q (.bl (decide (x = .non))) H
def rNotNon : R2 := fun x y H Q => y = .non ∧ Q (.bl (!decide (x = .non))) H
section
variable {X : Cx}
theorem cl_len : CallR X (.builtin "len") (rLen X.K) := call_len_seq
theorem cl_abs : CallR X (.builtin "abs") rAbs := call_abs
theorem cl_max2 (hc : X.calm = true) : CallR X (.builtin "max") rMx2 := call_max2 hc
theorem cl_int1 : CallR X (.type "int") rInt1 := call_int1
theorem cl_list : CallR X (.type "list") (rLst X.K) := call_list_of
theorem ol_isN : OpR X (compareOp .Is) rNon := op_isN
theorem ol_notN : OpR X (compareOp .IsNot) rNotNon := op_notN
end
/-- a list's method -/
def BmR (K : PySem.W.Frag) (T : String) (P : V → Hp → Prop) (x : V) (H : Hp) : Prop := tyV K T x H ∧ P x H
/-- truth -/
def TruQ (K : PySem.W.Frag) (Q : Bool → Hp → Prop) (x : V) (H : Hp) : Prop := ∃ k, TruV K x H k ∧ Q k H
def tTr (K : PySem.W.Frag) (ta : TE) : TT := fun σ H Q => ta σ H fun x H' => TruQ K Q x H'
theorem pl_truth {X : Cx} {a : Expr} {ta : TE} (ha : PE X a ta) (he : ∀ whole, isTrue a X.env whole = (do let v ← whole; standAt a.pos; holding [v] (truthy v))) : PT X a (tTr X.K ta) := pt_truth ha he
/-- a field read, stored; a method found -/
def FldR (K : PySem.W.Frag) (f : Str) (Q : VK) (x : V) (H : Hp) : Prop := ∃ a C dx fs v, x = .ref a ∧ H a = some (.ins C dx fs) ∧ Cls K C ∧ NoAttr K C f ∧ fs.lookup f = some v ∧ Q v H
def FldS (K : PySem.W.Frag) (f : Str) (y : V) (N : Hp → Prop) (x : V) (H : Hp) : Prop := ∃ a C dx fs, x = .ref a ∧ H a = some (.ins C dx fs) ∧ Cls K C ∧ NoAttr K C f ∧ fs.length < 1000 ∧ N (upd H a (.ins C dx (putF f y fs)))
def MthR (C : Addr) (m : Str) (P : V → Hp → Prop) (x : V) (H : Hp) : Prop := ∃ a dx fs, x = .ref a ∧ H a = some (.ins C dx fs) ∧ fs.lookup m = none ∧ P x H
section
variable {K : PySem.W.Frag} {S H : Hp} {O : List (Addr × HO)} {σ : L2.St} {Q : VK} {ta tb tc te : TE} {t u : TS} {x y v : V}
  {nx bk ct : L2.St → Hp → Prop} {rt : VK} {D : Ends} {i : Nat} {QA : List V → Hp → Prop} {QT : Bool → Hp → Prop} {a b : Int} {r r' : R2} {tt tu : TT}

/-! ### statements -/
theorem x_seq (h : t ⟨u ⟨nx, rt, bk, ct⟩, rt, bk, ct⟩ σ H) : tSeq t u ⟨nx, rt, bk, ct⟩ σ H := h
theorem x_next (h : nx σ H) : tNext ⟨nx, rt, bk, ct⟩ σ H := h
theorem x_brk (h : bk σ H) : tBreak ⟨nx, rt, bk, ct⟩ σ H := h
theorem x_asg {g : TG} (h : te σ H fun x H1 => g x σ H1 nx) : tAsg te g ⟨nx, rt, bk, ct⟩ σ H := h
theorem x_gname {Q : L2.St → Hp → Prop} (h : Q (σ.set i (some v)) H) : gName i v σ H Q := h
theorem x_gsub {to ti : TE} {t : TSet} {Q : L2.St → Hp → Prop} (h : to σ H fun o H1 => ti σ H1 fun i H2 => t o i v H2 fun H3 => Q σ H3) : gSub to ti t v σ H Q := h
theorem x_drop (h : te σ H fun _ H1 => nx σ H1) : tDrop te ⟨nx, rt, bk, ct⟩ σ H := h
theorem x_ret (h : te σ H rt) : tRet te ⟨nx, rt, bk, ct⟩ σ H := h
theorem x_retN (h : rt .non H) : tRetN ⟨nx, rt, bk, ct⟩ σ H := h
theorem x_if (h : tt σ H fun b H1 => if b = true then t D σ H1 else u D σ H1) : tIfS tt t u D σ H := h
theorem x_fld {f : Str} (h : te σ H fun y H1 => ta σ H1 fun x H2 => FldS K f y (nx σ) x H2) : sFld K ta te f ⟨nx, rt, bk, ct⟩ σ H := h
theorem x_fldr {f : Str} (h : ta σ H fun x H1 => FldR K f Q x H1) : tFld K ta f σ H Q := h
theorem x_gtup {n : Nat} {gs : TGs} {Q : L2.St → Hp → Prop} (h : ∃ a xs, v = .ref a ∧ SqT K H a xs ∧ xs.length = n ∧ gs xs σ H Q) : gTup K n gs v σ H Q := h
theorem x_gcons {g : TG} {gs : TGs} {vs : List V} {Q : L2.St → Hp → Prop} (h : g v σ H fun σ' H' => gs vs σ' H' Q) : gCons g gs (v :: vs) σ H Q := ⟨v, vs, rfl, h⟩
theorem x_gnil {Q : L2.St → Hp → Prop} (h : Q σ H) : gNil [] σ H Q := ⟨rfl, h⟩

/-! ### branches -/
theorem x_iteT {A B : Prop} (h : A) : if true = true then A else B := by rw [if_pos rfl]; exact h
theorem x_iteF {A B : Prop} (h : B) : if false = true then A else B := by rw [if_neg Bool.false_ne_true]; exact h
theorem x_ite {c : Bool} {A B : Prop} (h1 : c = true → A) (h2 : c = false → B) : if c = true then A else B := by
  cases c
  · rw [if_neg Bool.false_ne_true]; exact h2 rfl
  · rw [if_pos rfl]; exact h1 rfl
theorem x_iteD {p : Prop} [Decidable p] {A B : Prop} (h1 : p → A) (h2 : ¬ p → B) : if decide p = true then A else B :=
  x_ite (fun h => h1 (of_decide_eq_true h)) (fun h => h2 (of_decide_eq_false h))
theorem x_iteN {c : Bool} {A B : Prop} (h1 : c = false → A) (h2 : c = true → B) : if (!c) = true then A else B := by
  cases c
  · exact x_iteT (h1 rfl)
  · exact x_iteF (h2 rfl)
theorem x_iteND {p : Prop} [Decidable p] {A B : Prop} (h1 : ¬ p → A) (h2 : p → B) : if (!decide p) = true then A else B :=
  x_iteN (fun h => h1 (of_decide_eq_false h)) (fun h => h2 (of_decide_eq_true h))
theorem x_no {c : Bool} {A B : Prop} (e : c = false) (h : B) : if c = true then A else B := by rw [e]; exact x_iteF h
theorem x_sure {c : Bool} {A B : Prop} (e : c = true) (h : A) : if c = true then A else B := by rw [e]; exact x_iteT h
theorem x_nT {A B : Prop} (h : B) : if (!true) = true then A else B := x_no rfl h
theorem x_nF {A B : Prop} (h : A) : if (!false) = true then A else B := x_sure rfl h
theorem x_iteTo {c d : Bool} {A B : Prop} (e : c = d) (h : if d = true then A else B) : if c = true then A else B := e ▸ h

/-! ### values -/
theorem x_var (h : σ[i]? = some (some v)) (q : Q v H) : tVar i σ H Q := ⟨v, h, q⟩
theorem x_c (q : Q v H) : tC v σ H Q := q
theorem x_op (h : ta σ H fun x H1 => tb σ H1 fun y H2 => r x y H2 Q) : tOp r ta tb σ H Q := h
theorem x_un {r : V → Hp → VK → Prop} (h : ta σ H fun x H1 => r x H1 Q) : tUn r ta σ H Q := h
theorem x_I0 {g : Int → Int → V} (q : Q (g a b) H) : rI0 g (.int a) (.int b) H Q := ⟨a, b, rfl, rfl, q⟩
theorem x_I {C : Int → Int → Prop} {g : Int → Int → V} (hc : C a b) (q : Q (g a b) H) : rI C g (.int a) (.int b) H Q := ⟨a, b, rfl, rfl, hc, q⟩
theorem x_U {g : Int → V} (q : Q (g a) H) : rU g (.int a) H Q := ⟨a, rfl, q⟩
theorem x_test (h : te σ H fun x H' => ∃ k, x = .bl k ∧ QT k H') : tTest te σ H QT := h
theorem x_tB (h : te σ H fun x H' => ∃ k, x = .bl k ∧ QT k H') : tB te σ H QT := h
theorem x_k {c : Bool} (h : QT c H) : ∃ k, V.bl c = .bl k ∧ QT k H := ⟨c, rfl, h⟩
theorem x_kx {c : Bool} {P : Bool → Prop} (h : P c) : ∃ k, V.bl c = .bl k ∧ P k := ⟨c, rfl, h⟩
theorem x_chain (h : ta σ H fun x H1 => tb σ H1 fun y H2 => r x y H2 fun z H3 => ∃ k, z = .bl k ∧ (if k = true then tc σ H3 fun w' H4 => r' y w' H4 Q else Q (.bl false) H3)) : tChain r r' ta tb tc σ H Q := h
theorem x_and (h : tt σ H fun c H1 => if c = true then tu σ H1 QT else QT false H1) : tAnd tt tu σ H QT := h
theorem x_or (h : tt σ H fun c H1 => if c = true then QT true H1 else tu σ H1 QT) : tOr tt tu σ H QT := h
theorem x_not (h : tt σ H fun c H1 => QT (!c) H1) : tNot tt σ H QT := h
theorem x_andV (h : ta σ H fun x H1 => ∃ c, x = .bl c ∧ if c = true then tb σ H1 Q else Q (.bl false) H1) : tAndV ta tb σ H Q := h
theorem x_orV (h : ta σ H fun x H1 => ∃ c, x = .bl c ∧ if c = true then Q (.bl true) H1 else tb σ H1 Q) : tOrV ta tb σ H Q := h
theorem x_notV (h : ta σ H fun x H1 => ∃ c, x = .bl c ∧ Q (.bl (!c)) H1) : tNotV ta σ H Q := h
theorem x_ifE (h : tt σ H fun c H1 => if c = true then ta σ H1 Q else tb σ H1 Q) : tIf tt ta tb σ H Q := h
theorem x_isN (q : Q (.bl (decide (x = .non))) H) : rNon x .non H Q := ⟨rfl, q⟩
theorem x_notN (q : Q (.bl (!decide (x = .non))) H) : rNotNon x .non H Q := ⟨rfl, q⟩
theorem x_eqI (q : Q (.bl (decide (a = b))) H) : rEq (.int a) (.int b) H Q := ⟨rfl, by rw [dec_int, Bool.beq_eq_decide_eq]; exact q⟩
theorem x_neI (q : Q (.bl (!decide (a = b))) H) : rNe (.int a) (.int b) H Q := ⟨rfl, by rw [dec_int, Bool.beq_eq_decide_eq]; exact q⟩
theorem x_eqB {a b : Bool} (q : Q (.bl (decide (a = b))) H) : rEq (.bl a) (.bl b) H Q := ⟨rfl, by rw [dec_bl, Bool.beq_eq_decide_eq]; exact q⟩
theorem x_neB {a b : Bool} (q : Q (.bl (!decide (a = b))) H) : rNe (.bl a) (.bl b) H Q := ⟨rfl, by rw [dec_bl, Bool.beq_eq_decide_eq]; exact q⟩
theorem x_eqV {c : Bool} (h : scal x y = true) (e : decide (x = y) = c) (q : Q (.bl c) H) : rEq x y H Q := ⟨h, by rw [e]; exact q⟩
theorem x_neV {c : Bool} (h : scal x y = true) (e : decide (x = y) = c) (q : Q (.bl (!c)) H) : rNe x y H Q := ⟨h, by rw [e]; exact q⟩

/-! ### calls -/
theorem x_nil (q : QA [] H) : tNil σ H QA := q
theorem x_cons {tr : TA} (h : te σ H fun x H1 => tr σ H1 fun xs H2 => QA (x :: xs) H2) : tCons te tr σ H QA := h
theorem x_call {sp : Sp} {dvs : List V} {E : XK} {t : TA} (h : t σ H fun vs H1 => sp (vs ++ dvs) H1 Q E) : tCall sp dvs E t σ H Q := h
theorem x_call0 {sp : Sp} {E : XK} {t : TA} (h : t σ H fun vs H1 => sp vs H1 Q E) : tCall sp [] E t σ H Q := by
  have e : (fun (vs : List V) (H1 : Hp) => sp (vs ++ []) H1 Q E) = fun vs H1 => sp vs H1 Q E := by funext vs H1; rw [List.append_nil]
  show t σ H fun vs H1 => sp (vs ++ []) H1 Q E
  rw [e]
  exact h
theorem x_callS {sp : Sp} {E : L2.St → XK} {t : TA} (h : t σ H fun vs H1 => sp vs H1 Q (E σ)) : tCallS sp E t σ H Q := h
theorem x_cb {r : List V → Hp → VK → Prop} {t : TA} (h : t σ H fun vs H1 => r vs H1 Q) : tCB r t σ H Q := h
theorem x_ttup {t : TA} (h : t σ H fun xs H1 => NewT Q xs H1) : tTup t σ H Q := h
theorem x_tlst {t : TA} (h : t σ H fun xs H1 => NewL Q xs H1) : tLst t σ H Q := h
theorem x_meth {C : Addr} {m : Str} {sp : Sp} {E : XK} {t : TA} (h : ta σ H fun x H1 => MthR C m (fun x H2 => t σ H2 fun vs H3 => sp (x :: vs) H3 Q E) x H1) : tMeth C m sp [] E ta t σ H Q := by
  have e : (fun (x : V) (H1 : Hp) => MthR C m (fun x H2 => t σ H2 fun vs H3 => sp (x :: vs) H3 Q E) x H1) = fun x H1 => ∃ a dx fs, x = .ref a ∧ H1 a = some (.ins C dx fs) ∧ fs.lookup m = none ∧ t σ H1 fun vs H2 => sp (x :: (vs ++ [])) H2 Q E := by
    funext x H1
    unfold MthR
    simp only [List.append_nil]
  show ta σ H _
  rw [← e]
  exact h

/-! ### new tuples and lists -/
theorem sz {n : Nat} (h : n ≤ 1000000) : n ≤ sizeLine := Nat.le_trans h (by decide)
theorem szl {n : Nat} (h : n ≤ 1000000) : n < sizeLine := Nat.lt_of_le_of_lt h (by decide)
/-- a new tuple that stays -/
theorem x_tup {vs : List V} {ds : List PyData} (W : Wd K S H O) (hd : DpAll K S vs ds) (hl : vs.length ≤ 1000000) (k : ∀ S' H' v, Wd K S' H' O → Same S S' → Dp K S' v (.tuple ds) → Q v H') : NewT Q vs H :=
  ⟨sz hl, fun p hp => k _ _ _ (W.new hp) (same_new (W.frS hp)) (.tup (.inl (.inl upd_same)) (dpAll_mono (same_new (W.frS hp)) hd))⟩
theorem x_tup' {vs : List V} {ds : List PyData} (W : Wd K S H O) (hd : DpAll K S vs ds) (k : ∀ S' H' v, Wd K S' H' O → Same S S' → Dp K S' v (.tuple ds) → Q v H') :
    ∀ p, H p = none → Q (.ref p) (upd H p (.tup vs)) :=
  fun p hp => k _ _ _ (W.new hp) (same_new (W.frS hp)) (.tup (.inl (.inl upd_same)) (dpAll_mono (same_new (W.frS hp)) hd))
/-- a new list that stays -/
theorem x_lst {vs : List V} {ds : List PyData} (W : Wd K S H O) (hd : DpAll K S vs ds) (hl : vs.length ≤ 1000000) (k : ∀ S' H' v, Wd K S' H' O → Same S S' → Dp K S' v (.list ds) → Q v H') : NewL Q vs H :=
  ⟨sz hl, fun p hp => k _ _ _ (W.new hp) (same_new (W.frS hp)) (.lst (.inl (.inl upd_same)) (dpAll_mono (same_new (W.frS hp)) hd))⟩
theorem x_lst' {vs : List V} {ds : List PyData} (W : Wd K S H O) (hd : DpAll K S vs ds) (k : ∀ S' H' v, Wd K S' H' O → Same S S' → Dp K S' v (.list ds) → Q v H') :
    ∀ p, H p = none → Q (.ref p) (upd H p (.lst vs)) :=
  fun p hp => k _ _ _ (W.new hp) (same_new (W.frS hp)) (.lst (.inl (.inl upd_same)) (dpAll_mono (same_new (W.frS hp)) hd))
/-- a new list that is ours -/
theorem x_own {vs : List V} (W : Wd K S H O) (hl : vs.length ≤ 1000000) (k : ∀ p H', Wd K S H' ((p, .lst vs) :: O) → Q (.ref p) H') : NewL Q vs H := ⟨sz hl, fun p hp => k p _ (W.alloc hp)⟩
theorem x_own' {vs : List V} {o : HO} (W : Wd K S H O) (k : ∀ p H', Wd K S H' ((p, o) :: O) → Q (.ref p) H') :
    ∀ p, H p = none → Q (.ref p) (upd H p o) := fun p hp => k p _ (W.alloc hp)

/-! ### items -/
theorem atI_of {α : Type} {xs : List α} {i : Int} {x : α} (h0 : 0 ≤ i) (h : xs[i.toNat]? = some x) : atI xs i = some x := by
  have e : i = ((i.toNat : Nat) : Int) := by omega
  rw [e]
  exact atI_nat h
theorem atI_map {α β : Type} [Inhabited α] {xs : List α} {f : α → β} {i : Int} (h0 : 0 ≤ i) (h : i < xs.length) : atI (xs.map f) i = some (f (nth xs i)) := by
  refine atI_of h0 ?_
  rw [List.getElem?_map, nth_get h0 h]
  rfl
theorem atI_nth {α : Type} [Inhabited α] {xs : List α} {i : Int} (h0 : 0 ≤ i) (h : i < xs.length) : atI xs i = some (nth xs i) := atI_of h0 (nth_get h0 h)
theorem ixN_of {n : Nat} {i : Int} (h0 : 0 ≤ i) (h : i < n) : ixN n i = some i.toNat := by
  unfold ixN
  rw [if_pos h0, if_pos h]
theorem dp_at {vs : List V} {ds : List PyData} {i : Int} {d : PyData} (h : DpAll K S vs ds) (hi : atI ds i = some d) : ∃ u, atI vs i = some u ∧ Dp K S u d := by
  unfold atI at hi ⊢
  rw [dpAll_len h]
  cases e : ixN ds.length i with
  | none => rw [e] at hi; cases hi
  | some j =>
    rw [e] at hi
    exact dpAll_get h hi
theorem x_ixT {ds : List PyData} {i : Int} {d : PyData} (W : Wd K S H O) (h : Dp K S x (.tuple ds)) (hi : atI ds i = some d) (k : Kn K S d fun u => Q u H) : rIx K x (.int i) H Q := by
  obtain ⟨a, vs, rfl, hq, ha⟩ := dp_tup_ex h
  obtain ⟨u, hu, hd⟩ := dp_at ha hi
  exact .inr (.inl ⟨a, vs, i, u, rfl, rfl, W.tup hq, hu, k.of u hd⟩)
theorem x_ixL {ds : List PyData} {i : Int} {d : PyData} (W : Wd K S H O) (h : Dp K S x (.list ds)) (hi : atI ds i = some d) (k : Kn K S d fun u => Q u H) : rIx K x (.int i) H Q := by
  obtain ⟨a, vs, rfl, hq, ha⟩ := dp_lst_ex h
  obtain ⟨u, hu, hd⟩ := dp_at ha hi
  exact .inl ⟨a, vs, i, u, rfl, rfl, W.lst hq, hu, k.of u hd⟩
/-- of one of ours -/
theorem x_ixO {p : Addr} {vs : List V} {i : Int} {u : V} (n : Nat) (W : Wd K S H O) (h : O[n]? = some (p, .lst vs)) (hi : atI vs i = some u) (k : Q u H) : rIx K (.ref p) (.int i) H Q :=
  .inl ⟨p, vs, i, u, rfl, rfl, .of (W.at n h), hi, k⟩
theorem x_setO {p : Addr} {vs : List V} {i : Int} {j : Nat} {Q : Hp → Prop} (n : Nat) (W : Wd K S H O) (h : O[n]? = some (p, .lst vs)) (hi : ixN vs.length i = some j)
    (k : ∀ H', Wd K S H' (O.set n (p, .lst (vs.set j v))) → Q H') : rSetL (.ref p) (.int i) v H Q :=
  ⟨p, vs, i, j, rfl, rfl, W.at n h, hi, k _ (W.put n h)⟩
theorem tyV_own {p : Addr} {vs : List V} (n : Nat) (W : Wd K S H O) (h : O[n]? = some (p, .lst vs)) : tyV K "list" (.ref p) H := .inl ⟨rfl, vs, .of (W.at n h)⟩
theorem tyV_dp {ds : List PyData} (W : Wd K S H O) (h : Dp K S x (.list ds)) : tyV K "list" x H := by
  obtain ⟨a, vs, rfl, hq, ha⟩ := dp_lst_ex h
  exact .inl ⟨rfl, vs, W.lst hq⟩
theorem x_bm {T : String} {r : V → List V → Hp → VK → Prop} {t : TA} (h : ta σ H fun x H1 => BmR K T (fun x H1 => t σ H1 fun xs H2 => r x xs H2 Q) x H1) : tBM K T r ta t σ H Q := h
theorem x_bm0 {T : String} {r : V → List V → Hp → VK → Prop} (h : ta σ H fun x H1 => BmR K T (fun x H1 => r x [] H1 Q) x H1) : tBM0 K T r ta σ H Q := h
theorem x_bmo {P : V → Hp → Prop} {p : Addr} {vs : List V} (n : Nat) (W : Wd K S H O) (h : O[n]? = some (p, .lst vs)) (k : P (.ref p) H) : BmR K "list" P (.ref p) H := ⟨tyV_own n W h, k⟩
theorem x_bmd {P : V → Hp → Prop} {ds : List PyData} (W : Wd K S H O) (h : Dp K S x (.list ds)) (k : P x H) : BmR K "list" P x H := ⟨tyV_dp W h, k⟩
theorem x_app {p : Addr} {vs : List V} (n : Nat) (W : Wd K S H O) (h : O[n]? = some (p, .lst vs)) (hl : vs.length ≤ 1000000) (k : ∀ H', Wd K S H' (O.set n (p, .lst (vs ++ [v]))) → Q .non H') :
    rAppend (.ref p) [v] H Q := ⟨p, vs, v, rfl, rfl, W.at n h, szl hl, k _ (W.put n h)⟩
theorem x_pop {p : Addr} {vs : List V} (n : Nat) (W : Wd K S H O) (h : O[n]? = some (p, .lst vs)) (hu : vs[vs.length - 1]? = some v) (k : ∀ H', Wd K S H' (O.set n (p, .lst vs.dropLast)) → Q v H') :
    rPop (.ref p) [] H Q := ⟨p, vs, v, rfl, rfl, W.at n h, hu, k _ (W.put n h)⟩

/-! ### built-ins -/
theorem x_len {ds : List PyData} (W : Wd K S H O) (h : Dp K S x (.list ds)) (q : Q (.int ds.length) H) : rLen K [x] H Q := by
  obtain ⟨a, vs, rfl, hq, ha⟩ := dp_lst_ex h
  exact ⟨a, vs, rfl, .inl (W.lst hq), by rw [dpAll_len ha]; exact q⟩
theorem x_lenT {ds : List PyData} (W : Wd K S H O) (h : Dp K S x (.tuple ds)) (q : Q (.int ds.length) H) : rLen K [x] H Q := by
  obtain ⟨a, vs, rfl, hq, ha⟩ := dp_tup_ex h
  exact ⟨a, vs, rfl, .inr (W.tup hq), by rw [dpAll_len ha]; exact q⟩
theorem x_lenO {p : Addr} {vs : List V} (n : Nat) (W : Wd K S H O) (h : O[n]? = some (p, .lst vs)) (q : Q (.int vs.length) H) : rLen K [.ref p] H Q := ⟨p, vs, rfl, .inl (.of (W.at n h)), q⟩
theorem x_sum {ns : List Int} (W : Wd K S H O) (h : Dp K S x (.list (ns.map PyData.int))) (q : Q (.int ns.sum) H) : rSum K [x] H Q := by
  obtain ⟨a, vs, rfl, hq, ha⟩ := dp_lst_ex h
  rw [ints_of ha] at hq
  exact ⟨a, ns, rfl, W.lst hq, q⟩
theorem x_all {bs : List Bool} (W : Wd K S H O) (h : Dp K S x (.list (bs.map PyData.bool))) (q : Q (.bl (bs.all id)) H) : rAll K [x] H Q := by
  obtain ⟨a, vs, rfl, hq, ha⟩ := dp_lst_ex h
  rw [bools_of ha] at hq
  exact ⟨a, bs, rfl, W.lst hq, q⟩
theorem x_any {bs : List Bool} (W : Wd K S H O) (h : Dp K S x (.list (bs.map PyData.bool))) (q : Q (.bl (bs.any id)) H) : rAny K [x] H Q := by
  obtain ⟨a, vs, rfl, hq, ha⟩ := dp_lst_ex h
  rw [bools_of ha] at hq
  exact ⟨a, bs, rfl, W.lst hq, q⟩
theorem x_abs (q : Q (.int (if a < 0 then -a else a)) H) : rAbs [.int a] H Q := ⟨a, rfl, q⟩
theorem x_max2 (q : Q (.int (max a b)) H) : rMx2 [.int a, .int b] H Q := ⟨a, b, rfl, by
  have e : (if b > a then b else a) = max a b := by
    split <;> omega
  rw [e]
  exact q⟩
theorem x_intB {c : Bool} (q : Q (.int (if c then 1 else 0)) H) : rInt1 [.bl c] H Q := .inr ⟨c, rfl, q⟩
/-- list(x) of a list: a new one that stays, or that is ours -/
theorem x_listS {ds : List PyData} (W : Wd K S H O) (h : Dp K S x (.list ds)) (k : ∀ S' H' v, Wd K S' H' O → Same S S' → Dp K S' v (.list ds) → Q v H') : rLst K [x] H Q := by
  obtain ⟨a, vs, rfl, hq, ha⟩ := dp_lst_ex h
  exact ⟨a, vs, rfl, .inl (W.lst hq), x_lst' W ha k⟩
theorem x_listO {ds : List PyData} (W : Wd K S H O) (h : Dp K S x (.list ds)) (k : ∀ p vs H', DpAll K S vs ds → Wd K S H' ((p, .lst vs) :: O) → Q (.ref p) H') : rLst K [x] H Q := by
  obtain ⟨a, vs, rfl, hq, ha⟩ := dp_lst_ex h
  exact ⟨a, vs, rfl, .inl (W.lst hq), fun l hl => k l vs _ ha (W.alloc hl)⟩
theorem x_tr (h : ta σ H fun x H1 => TruQ K QT x H1) : tTr K ta σ H QT := h
theorem x_truB {c : Bool} (q : QT c H) : TruQ K QT (.bl c) H := ⟨_, rfl, q⟩
/-- truth of a list -/
theorem x_truL {ds : List PyData} (W : Wd K S H O) (h : Dp K S x (.list ds)) (q : QT (!ds.isEmpty) H) : TruQ K QT x H := by
  obtain ⟨a, vs, rfl, hq, ha⟩ := dp_lst_ex h
  refine ⟨_, .inl ⟨vs, W.lst hq, rfl⟩, ?_⟩
  have e : vs.isEmpty = ds.isEmpty := by
    have := dpAll_len ha
    cases vs <;> cases ds <;> simp_all
  rw [e]
  exact q
theorem x_truO {p : Addr} {vs : List V} (n : Nat) (W : Wd K S H O) (h : O[n]? = some (p, .lst vs)) (q : QT (!vs.isEmpty) H) : TruQ K QT (.ref p) H :=
  ⟨_, .inl ⟨vs, .of (W.at n h), rfl⟩, q⟩
/-! ### isinstance of data -/
theorem tyx_lst {ds : List PyData} (W : Wd K S H O) (h : Dp K S x (.list ds)) : TyX K H x (.type "list") := by
  obtain ⟨a, vs, rfl, hq, ha⟩ := dp_lst_ex h
  rcases W.lst hq with (e | ⟨o, e⟩) | ⟨o, its, n, e, c, _⟩
  · exact .base (.lst e)
  · exact .base (.frz e)
  · exact .kList e c
theorem tyx_tup {ds : List PyData} (W : Wd K S H O) (h : Dp K S x (.tuple ds)) : TyX K H x (.type "tuple") := by
  obtain ⟨a, vs, rfl, hq, ha⟩ := dp_tup_ex h
  rcases W.tup hq with (e | ⟨o, e⟩) | ⟨o, its, n, e, c, _⟩
  · exact .base (.tup e)
  · exact .fTuple e
  · exact .kTuple e c
theorem x_isi {t : Value} {n : String} {b : Bool} (h : TyX K H x t) (hk : PySem.W.kitOne K t (.type n) = some b) (q : Q (.bl b) H) : rIsi K [x, .ty n] H Q := ⟨x, .ty n, t, .type n, b, rfl, .ty n, h, hk, q⟩
theorem x_isiI {n : String} {b : Bool} (hk : kitB "int" n = some b) (q : Q (.bl b) H) : rIsi K [.int a, .ty n] H Q := x_isi (.base (.int a)) (kit_ty hk) q
theorem x_isiB {n : String} {b c : Bool} (hk : kitB "bool" n = some b) (q : Q (.bl b) H) : rIsi K [.bl c, .ty n] H Q := x_isi (.base (.bl c)) (kit_ty hk) q
theorem x_isiN {n : String} {b : Bool} (hk : kitB "NoneType" n = some b) (q : Q (.bl b) H) : rIsi K [.non, .ty n] H Q := x_isi (.base .non) (kit_ty hk) q
theorem x_isiS {n : String} {b : Bool} {z : Str} (hk : kitB "str" n = some b) (q : Q (.bl b) H) : rIsi K [.str z, .ty n] H Q := x_isi (.base (.str z)) (kit_ty hk) q
theorem x_isiL {n : String} {b : Bool} {ds : List PyData} (W : Wd K S H O) (h : Dp K S x (.list ds)) (hk : kitB "list" n = some b) (q : Q (.bl b) H) : rIsi K [x, .ty n] H Q := x_isi (tyx_lst W h) (kit_ty hk) q
theorem x_isiT {n : String} {b : Bool} {ds : List PyData} (W : Wd K S H O) (h : Dp K S x (.tuple ds)) (hk : kitB "tuple" n = some b) (q : Q (.bl b) H) : rIsi K [x, .ty n] H Q := x_isi (tyx_tup W h) (kit_ty hk) q
end
/-- isinstance of the exception that the suite holds, its class told by the reading -/
def rIsX (K : PySem.W.Frag) (cls : Value) (d : Option Addr) (a : Addr) : List V → Hp → VK → Prop := fun xs H Q => ∃ (D : Addr) (c : V) (cv : Value) (b : Bool),
  cls = .ref D ∧ d = none ∧ ExcC K D ∧ xs = [.ref a, c] ∧ (∀ u, RelV c u → u = cv) ∧ PySem.W.kitOne K (.ref D) cv = some b ∧ Q (.bl b) H
theorem call_isX {X : Cx} {a : Addr} {oe : Obj} {cls : Value} {d : Option Addr} {pn : List (Addr × Obj)} (hz : Zc cls d oe) (hf : ∃ vs, oe.data = .fields vs) : CallR (X.suite a ((a, oe) :: pn)) (.builtin "isinstance") (rIsX X.K cls d a) := by
  intro pins s σ H xs us Q I r h
  obtain ⟨D, c, cv, b, rfl, rfl, C, e1, e2, e3, q⟩ := h
  exact call_isE C hz hf pins s σ H xs us Q I r ⟨c, cv, b, e1, e2, e3, q⟩
end SB
/-! Loops and comprehensions. -/
namespace SB
open PySem PySem.Spec PyProof.Rows L2
section
variable {K : PySem.W.Frag} {S H : Hp} {O : List (Addr × HO)} {σ : L2.St} {Q : VK} {x y v : V} {D : Ends}
  {nx bk ct : L2.St → Hp → Prop} {rt : VK} {tt tc : TT} {tb : TS} {g : TG} {te tl : TE} {ta : TA} {vs : List Nat}

/-! ### while -/
/-- a turn of a while: n is its number -/
def Again (J : Nat → L2.St → Hp → Prop) (n : Nat) (tb : TS) (D : Ends) (σ : L2.St) (H : Hp) : Prop :=
  ∃ N : L2.St → Hp → Prop, (∀ σ' H', N σ' H' → ∃ m', m' < n ∧ J m' σ' H') ∧ tb ⟨N, D.rt, D.nx, N⟩ σ H
theorem x_again {J : Nat → L2.St → Hp → Prop} {n : Nat} (h : tb ⟨fun σ' H' => ∃ m', m' < n ∧ J m' σ' H', rt, nx, fun σ' H' => ∃ m', m' < n ∧ J m' σ' H'⟩ σ H) : Again J n tb ⟨nx, rt, bk, ct⟩ σ H := ⟨_, fun _ _ h => h, h⟩
theorem x_while (J : Nat → L2.St → Hp → Prop) (m : Nat) (h0 : J m σ H) (hs : ∀ n σ' H', J n σ' H' → tc σ' H' fun b H1 => if b = true then Again J n tb ⟨nx, rt, bk, ct⟩ σ' H1 else nx σ' H1) :
    tWhile tc tb ⟨nx, rt, bk, ct⟩ σ H := ⟨J, ⟨m, h0⟩, hs⟩

/-! ### for -/
/-- the loop when its iterable's value has come -/
def ForL (K : PySem.W.Frag) (g : TG) (tb : TS) (D : Ends) (x : V) (σ : L2.St) (H : Hp) : Prop := ∃ a, x = .ref a ∧ (∃ xs, SqL K H a xs) ∧ ∃ W : Nat → Nat → L2.St → Hp → Prop, (∃ m, W 0 m σ H) ∧ ∀ i m σ H, W i m σ H →
  ((Itl K a).stop i H ∧ D.nx σ H) ∨ ((Itl K a).go i H ∧ ∃ N : L2.St → Hp → Prop, (∀ σ' H', N σ' H' → ∃ m', m' < m ∧ W (i + 1) m' σ' H') ∧ ∀ x H', (Itl K a).yld i H x H' → g x σ H' fun σ2 H2 => tb { D with nx := N, ct := N, bk := D.nx } σ2 H2)
theorem x_for (h : tl σ H fun x H1 => ForL K g tb D x σ H1) : tFor (iList K tl) g tb D σ H := h
theorem x_forV {a : Addr} {ys : List V} (J : Nat → L2.St → Hp → Prop) (h0 : J 0 σ H) (hq : ∀ i σ' H', J i σ' H' → SqL K H' a ys)
    (hs : ∀ i y σ' H', ys[i]? = some y → J i σ' H' → g y σ' H' fun σ2 H2 => tb ⟨J (i + 1), rt, nx, J (i + 1)⟩ σ2 H2) (hd : ∀ σ' H', J ys.length σ' H' → nx σ' H') : ForL K g tb ⟨nx, rt, bk, ct⟩ (.ref a) σ H :=
  ⟨a, rfl, ⟨ys, hq 0 σ H h0⟩, for_list (K := K) (a := a) (xs := ys) (D := ⟨nx, rt, bk, ct⟩) J h0 (fun i σ' H' _ h => hq i σ' H' h) hs hd⟩
theorem x_forD {α : Type} {xs : List α} {f : α → PyData} (hv : Dp K S x (.list (xs.map f))) (J : Nat → L2.St → Hp → Prop) (h0 : J 0 σ H) (hq : ∀ i σ' H', J i σ' H' → Same S H')
    (hs : ∀ i z σ' H', xs[i]? = some z → J i σ' H' → Kn K S (f z) fun u => g u σ' H' fun σ2 H2 => tb ⟨J (i + 1), rt, nx, J (i + 1)⟩ σ2 H2) (hd : ∀ σ' H', J xs.length σ' H' → nx σ' H') : ForL K g tb ⟨nx, rt, bk, ct⟩ x σ H := by
  obtain ⟨a, us, rfl, hq', ha⟩ := dp_lst_ex hv
  have hl : us.length = xs.length := by rw [dpAll_len ha, List.length_map]
  refine x_forV (ys := us) J h0 (fun i σ' H' h => (hq i σ' H' h).seq hq') (fun i y σ' H' hy h => ?_) (fun σ' H' h => hd σ' H' (hl ▸ h))
  obtain ⟨dd, hd1, hd2⟩ := dpAll_get' ha hy
  rw [List.getElem?_map] at hd1
  cases e : xs[i]? with
  | none => rw [e] at hd1; cases hd1
  | some z =>
    rw [e] at hd1
    cases hd1
    exact (hs i z σ' H' e h).of y hd2
/-- over range(n) -/
def ForR (g : TG) (tb : TS) (D : Ends) (us : List V) (σ : L2.St) (H : Hp) : Prop := ∃ j : Int, us = [.int j] ∧ -(2 ^ 62) ≤ j ∧ j < 2 ^ 62 ∧ ∃ W : Nat → Nat → L2.St → Hp → Prop, (∃ m, W 0 m σ H) ∧ ∀ i m σ H, W i m σ H →
  ((Itr 0 j.toNat).stop i H ∧ D.nx σ H) ∨ ((Itr 0 j.toNat).go i H ∧ ∃ N : L2.St → Hp → Prop, (∀ σ' H', N σ' H' → ∃ m', m' < m ∧ W (i + 1) m' σ' H') ∧ ∀ x H', (Itr 0 j.toNat).yld i H x H' → g x σ H' fun σ2 H2 => tb { D with nx := N, ct := N, bk := D.nx } σ2 H2)
theorem x_forr (h : ta σ H fun us H1 => ForR g tb D us σ H1) : tFor (iRng1 ta) g tb D σ H := h
theorem x_forN {j : Int} (J : Nat → L2.St → Hp → Prop) (hj : j < 2 ^ 62 ∧ -(2 ^ 62) ≤ j) (h0 : J 0 σ H)
    (hs : ∀ (i : Nat) σ' H', i < j.toNat → J i σ' H' → g (.int (i : Int)) σ' H' fun σ2 H2 => tb ⟨J (i + 1), rt, nx, J (i + 1)⟩ σ2 H2) (hd : ∀ σ' H', J j.toNat σ' H' → nx σ' H') : ForR g tb ⟨nx, rt, bk, ct⟩ [.int j] σ H :=
  ⟨j, rfl, hj.2, hj.1, for_range (lo := 0) (n := j.toNat) (D := ⟨nx, rt, bk, ct⟩) J h0 (fun i σ' H' hi h => by rw [Int.zero_add]; exact hs i σ' H' hi h) hd⟩
/-- over zip(xs, ys) -/
def ForZ (K : PySem.W.Frag) (g : TG) (tb : TS) (D : Ends) (us : List V) (σ : L2.St) (H : Hp) : Prop := ∃ a b xs ys, us = [.ref a, .ref b] ∧ SqL K H a xs ∧ SqL K H b ys ∧ ∃ W : Nat → Nat → L2.St → Hp → Prop, (∃ m, W 0 m σ H) ∧ ∀ i m σ H, W i m σ H →
  ((Itz K a b).stop i H ∧ D.nx σ H) ∨ ((Itz K a b).go i H ∧ ∃ N : L2.St → Hp → Prop, (∀ σ' H', N σ' H' → ∃ m', m' < m ∧ W (i + 1) m' σ' H') ∧ ∀ x H', (Itz K a b).yld i H x H' → g x σ H' fun σ2 H2 => tb { D with nx := N, ct := N, bk := D.nx } σ2 H2)
theorem x_forz (h : ta σ H fun us H1 => ForZ K g tb D us σ H1) : tFor (iZip K ta) g tb D σ H := h
theorem x_forZ {α β : Type} {xs : List α} {ys : List β} {f : α → PyData} {h : β → PyData} {p q : Nat}
    (hx : Dp K S x (.list (xs.map f))) (hy : Dp K S y (.list (ys.map h))) (hl : xs.length = ys.length) (J : Nat → L2.St → Hp → Prop) (h0 : J 0 σ H) (hq : ∀ i σ' H', J i σ' H' → Same S H')
    (hs : ∀ i z w σ' H' T, xs[i]? = some z → ys[i]? = some w → J i σ' H' → H' T = none → Kn K S (f z) fun u => Kn K S (h w) fun v => tb ⟨J (i + 1), rt, nx, J (i + 1)⟩ ((σ'.set p (some u)).set q (some v)) (upd H' T (.tup [u, v])))
    (hd : ∀ σ' H', J xs.length σ' H' → nx σ' H') : ForZ K (gTup K 2 (gCons (gName p) (gCons (gName q) gNil))) tb ⟨nx, rt, bk, ct⟩ [x, y] σ H := by
  obtain ⟨a, us, rfl, hq1, ha⟩ := dp_lst_ex hx
  obtain ⟨b, ws, rfl, hq2, hb⟩ := dp_lst_ex hy
  have l1 : us.length = xs.length := by rw [dpAll_len ha, List.length_map]
  have l2 : ws.length = ys.length := by rw [dpAll_len hb, List.length_map]
  refine ⟨a, b, us, ws, rfl, (hq 0 σ H h0).seq hq1, (hq 0 σ H h0).seq hq2, RZ.for_zipL (K := K) (a := a) (b := b) (xs := us) (ys := ws) (D := ⟨nx, rt, bk, ct⟩) (by omega) J h0 (fun i σ' H' h => ⟨(hq i σ' H' h).seq hq1, (hq i σ' H' h).seq hq2⟩) (fun i u w T σ' H' e1 e2 hJ hT => ?_) (fun σ' H' h => hd σ' H' (l1 ▸ h))⟩
  obtain ⟨d1, g1, r1⟩ := dpAll_get' ha e1
  obtain ⟨d2, g2, r2⟩ := dpAll_get' hb e2
  rw [List.getElem?_map] at g1 g2
  cases c1 : xs[i]? with
  | none => rw [c1] at g1; cases g1
  | some z =>
    cases c2 : ys[i]? with
    | none => rw [c2] at g2; cases g2
    | some z2 =>
      rw [c1] at g1
      rw [c2] at g2
      cases g1
      cases g2
      refine ⟨T, [u, w], rfl, .inl (.inl upd_same), rfl, u, [w], rfl, w, [], rfl, rfl, ?_⟩
      exact ((hs i z z2 σ' H' T c1 c2 hJ hT).of u r1).of w r2
/-- over a tuple -/
def ForT (K : PySem.W.Frag) (g : TG) (tb : TS) (D : Ends) (x : V) (σ : L2.St) (H : Hp) : Prop := ∃ a, x = .ref a ∧ (∃ xs, SqT K H a xs) ∧ ∃ W : Nat → Nat → L2.St → Hp → Prop, (∃ m, W 0 m σ H) ∧ ∀ i m σ H, W i m σ H →
  ((Itt K a).stop i H ∧ D.nx σ H) ∨ ((Itt K a).go i H ∧ ∃ N : L2.St → Hp → Prop, (∀ σ' H', N σ' H' → ∃ m', m' < m ∧ W (i + 1) m' σ' H') ∧ ∀ x H', (Itt K a).yld i H x H' → g x σ H' fun σ2 H2 => tb { D with nx := N, ct := N, bk := D.nx } σ2 H2)
theorem x_fort (h : tl σ H fun x H1 => ForT K g tb D x σ H1) : tFor (iTup K tl) g tb D σ H := h
theorem x_forT {α : Type} {xs : List α} {f : α → PyData} (hv : Dp K S x (.tuple (xs.map f))) (J : Nat → L2.St → Hp → Prop) (h0 : J 0 σ H) (hq : ∀ i σ' H', J i σ' H' → Same S H')
    (hs : ∀ i z σ' H', xs[i]? = some z → J i σ' H' → Kn K S (f z) fun u => g u σ' H' fun σ2 H2 => tb ⟨J (i + 1), rt, nx, J (i + 1)⟩ σ2 H2) (hd : ∀ σ' H', J xs.length σ' H' → nx σ' H') : ForT K g tb ⟨nx, rt, bk, ct⟩ x σ H := by
  obtain ⟨a, us, rfl, hq', ha⟩ := dp_tup_ex hv
  have hl : us.length = xs.length := by rw [dpAll_len ha, List.length_map]
  refine ⟨a, rfl, ⟨us, same_t (hq 0 σ H h0) hq'⟩, for_tup (K := K) (a := a) (xs := us) (D := ⟨nx, rt, bk, ct⟩) J h0 (fun i σ' H' _ h => same_t (hq i σ' H' h) hq') (fun i y σ' H' hy h => ?_) (fun σ' H' h => hd σ' H' (hl ▸ h))⟩
  obtain ⟨dd, hd1, hd2⟩ := dpAll_get' ha hy
  rw [List.getElem?_map] at hd1
  cases e : xs[i]? with
  | none => rw [e] at hd1; cases hd1
  | some z =>
    rw [e] at hd1
    cases hd1
    exact (hs i z σ' H' e h).of y hd2

/-! ### comprehensions -/
/-- an element that is taken, one that is not -/
def LcY (K : PySem.W.Frag) (S : Hp) (O : List (Addr × HO)) (R : Addr) (acc : List V) (o : Option PyData) (y : V) (H : Hp) : Prop :=
  ∃ S' d, o = some d ∧ Wd K S' H ((R, .lst acc) :: O) ∧ Same S S' ∧ Dp K S' y d
def LcN (K : PySem.W.Frag) (S : Hp) (O : List (Addr × HO)) (R : Addr) (acc : List V) (o : Option PyData) (H : Hp) : Prop :=
  o = none ∧ ∃ S', Wd K S' H ((R, .lst acc) :: O) ∧ Same S S'
theorem lc_y {R : Addr} {acc : List V} {o : Option PyData} {S' : Hp} {d : PyData} (h : o = some d) (W : Wd K S' H ((R, .lst acc) :: O)) (hs : Same S S') (hd : Dp K S' y d) : LcY K S O R acc o y H := ⟨S', d, h, W, hs, hd⟩
theorem lc_n {R : Addr} {acc : List V} {o : Option PyData} {S' : Hp} (h : o = none) (W : Wd K S' H ((R, .lst acc) :: O)) (hs : Same S S') : LcN K S O R acc o H := ⟨h, S', W, hs⟩
/-- what the new list holds behind i elements -/
def LcP (K : PySem.W.Frag) {α : Type} (xs : List α) (fr : α → Option PyData) (S : Hp) (O : List (Addr × HO)) (R : Addr) : Nat → Hp → Prop := fun i H =>
  ∃ S' acc, Wd K S' H ((R, .lst acc) :: O) ∧ Same S S' ∧ DpAll K S' acc ((xs.take i).filterMap fr)
theorem lcP_turn {α : Type} {xs : List α} {fr : α → Option PyData} {R : Addr} {i : Nat} {z : α} (hlen : xs.length ≤ 1000000) (hz : xs[i]? = some z) {S' : Hp} {acc : List V} (hS : Same S S') (hA : DpAll K S' acc ((xs.take i).filterMap fr)) :
    (∀ y H4, LcY K S' O R acc (fr z) y H4 → ∃ acc', H4 R = some (.lst acc') ∧ acc'.length < sizeLine ∧ LcP K xs fr S O R (i + 1) (upd H4 R (.lst (acc' ++ [y])))) ∧
    (∀ H3, LcN K S' O R acc (fr z) H3 → LcP K xs fr S O R (i + 1) H3) := by
  have hi : i < xs.length := (List.getElem?_eq_some_iff.mp hz).1
  have ht : xs.take (i + 1) = xs.take i ++ [z] := by
    rw [List.take_add_one, hz]
    rfl
  constructor
  · rintro y H4 ⟨S4, dd, e, W4, hS4, hd⟩
    refine ⟨acc, W4.at 0 rfl, ?_, S4, acc ++ [y], W4.put 0 rfl, hS.trans hS4, ?_⟩
    · have := dpAll_len hA
      have l2 := List.length_filterMap_le fr (xs.take i)
      rw [List.length_take] at l2
      exact szl (by omega)
    · rw [ht, List.filterMap_append]
      have : List.filterMap fr [z] = [dd] := by simp [e]
      rw [this]
      exact dpAll_app (dpAll_mono hS4 hA) hd
  · rintro H3 ⟨e, S3, W3, hS3⟩
    refine ⟨S3, acc, W3, hS.trans hS3, ?_⟩
    rw [ht, List.filterMap_append]
    have : List.filterMap fr [z] = [] := by simp [e]
    rw [this, List.append_nil]
    exact dpAll_mono hS3 hA
/-- how a turn of a comprehension may end -/
def EndY (R : Addr) (N : Hp → Prop) (y : V) (H : Hp) : Prop := ∃ acc, H R = some (.lst acc) ∧ acc.length < sizeLine ∧ N (upd H R (.lst (acc ++ [y])))
structure LcE (K : PySem.W.Frag) (S : Hp) (O : List (Addr × HO)) (R : Addr) (acc : List V) (o : Option PyData) (N : Hp → Prop) : Prop where
  yes : ∀ y H, LcY K S O R acc o y H → EndY R N y H
  no : ∀ H, LcN K S O R acc o H → N H
theorem lce_y {R : Addr} {acc : List V} {o : Option PyData} {N : Hp → Prop} {S' : Hp} {d : PyData} (E : LcE K S O R acc o N) (W : Wd K S' H ((R, .lst acc) :: O)) (hs : Same S S') (hd : Dp K S' y d) (h : o = some d) : EndY R N y H := E.yes _ _ ⟨S', d, h, W, hs, hd⟩
theorem lce_n {R : Addr} {acc : List V} {o : Option PyData} {N : Hp → Prop} {S' : Hp} (E : LcE K S O R acc o N) (W : Wd K S' H ((R, .lst acc) :: O)) (hs : Same S S') (h : o = none) : N H := E.no _ ⟨h, S', W, hs⟩
theorem lcE_of {α : Type} {xs : List α} {fr : α → Option PyData} {R : Addr} {i : Nat} {z : α} (hlen : xs.length ≤ 1000000) (hz : xs[i]? = some z) {S' : Hp} {acc : List V} (hS : Same S S') (hA : DpAll K S' acc ((xs.take i).filterMap fr)) :
    LcE K S' O R acc (fr z) (LcP K xs fr S O R (i + 1)) := ⟨(lcP_turn hlen hz hS hA).1, (lcP_turn hlen hz hS hA).2⟩
/-- the body of a comprehension for an element's value u -/
def LcB (g : TG) (tt : TT) (te : TE) (vs : List Nat) (σ : L2.St) (R : Addr) (N : Hp → Prop) (u : V) (H : Hp) : Prop :=
  g u (wipe σ vs) H fun σ2 H2 => wipe σ2 vs = wipe σ vs ∧ tt σ2 H2 fun b H3 => if b = true then te σ2 H3 fun y H4 => EndY R N y H4 else N H3
theorem x_lcb {R : Addr} {N : Hp → Prop} {j : Nat} (h : tt ((wipe σ vs).set j (some x)) H fun b H3 => if b = true then te ((wipe σ vs).set j (some x)) H3 fun y H4 => EndY R N y H4 else N H3)
    (e : wipe ((wipe σ vs).set j (some x)) vs = wipe σ vs := by rfl) : LcB (gName j) tt te vs σ R N x H := ⟨e, h⟩
theorem x_yes {Q : Bool → Hp → Prop} (h : Q true H) : tYes σ H Q := h
/-- over a list -/
def LcL (K : PySem.W.Frag) (g : TG) (tt : TT) (te : TE) (vs : List Nat) (σ : L2.St) (Q : VK) (x : V) (H : Hp) : Prop := ∃ a, x = .ref a ∧ (∃ xs, SqL K H a xs) ∧ ∀ R, H R = none → ∃ W : Nat → Nat → Hp → Prop, (∃ m, W 0 m (upd H R (.lst []))) ∧ ∀ i m H, W i m H →
  ((Itl K a).stop i H ∧ Q (.ref R) H) ∨ ((Itl K a).go i H ∧ ∃ Nx : Hp → Prop, (∀ H', Nx H' → ∃ m', m' < m ∧ W (i + 1) m' H') ∧ ∀ x H', (Itl K a).yld i H x H' → g x (wipe σ vs) H' fun σ2 H2 => wipe σ2 vs = wipe σ vs ∧ tt σ2 H2 fun b H3 =>
    if b = true then te σ2 H3 fun y H4 => ∃ acc, H4 R = some (.lst acc) ∧ acc.length < sizeLine ∧ Nx (upd H4 R (.lst (acc ++ [y]))) else Nx H3)
theorem x_lcl (h : tl σ H fun x H1 => LcL K g tt te vs σ Q x H1) : tLc (iList K tl) g tt te vs σ H Q := h
/-- the new list is ours at the end -/
theorem lc_listO {α : Type} {xs : List α} {f : α → PyData} (fr : α → Option PyData) (W : Wd K S H O) (hv : Dp K S x (.list (xs.map f))) (hlen : xs.length ≤ 1000000)
    (hs : ∀ z S' H' R acc N, z ∈ xs → Wd K S' H' ((R, .lst acc) :: O) → Same S S' → LcE K S' O R acc (fr z) N → Kn K S' (f z) fun u => LcB g tt te vs σ R N u H')
    (k : ∀ S' H' R acc, Wd K S' H' ((R, .lst acc) :: O) → Same S S' → DpAll K S' acc (xs.filterMap fr) → Q (.ref R) H') : LcL K g tt te vs σ Q x H := by
  obtain ⟨a, us, rfl, hq', ha⟩ := dp_lst_ex hv
  have hl : us.length = xs.length := by rw [dpAll_len ha, List.length_map]
  refine ⟨a, rfl, ⟨us, W.lst hq'⟩, fun R hR => lc_list (K := K) (a := a) (xs := us) (Qd := fun H' => Q (.ref R) H') (LcP K xs fr S O R) ⟨S, [], W.alloc hR, Same.refl S, by simp; exact .nil⟩ (fun i H' _ ⟨S', acc, W', hS, hA⟩ => W'.lst (hS.seq hq')) (fun i y H' hy ⟨S', acc, W', hS, hA⟩ => ?_) (fun H' ⟨S', acc, W', hS, hA⟩ => ?_)⟩
  · obtain ⟨dd, hd1, hd2⟩ := dpAll_get' ha hy
    rw [List.getElem?_map] at hd1
    cases e : xs[i]? with
    | none => rw [e] at hd1; cases hd1
    | some z =>
      rw [e] at hd1
      cases hd1
      exact (hs z S' H' R acc (LcP K xs fr S O R (i + 1)) (List.mem_of_getElem? e) W' hS (lcE_of hlen e hS hA)).of y (dp_mono hS hd2)
  · rw [hl, List.take_length] at hA
    exact k S' H' R acc W' hS hA
/-- the new list stays -/
theorem lc_listS {α : Type} {xs : List α} {f : α → PyData} (fr : α → Option PyData) (W : Wd K S H O) (hv : Dp K S x (.list (xs.map f))) (hlen : xs.length ≤ 1000000)
    (hs : ∀ z S' H' R acc N, z ∈ xs → Wd K S' H' ((R, .lst acc) :: O) → Same S S' → LcE K S' O R acc (fr z) N → Kn K S' (f z) fun u => LcB g tt te vs σ R N u H')
    (k : ∀ S' H' v, Wd K S' H' O → Same S S' → Dp K S' v (.list (xs.filterMap fr)) → Q v H') : LcL K g tt te vs σ Q x H :=
  lc_listO fr W hv hlen hs fun S' H' R acc W' hS hA => k _ H' _ (W'.give 0 rfl) (hS.trans (same_new (W'.atS 0 rfl))) (dp_give (W'.atS 0 rfl) hA)
/-- over range(n) -/
def LcR (g : TG) (tt : TT) (te : TE) (vs : List Nat) (σ : L2.St) (Q : VK) (us : List V) (H : Hp) : Prop := ∃ j : Int, us = [.int j] ∧ -(2 ^ 62) ≤ j ∧ j < 2 ^ 62 ∧ ∀ R, H R = none → ∃ W : Nat → Nat → Hp → Prop, (∃ m, W 0 m (upd H R (.lst []))) ∧ ∀ i m H, W i m H →
  ((Itr 0 j.toNat).stop i H ∧ Q (.ref R) H) ∨ ((Itr 0 j.toNat).go i H ∧ ∃ Nx : Hp → Prop, (∀ H', Nx H' → ∃ m', m' < m ∧ W (i + 1) m' H') ∧ ∀ x H', (Itr 0 j.toNat).yld i H x H' → g x (wipe σ vs) H' fun σ2 H2 => wipe σ2 vs = wipe σ vs ∧ tt σ2 H2 fun b H3 =>
    if b = true then te σ2 H3 fun y H4 => ∃ acc, H4 R = some (.lst acc) ∧ acc.length < sizeLine ∧ Nx (upd H4 R (.lst (acc ++ [y]))) else Nx H3)
theorem x_lcr (h : ta σ H fun us H1 => LcR g tt te vs σ Q us H1) : tLc (iRng1 ta) g tt te vs σ H Q := h
theorem lc_rangeO {j : Int} (fr : Nat → Option PyData) (W : Wd K S H O) (hj : -(2 ^ 62) ≤ j ∧ j ≤ 1000000)
    (hs : ∀ (z : Nat) S' H' R acc N, z < j.toNat → Wd K S' H' ((R, .lst acc) :: O) → Same S S' → LcE K S' O R acc (fr z) N → LcB g tt te vs σ R N (.int (z : Int)) H')
    (k : ∀ S' H' R acc, Wd K S' H' ((R, .lst acc) :: O) → Same S S' → DpAll K S' acc ((List.range j.toNat).filterMap fr) → Q (.ref R) H') : LcR g tt te vs σ Q [.int j] H := by
  have hn : (List.range j.toNat).length ≤ 1000000 := by rw [List.length_range]; omega
  refine ⟨j, rfl, hj.1, by omega, fun R hR => lc_range (lo := 0) (n := j.toNat) (Qd := fun H' => Q (.ref R) H') (LcP K (List.range j.toNat) fr S O R) ⟨S, [], W.alloc hR, Same.refl S, by simp; exact .nil⟩ (fun i H' hi ⟨S', acc, W', hS, hA⟩ => ?_) (fun H' ⟨S', acc, W', hS, hA⟩ => ?_)⟩
  · have e : (List.range j.toNat)[i]? = some i := List.getElem?_range hi
    rw [Int.zero_add]
    exact hs i S' H' R acc (LcP K (List.range j.toNat) fr S O R (i + 1)) hi W' hS (lcE_of hn e hS hA)
  · rw [List.take_of_length_le (by rw [List.length_range]; exact Nat.le_refl _)] at hA
    exact k S' H' R acc W' hS hA
theorem lc_rangeS {j : Int} (fr : Nat → Option PyData) (W : Wd K S H O) (hj : -(2 ^ 62) ≤ j ∧ j ≤ 1000000)
    (hs : ∀ (z : Nat) S' H' R acc N, z < j.toNat → Wd K S' H' ((R, .lst acc) :: O) → Same S S' → LcE K S' O R acc (fr z) N → LcB g tt te vs σ R N (.int (z : Int)) H')
    (k : ∀ S' H' v, Wd K S' H' O → Same S S' → Dp K S' v (.list ((List.range j.toNat).filterMap fr)) → Q v H') : LcR g tt te vs σ Q [.int j] H :=
  lc_rangeO fr W hj hs fun S' H' R acc W' hS hA => k _ H' _ (W'.give 0 rfl) (hS.trans (same_new (W'.atS 0 rfl))) (dp_give (W'.atS 0 rfl) hA)
/-- over zip(xs, ys), the target two names -/
def LcZ (K : PySem.W.Frag) (g : TG) (tt : TT) (te : TE) (vs : List Nat) (σ : L2.St) (Q : VK) (us : List V) (H : Hp) : Prop := ∃ a b xs ys, us = [.ref a, .ref b] ∧ SqL K H a xs ∧ SqL K H b ys ∧ ∀ R, H R = none → ∃ W : Nat → Nat → Hp → Prop, (∃ m, W 0 m (upd H R (.lst []))) ∧ ∀ i m H, W i m H →
  ((Itz K a b).stop i H ∧ Q (.ref R) H) ∨ ((Itz K a b).go i H ∧ ∃ Nx : Hp → Prop, (∀ H', Nx H' → ∃ m', m' < m ∧ W (i + 1) m' H') ∧ ∀ x H', (Itz K a b).yld i H x H' → g x (wipe σ vs) H' fun σ2 H2 => wipe σ2 vs = wipe σ vs ∧ tt σ2 H2 fun b H3 =>
    if b = true then te σ2 H3 fun y H4 => ∃ acc, H4 R = some (.lst acc) ∧ acc.length < sizeLine ∧ Nx (upd H4 R (.lst (acc ++ [y]))) else Nx H3)
theorem x_lcz (h : ta σ H fun us H1 => LcZ K g tt te vs σ Q us H1) : tLc (iZip K ta) g tt te vs σ H Q := h
theorem lc_zipO {α β : Type} {xs : List α} {ys : List β} {f : α → PyData} {h : β → PyData} {p q : Nat} (fr : α × β → Option PyData) (W : Wd K S H O) (hx : Dp K S x (.list (xs.map f))) (hy : Dp K S y (.list (ys.map h))) (hl : xs.length = ys.length) (hlen : xs.length ≤ 1000000)
    (hs : ∀ z w S' H' R acc N, (z, w) ∈ xs.zip ys → Wd K S' H' ((R, .lst acc) :: O) → Same S S' → LcE K S' O R acc (fr (z, w)) N → Kn K S' (f z) fun u => Kn K S' (h w) fun v =>
      tt (((wipe σ vs).set p (some u)).set q (some v)) H' fun b H3 => if b = true then te (((wipe σ vs).set p (some u)).set q (some v)) H3 fun y H4 => EndY R N y H4 else N H3)
    (k : ∀ S' H' R acc, Wd K S' H' ((R, .lst acc) :: O) → Same S S' → DpAll K S' acc ((xs.zip ys).filterMap fr) → Q (.ref R) H')
    (e : ∀ u v, wipe (((wipe σ vs).set p (some u)).set q (some v)) vs = wipe σ vs := by intros; rfl) : LcZ K (gTup K 2 (gCons (gName p) (gCons (gName q) gNil))) tt te vs σ Q [x, y] H := by
  obtain ⟨a, us, rfl, hq1, ha⟩ := dp_lst_ex hx
  obtain ⟨b, ws, rfl, hq2, hb⟩ := dp_lst_ex hy
  have l1 : us.length = xs.length := by rw [dpAll_len ha, List.length_map]
  have l2 : ws.length = ys.length := by rw [dpAll_len hb, List.length_map]
  have lz : (xs.zip ys).length = xs.length := by rw [List.length_zip]; omega
  refine ⟨a, b, us, ws, rfl, W.lst hq1, W.lst hq2, fun R hR => ⟨fun i m H' => m = xs.length - i ∧ i ≤ xs.length ∧ LcP K (xs.zip ys) fr S O R i H', ⟨xs.length, rfl, Nat.zero_le _, S, [], W.alloc hR, Same.refl S, by simp; exact .nil⟩, ?_⟩⟩
  rintro i m H' ⟨rfl, hi, S', acc, W', hS, hA⟩
  have g1 : SqL K H' a us := W'.lst (hS.seq hq1)
  have g2 : SqL K H' b ws := W'.lst (hS.seq hq2)
  by_cases hlt : i < xs.length
  · have e1 : us[i]? = some us[i] := List.getElem?_eq_getElem (by omega)
    have e2 : ws[i]? = some ws[i] := List.getElem?_eq_getElem (by omega)
    refine .inr ⟨⟨us, ws, _, _, g1, g2, e1, e2⟩, LcP K (xs.zip ys) fr S O R (i + 1), fun H'' p' => ⟨xs.length - (i + 1), by omega, rfl, hlt, p'⟩, fun v H'' yy => ?_⟩
    obtain ⟨T, u, w, rfl, hT, rfl, f1, f2⟩ := yy
    have e1 := f1 us g1
    have e2 := f2 ws g2
    obtain ⟨d1, h1, r1⟩ := dpAll_get' ha e1
    obtain ⟨d2, h2, r2⟩ := dpAll_get' hb e2
    rw [List.getElem?_map] at h1 h2
    have c1 : xs[i]? = some xs[i] := List.getElem?_eq_getElem hlt
    have c2 : ys[i]? = some (ys[i]'(by omega)) := List.getElem?_eq_getElem (by omega)
    rw [c1] at h1
    rw [c2] at h2
    cases h1
    cases h2
    have cz : (xs.zip ys)[i]? = some (xs[i], ys[i]'(by omega)) := by rw [List.getElem?_zip_eq_some]; exact ⟨c1, c2⟩
    refine ⟨T, [u, w], rfl, .inl (.inl upd_same), rfl, u, [w], rfl, w, [], rfl, rfl, e u w, ?_⟩
    have W2 := W'.new (o := .tup [u, w]) hT
    have hT' := W'.frS hT
    have E2 := lcE_of (S := S) (K := K) (O := O) (R := R) (fr := fr) (by rw [lz]; exact hlen) cz (hS.trans (same_new (o := .tup [u, w]) hT')) (dpAll_mono (same_new hT') hA)
    exact ((hs _ _ _ _ R acc _ (List.mem_of_getElem? cz) W2 (hS.trans (same_new hT')) E2).of u (dp_mono (hS.trans (same_new hT')) r1)).of w (dp_mono (hS.trans (same_new hT')) r2)
  · have e3 : i = xs.length := by omega
    subst e3
    refine .inl ⟨⟨us, ws, g1, g2, Or.inl (by omega)⟩, ?_⟩
    rw [← lz, List.take_length] at hA
    exact k S' H' R acc W' hS hA
theorem lc_zipS {α β : Type} {xs : List α} {ys : List β} {f : α → PyData} {h : β → PyData} {p q : Nat} (fr : α × β → Option PyData) (W : Wd K S H O) (hx : Dp K S x (.list (xs.map f))) (hy : Dp K S y (.list (ys.map h))) (hl : xs.length = ys.length) (hlen : xs.length ≤ 1000000)
    (hs : ∀ z w S' H' R acc N, (z, w) ∈ xs.zip ys → Wd K S' H' ((R, .lst acc) :: O) → Same S S' → LcE K S' O R acc (fr (z, w)) N → Kn K S' (f z) fun u => Kn K S' (h w) fun v =>
      tt (((wipe σ vs).set p (some u)).set q (some v)) H' fun b H3 => if b = true then te (((wipe σ vs).set p (some u)).set q (some v)) H3 fun y H4 => EndY R N y H4 else N H3)
    (k : ∀ S' H' v, Wd K S' H' O → Same S S' → Dp K S' v (.list ((xs.zip ys).filterMap fr)) → Q v H')
    (e : ∀ u v, wipe (((wipe σ vs).set p (some u)).set q (some v)) vs = wipe σ vs := by intros; rfl) : LcZ K (gTup K 2 (gCons (gName p) (gCons (gName q) gNil))) tt te vs σ Q [x, y] H :=
  lc_zipO fr W hx hy hl hlen hs (fun S' H' R acc W' hS hA => k _ H' _ (W'.give 0 rfl) (hS.trans (same_new (W'.atS 0 rfl))) (dp_give (W'.atS 0 rfl) hA)) e
end
end SB
namespace SB
open L2
theorem cdivw_any {i i' j : Int} (h : CDivW i j) : CDivW i' j := h
theorem cdivw_of {i j : Int} {b : Nat} (h : 0 < j) (hb : j.natAbs < 2 ^ b) (h0 : 0 < b := by decide) (h9 : b ≤ 9000 := by decide) : CDivW i j := wide_div h hb h0 h9
theorem cmulw_of {i j : Int} {a b : Nat} (ha : i.natAbs < 2 ^ a) (hb : j.natAbs < 2 ^ b) (h0 : 0 < a := by decide) (h1 : 0 < b := by decide) (h : a + b ≤ 1000000 := by decide) : CMulW i j := wide_mul ha hb h0 h1 h
end SB
namespace SB
open PySem PySem.Spec PyProof.Rows L2
section
variable {CX : CXT} {P : Program} {w : World} {K : PySem.W.Frag} {mg : Str → Option Value} {base : Heap} {N : List Str} {qual : Str} {scope : Scope} {f : Addr} {cd : Value} {A : Around} {outer : List Env} {s : Shared} {H : Hp} {E : XK}
theorem cxK : (cxOf CX P w K mg base N qual scope f cd A outer s H E).K = K := rfl
theorem cxw : (cxOf CX P w K mg base N qual scope f cd A outer s H E).w = w := rfl
theorem cxprog : (cxOf CX P w K mg base N qual scope f cd A outer s H E).prog = P := rfl
end
end SB
namespace SB
open PySem PySem.Spec PyProof.Rows L2
theorem exm_own {K : PySem.W.Frag} {C D : Addr} {b : Bool} (hs : PySem.W.subIn K (.ref D) (.type "BaseException") = some true) (hi : PySem.W.isClsIn K D = true) (ht : PySem.W.typeIn K (.ref D) = some (.type "type"))
    (h : PySem.W.subIn K (.ref C) (.ref D) = some b) : PySem.W.exmOne K (.ref C) (.ref D) = some b := by
  have e1 : (PySem.W.subIn K (.ref D) (.type "BaseException") == some true) = true := by rw [hs]; rfl
  have hi' : (PySem.W.clsIn K D).isSome = true := hi
  have e2 : ((PySem.W.clsIn K D).isSome && PySem.W.typeIn K (.ref D) == some (.type "type")) = true := by rw [hi', ht]; rfl
  show (if (PySem.W.subIn K (.ref D) (.type "BaseException") == some true) = true then (if ((PySem.W.clsIn K D).isSome && PySem.W.typeIn K (.ref D) == some (.type "type")) = true then PySem.W.subIn K (.ref C) (.ref D) else none) else none) = some b
  rw [if_pos e1, if_pos e2]
  exact h
theorem kit_self {K : PySem.W.Frag} {C : Addr} : PySem.W.kitOne K (.ref C) (.ref C) = some true := by
  show (if ((Value.ref C : Value) == .ref C) = true then some true else _) = some true
  rw [if_pos (by simp)]
theorem kit_own {K : PySem.W.Frag} {C D : Addr} {b : Bool} (hne : C ≠ D) (hi : PySem.W.isClsIn K D = true) (ht : PySem.W.typeIn K (.ref D) = some (.type "type"))
    (h : PySem.W.subIn K (.ref C) (.ref D) = some b) : PySem.W.kitOne K (.ref C) (.ref D) = some b := by
  have hi' : (PySem.W.clsIn K D).isSome = true := hi
  have e2 : ((PySem.W.clsIn K D).isSome && PySem.W.typeIn K (.ref D) == some (.type "type")) = true := by rw [hi', ht]; rfl
  show (if ((Value.ref C : Value) == .ref D) = true then some true else (if ((PySem.W.clsIn K D).isSome && PySem.W.typeIn K (.ref D) == some (.type "type")) = true then PySem.W.subIn K (.ref C) (.ref D) else none)) = some b
  rw [if_neg (by simpa using hne), if_pos e2]
  exact h
theorem kit_bty {K : PySem.W.Frag} {C : Addr} {n : String} {b : Bool} (hm : PySem.W.kitMeta n = true) (h : PySem.W.subIn K (.ref C) (.type n) = some b) : PySem.W.kitOne K (.ref C) (.type n) = some b := by
  show (if ((Value.ref C : Value) == .type n) = true then some true else (if PySem.W.kitMeta n = true then PySem.W.subIn K (.ref C) (.type n) else none)) = some b
  rw [if_neg (by simp), if_pos hm]
  exact h
theorem x_isX {K : PySem.W.Frag} {C c a : Addr} {b : Bool} {Q : VK} {H : Hp} (hC : ExcC K C) (hk : PySem.W.kitOne K (.ref C) (.ref c) = some b) (q : Q (.bl b) H) : rIsX K (.ref C) none a [.ref a, .ref c] H Q :=
  ⟨C, .ref c, .ref c, b, rfl, rfl, hC, rfl, fun u h => h, hk, q⟩
theorem x_isXT {K : PySem.W.Frag} {C a : Addr} {n : String} {b : Bool} {Q : VK} {H : Hp} (hC : ExcC K C) (hk : PySem.W.kitOne K (.ref C) (.type n) = some b) (q : Q (.bl b) H) : rIsX K (.ref C) none a [.ref a, .ty n] H Q :=
  ⟨C, .ty n, .type n, b, rfl, rfl, hC, rfl, fun u h => h, hk, q⟩
end SB
namespace SB
open L2
theorem kb_int_int : kitB "int" "int" = some true := by decide +kernel
theorem kb_int_bool : kitB "int" "bool" = some false := by decide +kernel
theorem kb_bool_bool : kitB "bool" "bool" = some true := by decide +kernel
theorem kb_bool_int : kitB "bool" "int" = some true := by decide +kernel
theorem kb_list_list : kitB "list" "list" = some true := by decide +kernel
theorem kb_tuple_tuple : kitB "tuple" "tuple" = some true := by decide +kernel
theorem kb_dict_dict : kitB "dict" "dict" = some true := by decide +kernel
theorem kb_NoneType_int : kitB "NoneType" "int" = some false := by decide +kernel
theorem kb_tuple_list : kitB "tuple" "list" = some false := by decide +kernel
theorem kb_list_tuple : kitB "list" "tuple" = some false := by decide +kernel
theorem kb_str_int : kitB "str" "int" = some false := by decide +kernel
theorem kb_tuple_int : kitB "tuple" "int" = some false := by decide +kernel
theorem kb_list_int : kitB "list" "int" = some false := by decide +kernel
end SB
namespace SB
open PySem PySem.Spec PyProof.Rows L2
/-! ### == of data -/
def Shp (n : Nat) (d : PyData) : Prop := d.canLay0 = true ∧ d.depth ≤ n
theorem shp_shaped {n : Nat} {d : PyData} (h : Shp n d) (hn : n ≤ 64 := by decide) : SeqAt.shaped d = true := by
  unfold SeqAt.shaped
  rw [h.1, Bool.true_and]
  exact decide_eq_true (Nat.le_trans h.2 hn)
theorem shp_int {n : Nat} (i : Int) : Shp n (.int i) := ⟨rfl, Nat.zero_le _⟩
theorem shp_bl {n : Nat} (i : Bool) : Shp n (.bool i) := ⟨rfl, Nat.zero_le _⟩
theorem shp_non {n : Nat} : Shp n .none := ⟨rfl, Nat.zero_le _⟩
theorem shp_all {n : Nat} : ∀ {ds : List PyData}, (∀ d ∈ ds, Shp n d) → PyData.canLayAll0 ds = true ∧ PyData.depthAll ds ≤ n
  | [], _ => ⟨rfl, Nat.zero_le _⟩
  | d :: ds, h => by
    have h1 := h d List.mem_cons_self
    have h2 := shp_all (ds := ds) fun e he => h e (List.mem_cons_of_mem _ he)
    refine ⟨?_, ?_⟩
    · show (PyData.canLay0 d && PyData.canLayAll0 ds) = true
      rw [h1.1, h2.1]
      rfl
    · show max (PyData.depth d) (PyData.depthAll ds) ≤ n
      exact Nat.max_le.mpr ⟨h1.2, h2.2⟩
theorem shp_list {n : Nat} {ds : List PyData} (h : ∀ d ∈ ds, Shp n d) : Shp (n + 1) (.list ds) := by
  have := shp_all h
  exact ⟨this.1, Nat.succ_le_succ this.2⟩
theorem shp_tup {n : Nat} {ds : List PyData} (h : ∀ d ∈ ds, Shp n d) : Shp (n + 1) (.tuple ds) := by
  have := shp_all h
  exact ⟨this.1, Nat.succ_le_succ this.2⟩
theorem shp_map {α : Type} {n : Nat} {xs : List α} {f : α → PyData} (h : ∀ x, Shp n (f x)) : Shp (n + 1) (.list (xs.map f)) := shp_list fun d hd => by
  obtain ⟨x, _, rfl⟩ := List.mem_map.mp hd
  exact h x
theorem eqvAll_map {α : Type} [DecidableEq α] {f : α → PyData} (h : ∀ x y, PyData.eqv (f x) (f y) = decide (x = y)) : ∀ xs ys : List α, PyData.eqvAll (xs.map f) (ys.map f) = decide (xs = ys)
  | [], [] => rfl
  | [], _ :: _ => rfl
  | _ :: _, [] => rfl
  | x :: xs, y :: ys => by
    show (PyData.eqv (f x) (f y) && PyData.eqvAll (xs.map f) (ys.map f)) = _
    rw [h, eqvAll_map h xs ys]
    by_cases e : x = y
    · subst e
      by_cases e2 : xs = ys
      · subst e2; simp
      · simp [e2]
    · simp [e]
theorem eqv_map {α : Type} [DecidableEq α] {f : α → PyData} (h : ∀ x y, PyData.eqv (f x) (f y) = decide (x = y)) (xs ys : List α) : PyData.eqv (.list (xs.map f)) (.list (ys.map f)) = decide (xs = ys) := eqvAll_map h xs ys
theorem eqv_int (x y : Int) : PyData.eqv (.int x) (.int y) = decide (x = y) := Bool.beq_eq_decide_eq x y
theorem eqv_self {d : PyData} {n : Nat} (h : Shp n d) : PyData.eqv d d = true := SeqAt.eqv_refl d h.1
section
variable {K : PySem.W.Frag} {S H : Hp} {O : List (Addr × HO)} {Q : VK} {x y : V}
theorem x_eqD {d e : PyData} (W : Wd K S H O) (h1 : Dp K S x d) (h2 : Dp K S y e) (s1 : Shp 64 d) (s2 : Shp 64 e) (q : Q (.bl (PyData.eqv d e)) H) : rEqD K x y H Q :=
  ⟨d, e, dp_mono W.sub h1, dp_mono W.sub h2, shp_shaped s1, shp_shaped s2, q⟩
theorem x_neD {d e : PyData} (W : Wd K S H O) (h1 : Dp K S x d) (h2 : Dp K S y e) (s1 : Shp 64 d) (s2 : Shp 64 e) (q : Q (.bl (!PyData.eqv d e)) H) : rNeD K x y H Q :=
  ⟨d, e, dp_mono W.sub h1, dp_mono W.sub h2, shp_shaped s1, shp_shaped s2, q⟩
end
theorem Shp.mono {m n : Nat} {d : PyData} (h : Shp m d) (hn : m ≤ n) : Shp n d := ⟨h.1, Nat.le_trans h.2 hn⟩
end SB
namespace SB
open PySem PySem.Spec PyProof.Rows L2
/-! ### list + list, list * int -/
def rCatS (K : PySem.W.Frag) : R2 := fun x y H Q => ∃ l b xs zs, x = .ref l ∧ y = .ref b ∧ SqL K H l xs ∧ SqL K H b zs ∧ xs.length + zs.length ≤ sizeLine ∧ ∀ p, H p = none → Q (.ref p) (upd H p (.lst (xs ++ zs)))
theorem op_catS {X : Cx} : OpR X (binaryOp .Add) (rCatS X.K) := by
  intro pins s σ H x y v u Q I rx ry h
  obtain ⟨l, b, xs, zs, rfl, rfl, hH, hB, hz, q⟩ := h
  cases rx
  cases ry
  obtain ⟨its, r, p1, z1⟩ := I.list hH
  obtain ⟨its2, r2, p2, z2⟩ := I.list hB
  have hl := r.length
  have hl2 := r2.length
  obtain ⟨⟨cls, dd, data, sl⟩, n, ho, hc, hdn, hd⟩ := p1
  obtain ⟨⟨cls2, dd2, data2, sl2⟩, n2, ho2, hc2, hdn2, hd2⟩ := p2
  simp only at hc hd hc2 hd2
  subst hc hd hc2 hd2
  have e : its.toArray ++ its2.toArray = (its ++ its2).toArray := by simp
  refine concat_meets ⟨_, ho, rfl⟩ ⟨_, ho2, rfl⟩ noFill_list_add seq_list_add PySem.F.slot_list_add PySem.F.entry_list_add (PySem.F.args_list_add_2 _ _) (list_addW l b its.toArray its2.toArray n n2 dd dd2 sl sl2 (by rw [List.size_toArray, List.size_toArray]; omega)) ⟨ho, ho2, ?_⟩
  rw [e]
  exact ⟨.ref _, _, I.lnew (t' := s.toks) (r.append r2) (by rw [List.length_append]; omega), rfl, q _ I.fresh⟩
section
variable {K : PySem.W.Frag} {S H : Hp} {O : List (Addr × HO)} {Q : VK} {x y : V}
theorem x_catS {ds es : List PyData} (W : Wd K S H O) (h1 : Dp K S x (.list ds)) (h2 : Dp K S y (.list es)) (hl : ds.length + es.length ≤ 1000000) (k : ∀ S' H' v, Wd K S' H' O → Same S S' → Dp K S' v (.list (ds ++ es)) → Q v H') : rCatS K x y H Q := by
  obtain ⟨a, us, rfl, hq1, ha⟩ := dp_lst_ex h1
  obtain ⟨b, ws, rfl, hq2, hb⟩ := dp_lst_ex h2
  exact ⟨a, b, us, ws, rfl, rfl, W.lst hq1, W.lst hq2, sz (by rw [dpAll_len ha, dpAll_len hb]; exact hl), x_lst' W (dpAll_cat ha hb) k⟩
theorem flatten_rep {n : Nat} {v : V} : (List.replicate n [v]).flatten = List.replicate n v := by
  induction n with
  | zero => rfl
  | succ n ih => rw [List.replicate_succ, List.flatten_cons, ih]; rfl
/-- [v] * n: a new list that is ours; the first one is let go -/
theorem x_rep {p : Addr} {v : V} {n : Int} (W : Wd K S H ((p, .lst [v]) :: O)) (h0 : -1000000 ≤ n) (h1 : n ≤ 1000000) (k : ∀ S' H' q, Wd K S' H' ((q, .lst (List.replicate n.toNat v)) :: O) → Same S S' → Q (.ref q) H') : rRep (.ref p) (.int n) H Q := by
  refine ⟨p, n, [v], rfl, rfl, W.at 0 rfl, by omega, by omega, ?_, fun q hq => ?_⟩
  · show 1 * n.toNat ≤ sizeLine
    exact sz (by omega)
  · rw [flatten_rep]
    exact k _ _ q ((W.give 0 rfl).alloc hq) (same_new (W.atS 0 rfl))
end
end SB
/-! Comprehensions by what they give. -/
namespace SB
open PySem PySem.Spec PyProof.Rows L2
theorem fm_map {α β : Type} {xs : List α} {f : α → β} : xs.filterMap (fun z => some (f z)) = xs.map f := by
  induction xs with
  | nil => rfl
  | cons x r ih => simp only [List.filterMap_cons, List.map_cons, ih]
theorem fm_filt {α β : Type} {xs : List α} {p : α → Bool} {f : α → β} : xs.filterMap (fun z => if p z = true then some (f z) else none) = (xs.filter p).map f := by
  induction xs with
  | nil => rfl
  | cons x r ih =>
    cases h : p x
    · rw [List.filter_cons_of_neg (by rw [h]; exact Bool.false_ne_true), ← ih, List.filterMap_cons]
      simp only [h, Bool.false_eq_true, if_false]
    · rw [List.filter_cons_of_pos h, List.map_cons, ← ih, List.filterMap_cons]
      simp only [h, if_true]
section
variable {K : PySem.W.Frag} {S H : Hp} {O : List (Addr × HO)} {σ : L2.St} {Q : VK} {x y v : V} {tt : TT} {g : TG} {te : TE} {vs : List Nat}
theorem lc_map {α β : Type} {xs : List α} {f : α → PyData} (e : β → PyData) (G : α → β) (W : Wd K S H O) (hv : Dp K S x (.list (xs.map f))) (hlen : xs.length ≤ 1000000)
    (hs : ∀ z S' H' R acc N, z ∈ xs → Wd K S' H' ((R, .lst acc) :: O) → Same S S' → LcE K S' O R acc (some (e (G z))) N → Kn K S' (f z) fun u => LcB g tt te vs σ R N u H')
    (k : ∀ S' H' v, Wd K S' H' O → Same S S' → Dp K S' v (.list ((xs.map G).map e)) → Q v H') : LcL K g tt te vs σ Q x H :=
  lc_listS (fun z => some (e (G z))) W hv hlen hs fun S' H' v W' hS hv' => k S' H' v W' hS (by rw [fm_map] at hv'; rw [List.map_map]; exact hv')
theorem lc_filt {α β : Type} {xs : List α} {f : α → PyData} (e : β → PyData) (p : α → Bool) (G : α → β) (W : Wd K S H O) (hv : Dp K S x (.list (xs.map f))) (hlen : xs.length ≤ 1000000)
    (hs : ∀ z S' H' R acc N, z ∈ xs → Wd K S' H' ((R, .lst acc) :: O) → Same S S' → LcE K S' O R acc (if p z = true then some (e (G z)) else none) N → Kn K S' (f z) fun u => LcB g tt te vs σ R N u H')
    (k : ∀ S' H' v, Wd K S' H' O → Same S S' → Dp K S' v (.list (((xs.filter p).map G).map e)) → Q v H') : LcL K g tt te vs σ Q x H :=
  lc_listS (fun z => if p z = true then some (e (G z)) else none) W hv hlen hs fun S' H' v W' hS hv' => k S' H' v W' hS (by rw [fm_filt] at hv'; rw [List.map_map]; exact hv')
theorem lcr_map {β : Type} {j : Int} (e : β → PyData) (G : Nat → β) (W : Wd K S H O) (hj : -(2 ^ 62) ≤ j ∧ j ≤ 1000000)
    (hs : ∀ (z : Nat) S' H' R acc N, z < j.toNat → Wd K S' H' ((R, .lst acc) :: O) → Same S S' → LcE K S' O R acc (some (e (G z))) N → LcB g tt te vs σ R N (.int (z : Int)) H')
    (k : ∀ S' H' v, Wd K S' H' O → Same S S' → Dp K S' v (.list (((List.range j.toNat).map G).map e)) → Q v H') : LcR g tt te vs σ Q [.int j] H :=
  lc_rangeS (fun z => some (e (G z))) W hj hs fun S' H' v W' hS hv' => k S' H' v W' hS (by rw [fm_map] at hv'; rw [List.map_map]; exact hv')
theorem lcr_filt {β : Type} {j : Int} (e : β → PyData) (p : Nat → Bool) (G : Nat → β) (W : Wd K S H O) (hj : -(2 ^ 62) ≤ j ∧ j ≤ 1000000)
    (hs : ∀ (z : Nat) S' H' R acc N, z < j.toNat → Wd K S' H' ((R, .lst acc) :: O) → Same S S' → LcE K S' O R acc (if p z = true then some (e (G z)) else none) N → LcB g tt te vs σ R N (.int (z : Int)) H')
    (k : ∀ S' H' v, Wd K S' H' O → Same S S' → Dp K S' v (.list ((((List.range j.toNat).filter p).map G).map e)) → Q v H') : LcR g tt te vs σ Q [.int j] H :=
  lc_rangeS (fun z => if p z = true then some (e (G z)) else none) W hj hs fun S' H' v W' hS hv' => k S' H' v W' hS (by rw [fm_filt] at hv'; rw [List.map_map]; exact hv')
theorem lcz_map {α β γ : Type} {xs : List α} {ys : List β} {f : α → PyData} {h : β → PyData} {p q : Nat} (e : γ → PyData) (G : α × β → γ) (W : Wd K S H O) (hx : Dp K S x (.list (xs.map f))) (hy : Dp K S y (.list (ys.map h))) (hl : xs.length = ys.length) (hlen : xs.length ≤ 1000000)
    (hs : ∀ z w S' H' R acc N, (z, w) ∈ xs.zip ys → Wd K S' H' ((R, .lst acc) :: O) → Same S S' → LcE K S' O R acc (some (e (G (z, w)))) N → Kn K S' (f z) fun u => Kn K S' (h w) fun v =>
      tt (((wipe σ vs).set p (some u)).set q (some v)) H' fun b H3 => if b = true then te (((wipe σ vs).set p (some u)).set q (some v)) H3 fun y H4 => EndY R N y H4 else N H3)
    (k : ∀ S' H' v, Wd K S' H' O → Same S S' → Dp K S' v (.list (((xs.zip ys).map G).map e)) → Q v H')
    (ew : ∀ u v, wipe (((wipe σ vs).set p (some u)).set q (some v)) vs = wipe σ vs := by intros; rfl) : LcZ K (gTup K 2 (gCons (gName p) (gCons (gName q) gNil))) tt te vs σ Q [x, y] H :=
  lc_zipS (fun z => some (e (G z))) W hx hy hl hlen hs (fun S' H' v W' hS hv' => k S' H' v W' hS (by rw [fm_map] at hv'; rw [List.map_map]; exact hv')) ew
/-- in, not in: ints -/
theorem flat_ints (ns : List Int) : (ns.map V.int).all flatV = true := by
  rw [List.all_eq_true]
  intro z hz
  obtain ⟨i, _, rfl⟩ := List.mem_map.mp hz
  rfl
theorem inV_ints (i : Int) (ns : List Int) : inV (.int i) (ns.map V.int) = decide (i ∈ ns) := by
  unfold inV
  rw [Bool.eq_iff_iff, List.any_eq_true, decide_eq_true_iff]
  constructor
  · rintro ⟨z, hz, e⟩
    obtain ⟨j, hj, rfl⟩ := List.mem_map.mp hz
    have : j = i := by simpa [eqV] using e
    subst this
    exact hj
  · intro h
    exact ⟨.int i, List.mem_map_of_mem h, by simp [eqV]⟩
theorem x_inT {i : Int} {ns : List Int} {neg : Bool} (W : Wd K S H O) (h : Dp K S x (.tuple (ns.map PyData.int))) (q : Q (.bl (if neg then !decide (i ∈ ns) else decide (i ∈ ns))) H) : rIn K neg (.int i) x H Q := by
  obtain ⟨a, us, rfl, hq, ha⟩ := dp_tup_ex h
  rw [ints_of ha] at hq
  exact ⟨a, _, rfl, .inr (W.tup hq), rfl, flat_ints ns, by rw [inV_ints]; exact q⟩
theorem x_inL {i : Int} {ns : List Int} {neg : Bool} (W : Wd K S H O) (h : Dp K S x (.list (ns.map PyData.int))) (q : Q (.bl (if neg then !decide (i ∈ ns) else decide (i ∈ ns))) H) : rIn K neg (.int i) x H Q := by
  obtain ⟨a, us, rfl, hq, ha⟩ := dp_lst_ex h
  rw [ints_of ha] at hq
  exact ⟨a, _, rfl, .inl (W.lst hq), rfl, flat_ints ns, by rw [inV_ints]; exact q⟩
theorem x_inO {i : Int} {ns : List Int} {neg : Bool} {p : Addr} (n : Nat) (W : Wd K S H O) (h : O[n]? = some (p, .lst (ns.map V.int))) (q : Q (.bl (if neg then !decide (i ∈ ns) else decide (i ∈ ns))) H) : rIn K neg (.int i) (.ref p) H Q :=
  ⟨p, _, rfl, .inl (.of (W.at n h)), rfl, flat_ints ns, by rw [inV_ints]; exact q⟩
end
end SB
/-! Lists of ints that are ours. -/
namespace SB
open PySem PySem.Spec PyProof.Rows L2
section
variable {K : PySem.W.Frag} {S H : Hp} {O : List (Addr × HO)} {σ : L2.St} {Q : VK} {x y v : V}
theorem x_ixM {p : Addr} {xs : List Int} {i : Int} (n : Nat) (W : Wd K S H O) (h : O[n]? = some (p, .lst (xs.map V.int))) (h0 : 0 ≤ i) (h1 : i < xs.length) (k : Q (.int (nth xs i)) H) : rIx K (.ref p) (.int i) H Q :=
  x_ixO n W h (atI_map h0 h1) k
theorem x_setM {p : Addr} {xs : List Int} {i b : Int} {Q : Hp → Prop} (n : Nat) (W : Wd K S H O) (h : O[n]? = some (p, .lst (xs.map V.int))) (h0 : 0 ≤ i) (h1 : i < xs.length)
    (k : ∀ H', Wd K S H' (O.set n (p, .lst ((xs.set i.toNat b).map V.int))) → Q H') : rSetL (.ref p) (.int i) (.int b) H Q :=
  x_setO n W h (ixN_of h0 (by rw [List.length_map]; exact h1)) fun H' W' => k H' (by rw [List.map_set]; exact W')
theorem dpAll_intsV (ns : List Int) : DpAll K S (ns.map V.int) (ns.map PyData.int) := dpAll_ints ns
theorem flatten_repI {n : Nat} {i : Int} : List.replicate n (V.int i) = (List.replicate n i).map V.int := by
  rw [List.map_replicate]
theorem x_repI {p : Addr} {i n : Int} (W : Wd K S H ((p, .lst [.int i]) :: O)) (h0 : -1000000 ≤ n) (h1 : n ≤ 1000000) (k : ∀ S' H' q, Wd K S' H' ((q, .lst ((List.replicate n.toNat i).map V.int)) :: O) → Same S S' → Q (.ref q) H') : rRep (.ref p) (.int n) H Q :=
  x_rep W h0 h1 fun S' H' q W' hS => k S' H' q (by rw [← flatten_repI]; exact W') hS
end
end SB
namespace SB
open PySem PySem.Spec PyProof.Rows L2
theorem ne_true {c : Bool} (h : c = false) : ¬ c = true := by rw [h]; exact Bool.false_ne_true
section
variable {K : PySem.W.Frag} {S H : Hp} {O : List (Addr × HO)} {σ : L2.St} {Q : VK} {x y v : V} {g : TG} {tb : TS} {nx bk ct : L2.St → Hp → Prop} {rt : VK}
/-- one of ours, the first, stays from now on -/
theorem x_give {G : Prop} {p : Addr} {vs : List V} {ds : List PyData} (W : Wd K S H ((p, .lst vs) :: O)) (h : DpAll K S vs ds) (k : ∀ S', Wd K S' H O → Same S S' → Dp K S' (.ref p) (.list ds) → G) : G :=
  k _ (W.give 0 rfl) (same_new (W.atS 0 rfl)) (dp_give (W.atS 0 rfl) h)
theorem x_giveI {G : Prop} {p : Addr} {ns : List Int} (W : Wd K S H ((p, .lst (ns.map V.int)) :: O)) (k : ∀ S', Wd K S' H O → Same S S' → Dp K S' (.ref p) (.list (ns.map PyData.int)) → G) : G :=
  x_give W (dpAll_ints ns) k
/-- over range(len(xs)) -/
theorem x_forNL {α : Type} {xs : List α} {f : α → PyData} (J : Nat → L2.St → Hp → Prop) (hl : xs.length ≤ 1000000) (h0 : J 0 σ H)
    (hs : ∀ (i : Nat) σ' H', i < xs.length → J i σ' H' → g (.int (i : Int)) σ' H' fun σ2 H2 => tb ⟨J (i + 1), rt, nx, J (i + 1)⟩ σ2 H2) (hd : ∀ σ' H', J xs.length σ' H' → nx σ' H') : ForR g tb ⟨nx, rt, bk, ct⟩ [.int (((xs.map f).length : Nat) : Int)] σ H := by
  have e : (((xs.map f).length : Nat) : Int).toNat = xs.length := by rw [List.length_map]; exact Int.toNat_natCast _
  refine x_forN J (by rw [List.length_map]; omega) h0 (fun i σ' H' hi h => hs i σ' H' (by rw [e] at hi; exact hi) h) (fun σ' H' h => hd σ' H' (by rw [e] at h; exact h))
end
end SB
/-! ### rules with the fragment named, for what stands in a comprehension -/
namespace SB
open PySem PySem.Spec PyProof.Rows L2
section
variable {X : Cx} {K : PySem.W.Frag}
theorem ixa (e : X.K = K) : IxR X (rIx K) := e ▸ ix_seq
theorem lena (e : X.K = K) : CallR X (.builtin "len") (rLen K) := e ▸ cl_len
theorem lista (e : X.K = K) : CallR X (.type "list") (rLst K) := e ▸ cl_list
theorem suma (e : X.K = K) (hc : X.calm = true) : CallR X (.builtin "sum") (rSum K) := e ▸ cr_sum hc
theorem alla (e : X.K = K) (hc : X.calm = true) : CallR X (.builtin "all") (rAll K) := e ▸ cr_all hc
theorem anya (e : X.K = K) (hc : X.calm = true) : CallR X (.builtin "any") (rAny K) := e ▸ cr_any hc
theorem maxa (e : X.K = K) (hc : X.calm = true) : CallR X (.builtin "max") (rMax K) := e ▸ cr_max hc
theorem mina (e : X.K = K) (hc : X.calm = true) : CallR X (.builtin "min") (rMin K) := e ▸ cr_min hc
theorem isia (e : X.K = K) : CallR X (.builtin "isinstance") (rIsi K) := e ▸ call_isi
theorem ina (e : X.K = K) : OpR X (compareOp .In) (rIn K false) := e ▸ op_in_seq
theorem notIna (e : X.K = K) : OpR X (compareOp .NotIn) (rIn K true) := e ▸ op_notIn_seq
theorem catSa (e : X.K = K) : OpR X (binaryOp .Add) (rCatS K) := e ▸ op_catS
theorem slLa (e : X.K = K) : SlR X (rSlL K) := e ▸ sl_list
theorem slTa (e : X.K = K) : SlR X (rSlT K) := e ▸ sl_tup
theorem eqDa (e : X.K = K) (hu : X.A.units + 64 < cLine) : OpR X (compareOp .Eq) (rEqD K) := e ▸ op_eqD hu
theorem neDa (e : X.K = K) (hu : X.A.units + 64 < cLine) : OpR X (compareOp .NotEq) (rNeD K) := e ▸ op_neD hu
theorem trutha (e : X.K = K) {a : Expr} {ta : TE} (ha : PE X a ta) (he : ∀ whole, isTrue a X.env whole = (do let v ← whole; standAt a.pos; holding [v] (truthy v))) : PT X a (tTr K ta) := e ▸ pl_truth ha he
theorem tupa (e : X.K = K) {pos : Pos} {es : List Expr} {k : Nat} {t : TGs} {n : Nat} (hc : X.calm = true) (h : PGs X es t)
    (hn : (assignEach es X.env).length = n := by rfl) (hst : (assignEach es X.env).findIdx? (·.1) = none := by rfl) : PG X (.Tuple es k pos) (gTup K n t) := e ▸ pg_tup hc h hn hst
end
end SB
/-! ### where ways meet -/
namespace SB
open PySem PySem.Spec PyProof.Rows L2
section
variable {K : PySem.W.Frag} {S H : Hp} {O : List (Addr × HO)} {σ : L2.St} {Q : VK} {x y v : V} {tt : TT} {t u : TS} {nx bk ct : L2.St → Hp → Prop} {rt : VK}
theorem x_ifJ (J : L2.St → Hp → Prop) (h : ∀ nx' : L2.St → Hp → Prop, (∀ σ' H', J σ' H' → nx' σ' H') → tt σ H fun b H1 => if b = true then t ⟨nx', rt, bk, ct⟩ σ H1 else u ⟨nx', rt, bk, ct⟩ σ H1)
    (hd : ∀ σ' H', J σ' H' → nx σ' H') : tIfS tt t u ⟨nx, rt, bk, ct⟩ σ H := h nx hd
theorem x_cutV {t : TE} (J : V → Hp → Prop) (h : ∀ Q' : VK, (∀ v H', J v H' → Q' v H') → t σ H Q') (hd : ∀ v H', J v H' → Q v H') : t σ H Q := h Q hd
theorem x_isB {a b : Bool} (q : Q (.bl (decide (a = b))) H) : rIsB (.bl a) (.bl b) H Q := ⟨a, b, rfl, rfl, q⟩
theorem x_notB {a b : Bool} (q : Q (.bl (!decide (a = b))) H) : rNotB (.bl a) (.bl b) H Q := ⟨a, b, rfl, rfl, q⟩
end
end SB
/-! what the laws draw from a script, plain -/
namespace SB
def cell (ns : List Int) (i : Int) : Int := if ns = [] then 0 else nth ns (i % (ns.length : Int))
def mix (ns : List Int) (i : Int) : Int :=
  let n := (cell ns i + 104729 * (i + 1)) % 4294967291 * 48271 % 4294967279
  (n / 64 * 69621 + n) % 4294967231
theorem mix_lo (ns : List Int) (i : Int) : 0 ≤ mix ns i := Int.emod_nonneg _ (by decide)
theorem mix_hi (ns : List Int) (i : Int) : mix ns i < 4294967231 := Int.emod_lt_of_pos _ (by decide)
end SB
namespace SB
/-- a whole number of up to forty figures -/
def wholeOf (ns : List Int) (i : Int) : Int := nth [mix ns i % 20 - 10, mix ns i, cell ns (i + 1) % 10 ^ 40 - 10 ^ 39, 0] (mix ns i / 20 % 4)
theorem wholeOf_sm (ns : List Int) (i : Int) : (wholeOf ns i).natAbs < 2 ^ 140 := by
  unfold wholeOf
  have h := nth_mem (xs := [mix ns i % 20 - 10, mix ns i, cell ns (i + 1) % 10 ^ 40 - 10 ^ 39, 0]) (i := mix ns i / 20 % 4) (Int.emod_nonneg _ (by decide)) (Int.emod_lt_of_pos _ (by decide))
  generalize nth [mix ns i % 20 - 10, mix ns i, cell ns (i + 1) % 10 ^ 40 - 10 ^ 39, 0] (mix ns i / 20 % 4) = z at h
  have h1 := mix_lo ns i
  have h2 := mix_hi ns i
  have h3 := Int.emod_nonneg (mix ns i) (show (20 : Int) ≠ 0 by decide)
  have h4 := Int.emod_lt_of_pos (mix ns i) (show (0 : Int) < 20 by decide)
  have h5 := Int.emod_nonneg (cell ns (i + 1)) (show (10 ^ 40 : Int) ≠ 0 by decide)
  have h6 := Int.emod_lt_of_pos (cell ns (i + 1)) (show (0 : Int) < 10 ^ 40 by decide)
  simp only [List.mem_cons, List.mem_nil_iff, or_false, List.not_mem_nil] at h
  have e : (2 : Nat) ^ 140 = 1393796574908163946345982392040522594123776 := by decide
  rw [e]
  rcases h with h | h | h | h <;> omega
end SB
/-! networks, plain -/
namespace SB
structure Arc where
  s : Int
  t : Int
  r : Int
  c : Int
  deriving DecidableEq, Inhabited
def num (n : Int) : Int := if n % 4 = 0 then nth [0, 1, -1, 2, 10 ^ 30, -10 ^ 30, 7, 5] (n / 4 % 8) else n / 4 % 12
theorem num_sm (n : Int) : -10 ^ 30 ≤ num n ∧ num n ≤ 10 ^ 30 := by
  unfold num
  split
  · have h := nth_mem (xs := [0, 1, -1, 2, 10 ^ 30, -10 ^ 30, 7, 5]) (i := n / 4 % 8) (Int.emod_nonneg _ (by decide)) (Int.emod_lt_of_pos _ (by decide))
    generalize nth [0, 1, -1, 2, 10 ^ 30, -10 ^ 30, 7, 5] (n / 4 % 8) = z at h
    simp only [List.mem_cons, List.not_mem_nil, or_false] at h
    rcases h with h | h | h | h | h | h | h | h <;> omega
  · have h1 := Int.emod_nonneg (n / 4) (show (12 : Int) ≠ 0 by decide)
    have h2 := Int.emod_lt_of_pos (n / 4) (show (0 : Int) < 12 by decide)
    omega
def netP (ns : List Int) (b : Int) : Int := 2 + mix ns b % 5
def netArc (ns : List Int) (b l : Int) (k : Nat) : Arc :=
  ⟨mix ns (b + 2 + 3 * k) % netP ns b, mix ns (b + 2 + 3 * k) / netP ns b % netP ns b, max 0 (num (mix ns (b + 3 + 3 * k))), max l (num (mix ns (b + 4 + 3 * k)) - 2 * (if decide (l < 0) = true then 1 else 0))⟩
def netN (ns : List Int) (b : Int) : Int := mix ns (b + 1) % 12
def netA (ns : List Int) (b l : Int) : List Arc := (List.range (netN ns b).toNat).map (netArc ns b l)
theorem netP_lo (ns : List Int) (b : Int) : 2 ≤ netP ns b := by
  have := Int.emod_nonneg (mix ns b) (show (5 : Int) ≠ 0 by decide)
  unfold netP
  omega
theorem netP_hi (ns : List Int) (b : Int) : netP ns b ≤ 6 := by
  have := Int.emod_lt_of_pos (mix ns b) (show (0 : Int) < 5 by decide)
  unfold netP
  omega
theorem netN_lo (ns : List Int) (b : Int) : 0 ≤ netN ns b := Int.emod_nonneg _ (by decide)
theorem netN_hi (ns : List Int) (b : Int) : netN ns b ≤ 11 := by
  have := Int.emod_lt_of_pos (mix ns (b + 1)) (show (0 : Int) < 12 by decide)
  unfold netN
  omega
theorem netA_len (ns : List Int) (b l : Int) : (netA ns b l).length ≤ 11 := by
  unfold netA
  rw [List.length_map, List.length_range]
  have := netN_hi ns b
  omega
/-- an arc between places, with a room that is none too great -/
structure ArcOk (P : Int) (a : Arc) : Prop where
  s0 : 0 ≤ a.s
  s1 : a.s < P
  t0 : 0 ≤ a.t
  t1 : a.t < P
theorem netA_ok {ns : List Int} {b l : Int} : ∀ a ∈ netA ns b l, ArcOk (netP ns b) a ∧ 0 ≤ a.r ∧ a.r ≤ 10 ^ 30 ∧ l ≤ a.c ∧ (a.c ≤ 10 ^ 30 ∨ a.c = l) := by
  intro a ha
  unfold netA at ha
  obtain ⟨k, _, rfl⟩ := List.mem_map.mp ha
  have h2 := netP_lo ns b
  have e1 := num_sm (mix ns (b + 3 + 3 * k))
  have e2 := num_sm (mix ns (b + 4 + 3 * k))
  refine ⟨⟨Int.emod_nonneg _ (by omega), Int.emod_lt_of_pos _ (by omega), Int.emod_nonneg _ (by omega), Int.emod_lt_of_pos _ (by omega)⟩, ?_, ?_, ?_, ?_⟩
  · show 0 ≤ max 0 _
    omega
  · show max 0 _ ≤ _
    omega
  · show l ≤ max l _
    omega
  · show max l _ ≤ _ ∨ max l _ = l
    split <;> omega

/-! ### sums -/
def sumStep (l : List Int) (p : Arc × Int) : List Int :=
  let l1 := l.set p.1.s.toNat (nth l p.1.s - p.2)
  l1.set p.1.t.toNat (nth l1 p.1.t + p.2)
def sumsOf (P : Int) (ps : List (Arc × Int)) : List Int := ps.foldl sumStep (List.replicate P.toNat 0)
def sums (P : Int) (as : List Arc) (ms : List Int) : List Int := sumsOf P (as.zip ms)
theorem sumStep_len (l : List Int) (p : Arc × Int) : (sumStep l p).length = l.length := by simp [sumStep]
theorem sumsOf_len (P : Int) (ps : List (Arc × Int)) : (sumsOf P ps).length = P.toNat := by
  unfold sumsOf
  suffices h : ∀ (l : List Int), (ps.foldl sumStep l).length = l.length by rw [h, List.length_replicate]
  induction ps with
  | nil => intro l; rfl
  | cons p r ih => intro l; rw [List.foldl_cons, ih, sumStep_len]
theorem sumsOf_take {P : Int} {ps : List (Arc × Int)} {i : Nat} {p : Arc × Int} (h : ps[i]? = some p) : sumsOf P (ps.take (i + 1)) = sumStep (sumsOf P (ps.take i)) p := by
  unfold sumsOf
  rw [List.take_add_one, h, List.foldl_append]
  rfl
theorem zip_get {α β : Type} {xs : List α} {ys : List β} {i : Nat} {x : α} {y : β} (h1 : xs[i]? = some x) (h2 : ys[i]? = some y) : (xs.zip ys)[i]? = some (x, y) := by
  rw [List.getElem?_zip_eq_some]
  exact ⟨h1, h2⟩
theorem nth_set_eq {l : List Int} {i v : Int} (h0 : 0 ≤ i) (h : i < l.length) : nth (l.set i.toNat v) i = v := by
  have hl : i.toNat < l.length := by omega
  apply nth_eq
  rw [List.getElem?_set, if_pos rfl, if_pos hl]
theorem nth_set_ne {l : List Int} {i j v : Int} (h0 : 0 ≤ i) (h1 : 0 ≤ j) (h : i ≠ j) : nth (l.set i.toNat v) j = nth l j := by
  unfold nth
  rw [List.getD_eq_getElem?_getD, List.getD_eq_getElem?_getD, List.getElem?_set, if_neg (by omega)]
/-- the sums, place by place -/
theorem nth_sumStep {l : List Int} {p : Arc × Int} {k : Int} (ok : ArcOk l.length p.1) (h0 : 0 ≤ k) (h1 : k < l.length) :
    nth (sumStep l p) k = nth l k - (if p.1.s = k then p.2 else 0) + (if p.1.t = k then p.2 else 0) := by
  obtain ⟨a, m⟩ := p
  obtain ⟨s0, s1, t0, t1⟩ := ok
  dsimp only at s0 s1 t0 t1 h0 h1 ⊢
  show nth ((l.set a.s.toNat (nth l a.s - m)).set a.t.toNat (nth (l.set a.s.toNat (nth l a.s - m)) a.t + m)) k = _
  have s0' : 0 ≤ a.s := s0
  have t0' : 0 ≤ a.t := t0
  by_cases ht : a.t = k
  · subst ht
    rw [nth_set_eq t0 (by rw [List.length_set]; exact t1), if_pos rfl]
    by_cases hs : a.s = a.t
    · rw [if_pos hs, ← hs, nth_set_eq s0 s1]
    · rw [if_neg hs, nth_set_ne s0 t0 hs]
      omega
  · rw [nth_set_ne t0 h0 ht, if_neg ht]
    by_cases hs : a.s = k
    · subst hs
      rw [if_pos rfl, nth_set_eq s0 s1]
      omega
    · rw [if_neg hs, nth_set_ne s0 h0 hs]
      omega
theorem nth_replicate {n : Nat} {k : Int} : nth (List.replicate n (0 : Int)) k = 0 := by
  unfold nth
  rw [List.getD_eq_getElem?_getD, List.getElem?_replicate]
  split <;> rfl
/-- what comes into a place less what goes out -/
def into (ps : List (Arc × Int)) (k : Int) : Int := (ps.map fun p => (if p.1.t = k then p.2 else 0) - (if p.1.s = k then p.2 else 0)).sum
theorem nth_sumsOf {P : Int} {ps : List (Arc × Int)} (hP : 0 ≤ P) (ok : ∀ p ∈ ps, ArcOk P p.1) {k : Int} (h0 : 0 ≤ k) (h1 : k < P) : nth (sumsOf P ps) k = into ps k := by
  unfold sumsOf into
  suffices h : ∀ (l : List Int), (l.length : Int) = P → nth (ps.foldl sumStep l) k = nth l k + (ps.map fun p => (if p.1.t = k then p.2 else 0) - (if p.1.s = k then p.2 else 0)).sum by
    rw [h _ (by rw [List.length_replicate]; omega), nth_replicate]
    omega
  induction ps with
  | nil => intro l _; simp
  | cons p r ih =>
    intro l hl
    have okp : ArcOk l.length p.1 := by rw [hl]; exact ok p List.mem_cons_self
    rw [List.foldl_cons, ih (fun q hq => ok q (List.mem_cons_of_mem _ hq)) _ (by rw [sumStep_len]; exact hl), nth_sumStep okp h0 (by omega), List.map_cons, List.sum_cons]
    omega
end SB
namespace SB
def amtOk (p : Arc × Int) : Bool := decide (0 ≤ p.2) && decide (p.2 ≤ p.1.r)
def isFlow (P : Int) (as : List Arc) (s g : Int) (ms : List Int) : Bool :=
  decide (ms.length = as.length) && (as.zip ms).all amtOk && (((List.range P.toNat).filter fun k : Nat => !decide ((k : Int) ∈ [s, g])).map fun k : Nat => decide (nth (sums P as ms) k = 0)).all id
def leaves (ks : List Int) (a : Arc) : Bool := decide (a.s ∈ ks) && !decide (a.t ∈ ks)
def cutSize (as : List Arc) (ks : List Int) : Int := ((as.filter fun a => leaves ks a).map fun a => a.r).sum
def costOf (as : List Arc) (ms : List Int) : Int := ((as.zip ms).map fun p => p.1.c * p.2).sum
end SB
namespace SB
theorem isFlow_eq {P : Int} {as : List Arc} {s g : Int} {ms : List Int} (hl : as.length = ms.length) : isFlow P as s g ms =
    ((((List.range as.length).map fun k : Nat => amtOk (nth as (k : Int), nth ms (k : Int))).all id) && (((((List.range P.toNat).filter fun k : Nat => !decide ((k : Int) ∈ [s, g])).map fun k : Nat => nth (sums P as ms) (k : Int)).map fun z : Int => decide (z = 0)).all id)) := by
  unfold isFlow
  rw [decide_eq_true hl.symm, Bool.true_and, List.map_map]
  congr 1
  rw [Bool.eq_iff_iff, List.all_eq_true, List.all_eq_true]
  constructor
  · intro h b hb
    obtain ⟨k, hk, rfl⟩ := List.mem_map.mp hb
    have hk' := List.mem_range.mp hk
    exact h _ (List.mem_of_getElem? (zip_get (nth_get (i := (k : Int)) (by omega) (by omega)) (nth_get (i := (k : Int)) (by omega) (by omega))))
  · intro h p hp
    obtain ⟨k, hk⟩ := List.getElem?_of_mem hp
    obtain ⟨a, m⟩ := p
    rw [List.getElem?_zip_eq_some] at hk
    have hk' : k < as.length := (List.getElem?_eq_some_iff.mp hk.1).1
    have := h _ (List.mem_map.mpr ⟨k, List.mem_range.mpr hk', rfl⟩)
    rw [nth_nat hk.1, nth_nat hk.2] at this
    exact this
theorem isFlow_len {P : Int} {as : List Arc} {s g : Int} {ms : List Int} (hl : ms.length ≠ as.length) : isFlow P as s g ms = false := by
  unfold isFlow
  rw [decide_eq_false hl]
  rfl
def cutStep (ks : List Int) (a : Arc) : Int := if leaves ks a = true then a.r else 0
theorem cutSize_eq (as : List Arc) (ks : List Int) : cutSize as ks = (as.map (cutStep ks)).sum := by
  unfold cutSize
  induction as with
  | nil => rfl
  | cons a r ih =>
    rw [List.map_cons, List.sum_cons, ← ih]
    by_cases h : leaves ks a = true
    · rw [List.filter_cons_of_pos h, List.map_cons, List.sum_cons, cutStep, if_pos h]
    · rw [List.filter_cons_of_neg h, cutStep, if_neg h, Int.zero_add]
theorem sum_take {α : Type} {xs : List α} {f : α → Int} {i : Nat} {x : α} (h : xs[i]? = some x) : ((xs.take (i + 1)).map f).sum = ((xs.take i).map f).sum + f x := by
  rw [List.take_add_one, h, List.map_append, List.sum_append]
  simp
end SB
namespace SB
open PySem PySem.Spec PyProof.Rows L2
abbrev veT : List Value := [.type "ValueError", .type "Exception", .type "BaseException", .type "object"]
/-! ### the text by places -/
def top (i : Nat) : Stmt := PySem.Challenge.pw_surebest_k02_networks.main.body.getD i (.Pass ⟨0, 0, 0, 0⟩)
abbrev s_sums : Stmt := top 1
abbrev s_is_flow : Stmt := top 2
abbrev s_size_of : Stmt := top 3
abbrev s_cut_size : Stmt := top 4
abbrev s_cost_of : Stmt := top 5
abbrev s_law_cell : Stmt := top 7
abbrev s_law_mix : Stmt := top 8
abbrev s_law_whole : Stmt := top 9
abbrev s_law_wholes : Stmt := top 10
abbrev s_law_number : Stmt := top 11
abbrev s_law_net : Stmt := top 12
abbrev s_law_sums : Stmt := top 13
abbrev s_law_walked : Stmt := top 14
abbrev s_law : Stmt := top 15
theorem sc_sums : FnScope ["places", "arcs", "amounts", "found", "arc", "amount"] ["places", "arcs", "amounts"] (defScope s_sums) := ⟨rfl, rfl, rfl, by decide +kernel, rfl, by decide +kernel, by decide +kernel⟩
theorem sc_is_flow : FnScope ["places", "arcs", "start", "goal", "amounts", "arc", "amount", "left", "k"] ["places", "arcs", "start", "goal", "amounts"] (defScope s_is_flow) := ⟨rfl, rfl, rfl, by decide +kernel, rfl, by decide +kernel, by decide +kernel⟩
theorem sc_size_of : FnScope ["places", "arcs", "goal", "amounts"] ["places", "arcs", "goal", "amounts"] (defScope s_size_of) := ⟨rfl, rfl, rfl, by decide +kernel, rfl, by decide +kernel, by decide +kernel⟩
theorem sc_cut_size : FnScope ["arcs", "side", "arc"] ["arcs", "side"] (defScope s_cut_size) := ⟨rfl, rfl, rfl, by decide +kernel, rfl, by decide +kernel, by decide +kernel⟩
theorem sc_cost_of : FnScope ["arcs", "amounts", "arc", "amount"] ["arcs", "amounts"] (defScope s_cost_of) := ⟨rfl, rfl, rfl, by decide +kernel, rfl, by decide +kernel, by decide +kernel⟩
theorem sc_law_cell : FnScope ["_law_script", "_law_k"] ["_law_script", "_law_k"] (defScope s_law_cell) := ⟨rfl, rfl, rfl, by decide +kernel, rfl, by decide +kernel, by decide +kernel⟩
theorem sc_law_mix : FnScope ["_law_script", "_law_k", "_law_number_here"] ["_law_script", "_law_k"] (defScope s_law_mix) := ⟨rfl, rfl, rfl, by decide +kernel, rfl, by decide +kernel, by decide +kernel⟩
theorem sc_law_whole : FnScope ["_law_found"] ["_law_found"] (defScope s_law_whole) := ⟨rfl, rfl, rfl, by decide +kernel, rfl, by decide +kernel, by decide +kernel⟩
theorem sc_law_wholes : FnScope ["_law_found", "_law_one"] ["_law_found"] (defScope s_law_wholes) := ⟨rfl, rfl, rfl, by decide +kernel, rfl, by decide +kernel, by decide +kernel⟩
theorem sc_law_number : FnScope ["_law_number_here", "_law_some"] ["_law_number_here"] (defScope s_law_number) := ⟨rfl, rfl, rfl, by decide +kernel, rfl, by decide +kernel, by decide +kernel⟩
theorem sc_law_net : FnScope ["_law_script", "_law_base", "_law_least", "_law_places", "_law_arcs", "_law_k", "_law_number_here", "_law_room", "_law_cost"] ["_law_script", "_law_base", "_law_least"] (defScope s_law_net) := ⟨rfl, rfl, rfl, by decide +kernel, rfl, by decide +kernel, by decide +kernel⟩
theorem sc_law_sums : FnScope ["_law_places", "_law_arcs", "_law_amounts", "_law_found", "_law_k"] ["_law_places", "_law_arcs", "_law_amounts"] (defScope s_law_sums) := ⟨rfl, rfl, rfl, by decide +kernel, rfl, by decide +kernel, by decide +kernel⟩
theorem sc_law_walked : FnScope ["_law_script", "_law_base", "_law_net_here", "_law_amounts", "_law_at", "_law_k", "_law_here", "_law_j"] ["_law_script", "_law_base", "_law_net_here", "_law_amounts"] (defScope s_law_walked) := ⟨rfl, rfl, rfl, by decide +kernel, rfl, by decide +kernel, by decide +kernel⟩
theorem sc_law : FnScope ["_law_script", "_law_net_here", "_law_arcs", "_law_goal", "_law_amounts", "_law_k", "_law_at", "_law_left", "_law_good", "_law_rest", "_law_found", "_law_size", "_law_side", "_law_much", "_law_cost", "_law_cut", "_law_cost_told", "_law_told", "_law_one"] ["_law_script"] (defScope s_law) := ⟨rfl, rfl, rfl, by decide +kernel, rfl, by decide +kernel, by decide +kernel⟩
/-! ### where all stands, and what the top has left -/
structure Ad where
  (a_sums a_is_flow a_size_of a_cut_size a_cost_of a_law_cell a_law_mix a_law_whole a_law_wholes a_law_number a_law_net a_law_sums a_law_walked a_law : Addr)
  (f_sums f_is_flow f_size_of f_cut_size f_cost_of f_law_cell f_law_mix f_law_whole f_law_wholes f_law_number f_law_net f_law_sums f_law_walked f_law : FuncData)
structure Txt (K : PySem.W.Frag) (mg : Str → Option Value) (d : Ad) : Prop where
  F_sums : Fun K "sums" "sums" s_sums d.a_sums d.f_sums
  p_sums : Binds K d.f_sums ["places", "arcs", "amounts"] []
  g_sums : mg "sums" = some (.ref d.a_sums)
  k_sums : PySem.W.keepIn K (.ref d.a_sums) = true
  F_is_flow : Fun K "is_flow" "is_flow" s_is_flow d.a_is_flow d.f_is_flow
  p_is_flow : Binds K d.f_is_flow ["places", "arcs", "start", "goal", "amounts"] []
  g_is_flow : mg "is_flow" = some (.ref d.a_is_flow)
  k_is_flow : PySem.W.keepIn K (.ref d.a_is_flow) = true
  F_size_of : Fun K "size_of" "size_of" s_size_of d.a_size_of d.f_size_of
  p_size_of : Binds K d.f_size_of ["places", "arcs", "goal", "amounts"] []
  g_size_of : mg "size_of" = some (.ref d.a_size_of)
  k_size_of : PySem.W.keepIn K (.ref d.a_size_of) = true
  F_cut_size : Fun K "cut_size" "cut_size" s_cut_size d.a_cut_size d.f_cut_size
  p_cut_size : Binds K d.f_cut_size ["arcs", "side"] []
  g_cut_size : mg "cut_size" = some (.ref d.a_cut_size)
  k_cut_size : PySem.W.keepIn K (.ref d.a_cut_size) = true
  F_cost_of : Fun K "cost_of" "cost_of" s_cost_of d.a_cost_of d.f_cost_of
  p_cost_of : Binds K d.f_cost_of ["arcs", "amounts"] []
  g_cost_of : mg "cost_of" = some (.ref d.a_cost_of)
  k_cost_of : PySem.W.keepIn K (.ref d.a_cost_of) = true
  F_law_cell : Fun K "_law_cell" "_law_cell" s_law_cell d.a_law_cell d.f_law_cell
  p_law_cell : Binds K d.f_law_cell ["_law_script", "_law_k"] []
  g_law_cell : mg "_law_cell" = some (.ref d.a_law_cell)
  k_law_cell : PySem.W.keepIn K (.ref d.a_law_cell) = true
  F_law_mix : Fun K "_law_mix" "_law_mix" s_law_mix d.a_law_mix d.f_law_mix
  p_law_mix : Binds K d.f_law_mix ["_law_script", "_law_k"] []
  g_law_mix : mg "_law_mix" = some (.ref d.a_law_mix)
  k_law_mix : PySem.W.keepIn K (.ref d.a_law_mix) = true
  F_law_whole : Fun K "_law_whole" "_law_whole" s_law_whole d.a_law_whole d.f_law_whole
  p_law_whole : Binds K d.f_law_whole ["_law_found"] []
  g_law_whole : mg "_law_whole" = some (.ref d.a_law_whole)
  k_law_whole : PySem.W.keepIn K (.ref d.a_law_whole) = true
  F_law_wholes : Fun K "_law_wholes" "_law_wholes" s_law_wholes d.a_law_wholes d.f_law_wholes
  p_law_wholes : Binds K d.f_law_wholes ["_law_found"] []
  g_law_wholes : mg "_law_wholes" = some (.ref d.a_law_wholes)
  k_law_wholes : PySem.W.keepIn K (.ref d.a_law_wholes) = true
  F_law_number : Fun K "_law_number" "_law_number" s_law_number d.a_law_number d.f_law_number
  p_law_number : Binds K d.f_law_number ["_law_number_here"] []
  g_law_number : mg "_law_number" = some (.ref d.a_law_number)
  k_law_number : PySem.W.keepIn K (.ref d.a_law_number) = true
  F_law_net : Fun K "_law_net" "_law_net" s_law_net d.a_law_net d.f_law_net
  p_law_net : Binds K d.f_law_net ["_law_script", "_law_base", "_law_least"] []
  g_law_net : mg "_law_net" = some (.ref d.a_law_net)
  k_law_net : PySem.W.keepIn K (.ref d.a_law_net) = true
  F_law_sums : Fun K "_law_sums" "_law_sums" s_law_sums d.a_law_sums d.f_law_sums
  p_law_sums : Binds K d.f_law_sums ["_law_places", "_law_arcs", "_law_amounts"] []
  g_law_sums : mg "_law_sums" = some (.ref d.a_law_sums)
  k_law_sums : PySem.W.keepIn K (.ref d.a_law_sums) = true
  F_law_walked : Fun K "_law_walked" "_law_walked" s_law_walked d.a_law_walked d.f_law_walked
  p_law_walked : Binds K d.f_law_walked ["_law_script", "_law_base", "_law_net_here", "_law_amounts"] []
  g_law_walked : mg "_law_walked" = some (.ref d.a_law_walked)
  k_law_walked : PySem.W.keepIn K (.ref d.a_law_walked) = true
  F_law : Fun K "law" "law" s_law d.a_law d.f_law
  p_law : Binds K d.f_law ["_law_script"] []
  g_law : mg "law" = some (.ref d.a_law)
  k_law : PySem.W.keepIn K (.ref d.a_law) = true
  b_all : mg "all" = none
  b_bool : mg "bool" = none
  b_int : mg "int" = none
  b_isinstance : mg "isinstance" = none
  b_len : mg "len" = none
  b_list : mg "list" = none
  b_max : mg "max" = none
  b_range : mg "range" = none
  b_sum : mg "sum" = none
  b_zip : mg "zip" = none
end SB
namespace SB
open PySem PySem.Spec PyProof.Rows L2
local macro_rules | `(tactic| walk_at "same") => `(tactic| first
  | exact Same.refl _
  | assumption
  | (refine Same.trans ?_ (by assumption); walk_at "same"))
local macro_rules | `(tactic| walk_at "is") => `(tactic| first
  | assumption
  | exact Dp.int _
  | exact Dp.bl _
  | exact Dp.non
  | exact Dp.str _
  | (refine' dp_mono ?_ (by assumption); walk_at "same"))
local macro_rules | `(tactic| walk_at "dpa") => `(tactic| first
  | exact DpAll.nil
  | (refine' DpAll.cons ?h1 ?h2; (case h1 => walk_at "is"); (case h2 => walk_at "dpa"))
  | exact dpAll_ints _
  | exact dpAll_bools _
  | assumption
  | (refine' dpAll_mono ?_ (by assumption); walk_at "same"))
local macro_rules | `(tactic| walk_at "bd") => `(tactic| first | omega | assumption | (simp only [List.length_map, List.length_range, List.length_replicate] at *; omega))
local macro_rules | `(tactic| walk_at "ati") => `(tactic| first
  | rfl
  | exact atI_map (by walk_at "bd") (by walk_at "bd"))
local macro_rules | `(tactic| walk_at "kn") => `(tactic| first
  | (with_reducible refine kn_int ?_)
  | (with_reducible refine kn_bl ?_)
  | (with_reducible refine kn_non ?_)
  | (with_reducible refine kn_str ?_)
  | ((with_reducible refine kn_tup ?_); intro u hu)
  | ((with_reducible refine kn_lst ?_); intro u hu))
local macro_rules | `(tactic| walk_at "wm") => `(tactic| first
  | exact .inl ⟨by decide, by decide⟩
  | exact .inr ⟨by decide, by decide⟩)
local macro_rules | `(tactic| walk_at "st") => `(tactic| first
  | ((with_reducible refine' x_var ?h ?_); (case h => with_unfolding_all rfl))
  | (with_reducible refine x_c ?_)
  | (with_reducible refine x_op ?_)
  | (with_reducible refine x_I0 ?_)
  | (with_reducible refine x_cons ?_)
  | (with_reducible refine x_nil ?_)
  | (with_reducible refine x_seq ?_)
  | (with_reducible refine x_asg ?_)
  | (with_reducible refine x_gname ?_)
  | (with_reducible refine x_test ?_)
  | (with_reducible refine x_tB ?_)
  | (with_reducible refine x_k ?_)
  | (with_reducible refine x_kx ?_)
  | (with_reducible refine x_if ?_)
  | (with_reducible refine x_ret ?_)
  | (with_reducible refine x_next ?_)
  | (with_reducible refine x_iteT ?_)
  | (with_reducible refine x_iteF ?_)
  | (with_reducible refine x_nT ?_)
  | (with_reducible refine x_nF ?_)
  | (with_reducible refine x_eqI ?_)
  | (with_reducible refine x_neI ?_)
  | (with_reducible refine x_eqB ?_)
  | (with_reducible refine x_isB ?_)
  | (with_reducible refine x_notB ?_)
  | (with_reducible refine x_neB ?_)
  | (with_reducible refine x_cb ?_)
  | (with_reducible refine x_call0 ?_)
  | (with_reducible refine x_callS ?_)
  | ((with_reducible refine x_I (C := CMul) ?h ?_); (case h => walk_at "wm"))
  | ((with_reducible refine x_I (C := CDiv) ?h ?_); (case h => exact ⟨by decide, by decide⟩))
  | ((with_reducible refine x_I (C := CPow) ?h ?_); (case h => exact ⟨by decide, by decide, by decide⟩))
  | ((with_reducible refine x_I ?h ?_); (case h => walk_at "side"))
  | (with_reducible refine x_U ?_)
  | (with_reducible refine x_un ?_)
  | (with_reducible refine x_and ?_)
  | (with_reducible refine x_or ?_)
  | (with_reducible refine x_not ?_)
  | (with_reducible refine x_andV ?_)
  | (with_reducible refine x_orV ?_)
  | (with_reducible refine x_notV ?_)
  | (with_reducible refine x_ifE ?_)
  | (with_reducible refine x_chain ?_)
  | (with_reducible refine x_ttup ?_)
  | (with_reducible refine x_tlst ?_)
  | (with_reducible refine x_gsub ?_)
  | (with_reducible refine x_drop ?_)
  | (with_reducible refine x_retN ?_)
  | (with_reducible refine x_brk ?_)
  | (with_reducible refine x_fld ?_)
  | (with_reducible refine x_fldr ?_)
  | (with_reducible refine x_meth ?_)
  | (with_reducible refine x_gnil ?_)
  | (with_reducible refine x_for ?_)
  | (with_reducible refine x_forr ?_)
  | (with_reducible refine x_forz ?_)
  | (with_reducible refine x_fort ?_)
  | (with_reducible refine x_lcl ?_)
  | (with_reducible refine x_lcr ?_)
  | (with_reducible refine x_lcz ?_)
  | (with_reducible refine x_lcb ?_ (by with_unfolding_all rfl))
  | (with_reducible refine x_yes ?_)
  | (with_reducible refine x_bm ?_)
  | (with_reducible refine x_bm0 ?_)
  | (with_reducible refine x_bmo 0 (by assumption) rfl ?_)
  | (with_reducible refine x_bmo 1 (by assumption) rfl ?_)
  | (with_reducible refine x_bmo 2 (by assumption) rfl ?_)
  | (with_reducible refine x_gcons ?_)
  | (with_reducible refine x_isN ?_)
  | (with_reducible refine x_notN ?_)
  | (with_reducible refine x_abs ?_)
  | (with_reducible refine x_max2 ?_)
  | (with_reducible refine x_intB ?_)
  | (with_reducible refine' x_all (by assumption) (by walk_at "is") ?_)
  | (with_reducible refine' x_any (by assumption) (by walk_at "is") ?_)
  | (with_reducible refine' x_sum (by assumption) (by walk_at "is") ?_)
  | ((with_reducible refine' x_listS (by assumption) (by walk_at "is") ?_); intro S' H' v W' hS hv)
  | (with_reducible refine x_isX (by assumption) (by assumption) ?_)
  | (with_reducible refine x_isXT (by assumption) (by assumption) ?_)
  | (with_reducible refine x_isiI kb_int_int ?_)
  | (with_reducible refine x_isiI kb_int_bool ?_)
  | (with_reducible refine x_isiB kb_bool_bool ?_)
  | (with_reducible refine x_isiB kb_bool_int ?_)
  | (with_reducible refine' x_isiL (by assumption) (by walk_at "is") kb_list_list ?_)
  | (with_reducible refine' x_isiT (by assumption) (by walk_at "is") kb_tuple_tuple ?_)
  | (with_reducible refine x_isiN kb_NoneType_int ?_)
  | (with_reducible refine' x_isiT (by assumption) (by walk_at "is") kb_tuple_list ?_)
  | (with_reducible refine' x_isiL (by assumption) (by walk_at "is") kb_list_tuple ?_)
  | (with_reducible refine x_isiS kb_str_int ?_)
  | (with_reducible refine' x_isiT (by assumption) (by walk_at "is") kb_tuple_int ?_)
  | (with_reducible refine' x_isiL (by assumption) (by walk_at "is") kb_list_int ?_)
  | ((with_reducible refine' x_ixT (by assumption) (by walk_at "is") ?h ?_); (case h => walk_at "ati"); (walk_at "kn"))
  | ((with_reducible refine' x_ixL (by assumption) (by walk_at "is") ?h ?_); (case h => walk_at "ati"); (walk_at "kn"))
  | ((with_reducible refine x_ixM 0 (by assumption) rfl ?h0 ?h1 ?_); (case h0 => walk_at "bd"); (case h1 => walk_at "bd"))
  | ((with_reducible refine x_ixM 1 (by assumption) rfl ?h0 ?h1 ?_); (case h0 => walk_at "bd"); (case h1 => walk_at "bd"))
  | (with_reducible refine x_lenO 0 (by assumption) rfl ?_)
  | (with_reducible refine x_lenO 1 (by assumption) rfl ?_)
  | (with_reducible refine' x_lenT (by assumption) (by walk_at "is") ?_)
  | (with_reducible refine' x_len (by assumption) (by walk_at "is") ?_)
  | (with_reducible refine x_tr ?_)
  | (with_reducible refine x_truB ?_)
  | (with_reducible refine x_truO 0 (by assumption) rfl ?_)
  | (with_reducible refine' x_truL (by assumption) (by walk_at "is") ?_)
  | ((with_reducible refine' x_tup (by assumption) (by walk_at "dpa") (by simp) ?_); intro S' H' v W' hS hv))
local macro_rules | `(tactic| walk_at "go") => `(tactic| repeat (walk_at "st"))
local macro_rules | `(tactic| walk_at "stop") => `(tactic| ((fail_if_success (with_reducible refine x_if ?_)); (fail_if_success (with_reducible refine x_andV ?_)); (fail_if_success (with_reducible refine x_orV ?_)); (fail_if_success (with_reducible refine x_ifE ?_))))
local macro_rules | `(tactic| walk_at "g") => `(tactic| repeat (walk_at "stop"; walk_at "st"))
local macro_rules | `(tactic| walk_at "side") => `(tactic| first | omega | assumption | exact cdivw_any (by assumption) | decide)
local macro_rules | `(tactic| walk_at "own") => `(tactic| ((with_reducible refine x_own (by assumption) (by simp) ?_); intro p H' W'))
local macro_rules | `(tactic| walk_at "lst") => `(tactic| ((with_reducible refine' x_lst (by assumption) (by walk_at "dpa") (by simp) ?_); intro S' H' v W' hS hv))
local macro_rules | `(tactic| walk_at "ly") => `(tactic| exact lce_y (by assumption) (by assumption) (by walk_at "same") (by walk_at "is") rfl)
local macro_rules | `(tactic| walk_at "ln") => `(tactic| exact lce_n (by assumption) (by assumption) (by walk_at "same") rfl)
local macro_rules | `(tactic| walk_at "lyp") => `(tactic| exact lce_y (by assumption) (by assumption) (by walk_at "same") (by walk_at "is") (if_pos (by assumption)))
local macro_rules | `(tactic| walk_at "lnp") => `(tactic| exact lce_n (by assumption) (by assumption) (by walk_at "same") (if_neg (ne_true (by assumption))))
section
variable {P : Program} {w : World} {K : PySem.W.Frag} {mg : Str → Option Value} {base : Heap} {d : Ad}
inductive Sp_law_cell (K : PySem.W.Frag) : List V → Hp → VK → XK → Prop
  | mk {S : Hp} {O : List (Addr × HO)} {ns : List Int} {i : Int} {x : V} {H : Hp} {Q : VK} {E : XK} (W : Wd K S H O) (h : Dp K S x (.list (ns.map PyData.int)))
    (k : Q (.int (cell ns i)) H) : Sp_law_cell K [x, .int i] H Q E
theorem ok_law_cell (T : Txt K mg d) : FnOk P w K mg base CX0 1 d.a_law_cell d.f_law_cell ["_law_script", "_law_k"] (Sp_law_cell K) := by
  refine T.F_law_cell.ok sc_law_cell (fun vs H Q E h => ?_) (fun cdv A outer s H vs Q E hr h => ?_)
  · cases h; rfl
  · have hu := hu_of hr
    obtain ⟨W, h, k⟩ := h
    rename_i S O ns i x
    refine ⟨_, (pss_cons (ps_if (trutha (K := K) (by rfl) (pv 0) (by intro _; rfl)) (pss_one (ps_ret (pe_ix (ixa (K := K) (by rfl)) (pv 0) (pe_op op_mod (pv 1) (pe_callB (lena (K := K) (by rfl)) (by rfl) T.b_len (by decide +kernel) (pa_cons (pv 0) pa_nil))) (fun _ _ => rfl)))) pss_nil)
      (pss_one (ps_ret pe_int))), ?_⟩
    try dsimp only [cxK, cxw, cxprog]
    walk_at "go"
    refine x_iteN (fun he => ?_) (fun he => ?_)
    · have hl : (0 : Int) < (ns.map PyData.int).length := by
        cases ns with
        | nil => simp at he
        | cons a r => simp only [List.length_map, List.length_cons]; omega
      walk_at "go"
      have h0 := Int.emod_nonneg i (show ((ns.map PyData.int).length : Int) ≠ 0 by omega)
      have h2 := Int.emod_lt_of_pos i hl
      simp only [List.length_map] at h0 h2 hl
      rw [List.length_map]
      refine x_ixL W h (atI_map (f := PyData.int) h0 h2) (kn_int ?_)
      have e : cell ns i = nth ns (i % (ns.length : Int)) := by
        unfold cell
        rw [if_neg]
        · intro z
          rw [z] at hl
          simp at hl
      rw [← e]
      exact k
    · walk_at "go"
      have e : cell ns i = 0 := by
        unfold cell
        rw [if_pos]
        cases ns with
        | nil => rfl
        | cons a r => simp at he
      rw [← e]
      exact k
end
section
variable {P : Program} {w : World} {K : PySem.W.Frag} {mg : Str → Option Value} {base : Heap} {d : Ad}
inductive Sp_law_mix (K : PySem.W.Frag) : List V → Hp → VK → XK → Prop
  | mk {S : Hp} {O : List (Addr × HO)} {ns : List Int} {i : Int} {x : V} {H : Hp} {Q : VK} {E : XK} (W : Wd K S H O) (h : Dp K S x (.list (ns.map PyData.int)))
    (k : Q (.int (mix ns i)) H) : Sp_law_mix K [x, .int i] H Q E
theorem ok_law_mix (T : Txt K mg d) : FnOk P w K mg base CX0 2 d.a_law_mix d.f_law_mix ["_law_script", "_law_k"] (Sp_law_mix K) := by
  refine T.F_law_mix.ok sc_law_mix (fun vs H Q E h => ?_) (fun cdv A outer s H vs Q E hr h => ?_)
  · cases h; rfl
  · have hu := hu_of hr
    obtain ⟨W, h, k⟩ := h
    rename_i S O ns i x
    refine ⟨_, (pss_cons (ps_set (i := 2) sc_law_mix.nd rfl (by first | exact Or.inl rfl | exact Or.inr rfl) (pe_op op_mod (pe_op op_add (pe_call (ok_law_cell T) (hr.mono (by decide)) (by rfl) T.g_law_cell T.k_law_cell T.p_law_cell .nil pass0 (pa_cons (pv 0) (pa_cons (pv 1) pa_nil))) (pe_op op_mul pe_int (pe_op op_add (pv 1) pe_int))) pe_int))
      (pss_cons (ps_set (i := 2) sc_law_mix.nd rfl (by first | exact Or.inl rfl | exact Or.inr rfl) (pe_op op_mod (pe_op op_mul (pv 2) pe_int) pe_int))
      (pss_one (ps_ret (pe_op op_mod (pe_op op_add (pe_op op_mul (pe_op op_fdiv (pv 2) pe_int) pe_int) (pv 2)) pe_int))))), ?_⟩
    try dsimp only [cxK, cxw, cxprog]
    walk_at "go"
    refine .mk W h ?_
    walk_at "go"
    exact k
end
local macro_rules | `(tactic| walk_at "st") => `(tactic| (with_reducible refine Sp_law_mix.mk (by assumption) (by walk_at "is") ?_))
section
variable {P : Program} {w : World} {K : PySem.W.Frag} {mg : Str → Option Value} {base : Heap} {d : Ad}
inductive Sp_law_number (K : PySem.W.Frag) : List V → Hp → VK → XK → Prop
  | mk {S : Hp} {O : List (Addr × HO)} {n : Int} {H : Hp} {Q : VK} {E : XK} (W : Wd K S H O) (k : ∀ S' H', Wd K S' H' O → Same S S' → Q (.int (num n)) H') : Sp_law_number K [.int n] H Q E
theorem ok_law_number (T : Txt K mg d) : FnOk P w K mg base CX0 1 d.a_law_number d.f_law_number ["_law_number_here"] (Sp_law_number K) := by
  refine T.F_law_number.ok sc_law_number (fun vs H Q E h => ?_) (fun cdv A outer s H vs Q E hr h => ?_)
  · cases h; rfl
  · have hu := hu_of hr
    obtain ⟨W, k⟩ := h
    rename_i S O n
    refine ⟨_, (pss_cons (ps_set (i := 1) sc_law_number.nd rfl (by first | exact Or.inl rfl | exact Or.inr rfl) (pe_lst (pa_cons pe_int (pa_cons pe_int (pa_cons (pe_un un_neg pe_int) (pa_cons pe_int (pa_cons (pe_op op_pow pe_int pe_int) (pa_cons (pe_un un_neg (pe_op op_pow pe_int pe_int)) (pa_cons pe_int (pa_cons pe_int pa_nil))))))))))
      (pss_cons (ps_if (pt_cmpR op_eq (pe_op op_mod (pv 0) pe_int) pe_int (nomark _)) (pss_one (ps_ret (pe_ix (ixa (K := K) (by rfl)) (pv 1) (pe_op op_mod (pe_op op_fdiv (pv 0) pe_int) pe_int) (fun _ _ => rfl)))) pss_nil)
      (pss_one (ps_ret (pe_op op_mod (pe_op op_fdiv (pv 0) pe_int) pe_int))))), ?_⟩
    try dsimp only [cxK, cxw, cxprog]
    walk_at "go"
    refine x_lst W (ds := ([0, 1, -1, 2, 10 ^ 30, -10 ^ 30, 7, 5] : List Int).map PyData.int) (dpAll_ints [0, 1, -1, 2, 10 ^ 30, -10 ^ 30, 7, 5]) (by simp) (fun S' H' v W' hS hv => ?_)
    walk_at "go"
    refine x_iteD (fun h4 => ?_) (fun h4 => ?_)
    · walk_at "go"
      refine x_ixL W' hv (atI_map (f := PyData.int) (Int.emod_nonneg _ (by decide)) (Int.emod_lt_of_pos _ (by decide))) (kn_int ?_)
      have := k S' H' W' hS
      rw [num, if_pos h4] at this
      exact this
    · walk_at "go"
      have := k S' H' W' hS
      rw [num, if_neg h4] at this
      exact this
end
local macro_rules | `(tactic| walk_at "st") => `(tactic| ((with_reducible refine Sp_law_number.mk (by assumption) ?_); intro S' H' W' hS))
section
variable {P : Program} {w : World} {K : PySem.W.Frag} {mg : Str → Option Value} {base : Heap} {d : Ad}
abbrev arcD (a : Arc) : PyData := .tuple [.int a.s, .int a.t, .int a.r, .int a.c]
abbrev netD (P : Int) (as : List Arc) : PyData := .tuple [.int P, .list (as.map arcD)]
inductive Sp_law_net (K : PySem.W.Frag) : List V → Hp → VK → XK → Prop
  | mk {S : Hp} {O : List (Addr × HO)} {ns : List Int} {b l : Int} {x : V} {H : Hp} {Q : VK} {E : XK} (W : Wd K S H O) (h : Dp K S x (.list (ns.map PyData.int)))
    (k : ∀ S' H' v, Wd K S' H' O → Same S S' → Dp K S' v (netD (netP ns b) (netA ns b l)) → Q v H') : Sp_law_net K [x, .int b, .int l] H Q E
theorem ok_law_net (T : Txt K mg d) : FnOk P w K mg base CX0 3 d.a_law_net d.f_law_net ["_law_script", "_law_base", "_law_least"] (Sp_law_net K) := by
  refine T.F_law_net.ok sc_law_net (fun vs H Q E h => ?_) (fun cdv A outer s H vs Q E hr h => ?_)
  · cases h; rfl
  · have hu := hu_of hr
    obtain ⟨W, h, k⟩ := h
    rename_i S O ns b l x
    have hP := netP_lo ns b
    have hP2 := netP_hi ns b
    have hN1 := netN_lo ns b
    have hN2 := netN_hi ns b
    have hdv : CDivW 0 (netP ns b) := cdivw_of (b := 9) (show 0 < netP ns b by omega) (show (netP ns b).natAbs < _ by omega)
    refine ⟨_, (pss_cons (ps_set (i := 3) sc_law_net.nd rfl (by first | exact Or.inl rfl | exact Or.inr rfl) (pe_op op_add pe_int (pe_op op_mod (pe_call (ok_law_mix T) (hr.mono (by decide)) (by rfl) T.g_law_mix T.k_law_mix T.p_law_mix .nil pass0 (pa_cons (pv 0) (pa_cons (pv 1) pa_nil))) pe_int)))
      (pss_cons (ps_set (i := 4) sc_law_net.nd rfl (by first | exact Or.inl rfl | exact Or.inr rfl) (pe_lst pa_nil))
      (pss_cons (ps_for PassesOwn.never rfl (pi_range1 (by rfl) T.b_range (pa_cons (pe_op op_mod (pe_call (ok_law_mix T) (hr.mono (by decide)) (by rfl) T.g_law_mix T.k_law_mix T.p_law_mix .nil pass0 (pa_cons (pv 0) (pa_cons (pe_op op_add (pv 1) pe_int) pa_nil))) pe_int) pa_nil)) (pg_name (i := 5) sc_law_net.nd rfl (by first | exact Or.inl rfl | exact Or.inr rfl)) (pss_cons (ps_set (i := 6) sc_law_net.nd rfl (by first | exact Or.inl rfl | exact Or.inr rfl) (pe_call (ok_law_mix T) (hr.mono (by decide)) (by rfl) T.g_law_mix T.k_law_mix T.p_law_mix .nil pass0 (pa_cons (pv 0) (pa_cons (pe_op op_add (pe_op op_add (pv 1) pe_int) (pe_op op_mul pe_int (pv 5))) pa_nil))))
      (pss_cons (ps_set (i := 7) sc_law_net.nd rfl (by first | exact Or.inl rfl | exact Or.inr rfl) (pe_callB (cl_max2 rfl) (by rfl) T.b_max (by decide +kernel) (pa_cons pe_int (pa_cons (pe_call (ok_law_number T) (hr.mono (by decide)) (by rfl) T.g_law_number T.k_law_number T.p_law_number .nil pass0 (pa_cons (pe_call (ok_law_mix T) (hr.mono (by decide)) (by rfl) T.g_law_mix T.k_law_mix T.p_law_mix .nil pass0 (pa_cons (pv 0) (pa_cons (pe_op op_add (pe_op op_add (pv 1) pe_int) (pe_op op_mul pe_int (pv 5))) pa_nil))) pa_nil)) pa_nil))))
      (pss_cons (ps_set (i := 8) sc_law_net.nd rfl (by first | exact Or.inl rfl | exact Or.inr rfl) (pe_callB (cl_max2 rfl) (by rfl) T.b_max (by decide +kernel) (pa_cons (pv 2) (pa_cons (pe_op op_sub (pe_call (ok_law_number T) (hr.mono (by decide)) (by rfl) T.g_law_number T.k_law_number T.p_law_number .nil pass0 (pa_cons (pe_call (ok_law_mix T) (hr.mono (by decide)) (by rfl) T.g_law_mix T.k_law_mix T.p_law_mix .nil pass0 (pa_cons (pv 0) (pa_cons (pe_op op_add (pe_op op_add (pv 1) pe_int) (pe_op op_mul pe_int (pv 5))) pa_nil))) pa_nil)) (pe_op op_mul pe_int (pe_callTy cl_int1 (by rfl) T.b_int (by decide +kernel) (pa_cons (pe_cmpR op_lt (pv 2) pe_int (nomark _)) pa_nil)))) pa_nil))))
      (pss_one (ps_expr (pe_bm PySem.F.plainAttrs_list PySem.F.slot_list_append PySem.F.type_list_append mt_append (pv 4) (pa_cons (pe_tup (pa_cons (pe_op op_mod (pv 6) (pv 3)) (pa_cons (pe_op op_mod (pe_op op_fdivW (pv 6) (pv 3)) (pv 3)) (pa_cons (pv 7) (pa_cons (pv 8) pa_nil))))) pa_nil))))))))
      (pss_one (ps_ret (pe_tup (pa_cons (pv 3) (pa_cons (pv 4) pa_nil)))))))), ?_⟩
    try dsimp only [cxK, cxw, cxprog]
    walk_at "go"
    refine x_own W (by simp) (fun p H1 W1 => ?_)
    walk_at "go"
    refine x_forN (fun i σ' H' => ∃ S' vs, ∃ z1 z2 z3 z4 : Option V, σ' = [some x, some (.int b), some (.int l), some (.int (netP ns b)), some (.ref p), z1, z2, z3, z4] ∧ Wd K S' H' ((p, .lst vs) :: O) ∧ Same S S' ∧
        DpAll K S' vs ((List.range i).map (fun k => arcD (netArc ns b l k)))) ⟨by show netN ns b < _; omega, by show _ ≤ netN ns b; omega⟩ ⟨S, [], _, _, _, _, rfl, W1, Same.refl S, .nil⟩ ?_ ?_
    · rintro i σ' H' hi ⟨S', vs, z1, z2, z3, z4, rfl, W', hS', hA⟩
      have hi' : i < 11 := by
        have : i < (netN ns b).toNat := hi
        omega
      walk_at "go"
      have hlen : vs.length ≤ 1000000 := by
        rw [dpAll_len hA, List.length_map, List.length_range]
        omega
      refine x_app 0 (by assumption) rfl hlen (fun H3 W3 => ?_)
      refine ⟨_, _, _, _, _, _, rfl, W3, by walk_at "same", ?_⟩
      rw [List.range_succ, List.map_append]
      exact dpAll_app (dpAll_mono (by walk_at "same") hA) (by assumption)
    · rintro σ' H' ⟨S', vs, z1, z2, z3, z4, rfl, W', hS', hA⟩
      have hS2 := same_new (W'.atS 0 rfl) (o := .lst vs)
      have hv2 := dp_give (W'.atS 0 rfl) hA
      have W2 : Wd K _ H' O := W'.give 0 rfl
      walk_at "go"
      refine k _ _ _ (by assumption) (by walk_at "same") ?_
      have e : (netA ns b l).map arcD = (List.range (mix ns (b + 1) % 12).toNat).map (fun k => arcD (netArc ns b l k)) := by
        unfold netA netN
        rw [List.map_map]
        rfl
      rw [netD, e]
      assumption
end
section
variable {P : Program} {w : World} {K : PySem.W.Frag} {mg : Str → Option Value} {base : Heap} {d : Ad}
inductive Sp_law_sums (K : PySem.W.Frag) : List V → Hp → VK → XK → Prop
  | mk {S : Hp} {O : List (Addr × HO)} {P : Int} {as : List Arc} {ms : List Int} {x y : V} {H : Hp} {Q : VK} {E : XK} (W : Wd K S H O) (h1 : Dp K S x (.list (as.map arcD))) (h2 : Dp K S y (.list (ms.map PyData.int)))
    (hP : 0 ≤ P) (hP2 : P ≤ 1000) (hl : as.length = ms.length) (hl2 : as.length ≤ 1000) (ok : ∀ a ∈ as, ArcOk P a)
    (k : ∀ S' H' v, Wd K S' H' O → Same S S' → Dp K S' v (.list ((sums P as ms).map PyData.int)) → Q v H') : Sp_law_sums K [.int P, x, y] H Q E
theorem ok_law_sums (T : Txt K mg d) : FnOk P w K mg base CX0 1 d.a_law_sums d.f_law_sums ["_law_places", "_law_arcs", "_law_amounts"] (Sp_law_sums K) := by
  refine T.F_law_sums.ok sc_law_sums (fun vs H Q E h => ?_) (fun cdv A outer s H vs Q E hr h => ?_)
  · cases h; rfl
  · have hu := hu_of hr
    obtain ⟨W, h1, h2, hP, hP2, hl, hl2, ok, k⟩ := h
    rename_i S O P as ms x y
    refine ⟨_, (pss_cons (ps_set (i := 3) sc_law_sums.nd rfl (by first | exact Or.inl rfl | exact Or.inr rfl) (pe_op op_rep (pe_lst (pa_cons pe_int pa_nil)) (pv 0)))
      (pss_cons (ps_for PassesOwn.never rfl (pi_range1 (by rfl) T.b_range (pa_cons (pe_callB (lena (K := K) (by rfl)) (by rfl) T.b_len (by decide +kernel) (pa_cons (pv 1) pa_nil)) pa_nil)) (pg_name (i := 4) sc_law_sums.nd rfl (by first | exact Or.inl rfl | exact Or.inr rfl)) (pss_cons (ps_asg (pe_op op_sub (pe_ix (ixa (K := K) (by rfl)) (pv 3) (pe_ix (ixa (K := K) (by rfl)) (pe_ix (ixa (K := K) (by rfl)) (pv 1) (pv 4) (fun _ _ => rfl)) pe_int (fun _ _ => rfl)) (fun _ _ => rfl)) (pe_ix (ixa (K := K) (by rfl)) (pv 2) (pv 4) (fun _ _ => rfl))) (pg_sub (pv 3) (pe_ix (ixa (K := K) (by rfl)) (pe_ix (ixa (K := K) (by rfl)) (pv 1) (pv 4) (fun _ _ => rfl)) pe_int (fun _ _ => rfl)) set_list))
      (pss_one (ps_asg (pe_op op_add (pe_ix (ixa (K := K) (by rfl)) (pv 3) (pe_ix (ixa (K := K) (by rfl)) (pe_ix (ixa (K := K) (by rfl)) (pv 1) (pv 4) (fun _ _ => rfl)) pe_int (fun _ _ => rfl)) (fun _ _ => rfl)) (pe_ix (ixa (K := K) (by rfl)) (pv 2) (pv 4) (fun _ _ => rfl))) (pg_sub (pv 3) (pe_ix (ixa (K := K) (by rfl)) (pe_ix (ixa (K := K) (by rfl)) (pv 1) (pv 4) (fun _ _ => rfl)) pe_int (fun _ _ => rfl)) set_list)))))
      (pss_one (ps_ret (pv 3))))), ?_⟩
    try dsimp only [cxK, cxw, cxprog]
    walk_at "go"
    refine x_own W (by simp) (fun p H1 W1 => ?_)
    walk_at "go"
    refine x_repI W1 (by omega) (by omega) (fun S2 H2 q W2 hS2 => ?_)
    walk_at "go"
    have hx2 : Dp K S2 x (.list (as.map arcD)) := dp_mono hS2 h1
    have hy2 : Dp K S2 y (.list (ms.map PyData.int)) := dp_mono hS2 h2
    refine x_forN (fun i σ' H' => ∃ S', ∃ z1 : Option V, σ' = [some (.int P), some x, some y, some (.ref q), z1] ∧ Wd K S' H' ((q, .lst ((sumsOf P ((as.zip ms).take i)).map V.int)) :: O) ∧ Same S2 S')
      ⟨by show ((as.map arcD).length : Int) < _; rw [List.length_map]; omega, by omega⟩ ⟨S2, _, rfl, W2, Same.refl _⟩ ?_ ?_
    · rintro i σ' H' hi ⟨S', z1, rfl, W', hS'⟩
      have hi' : i < as.length := by
        have := hi
        rw [List.length_map] at this
        omega
      have hx3 : Dp K S' x (.list (as.map arcD)) := dp_mono hS' hx2
      have hy3 : Dp K S' y (.list (ms.map PyData.int)) := dp_mono hS' hy2
      obtain ⟨a0, a1, a2, a3⟩ := ok (nth as i) (nth_mem (by omega) (by omega))
      have hL : ((sumsOf P ((as.zip ms).take i)).length : Int) = P := by rw [sumsOf_len]; omega
      walk_at "go"
      refine x_setM 0 W' rfl a0 (by omega) (fun H3 W3 => ?_)
      have hL2 : (((sumsOf P ((as.zip ms).take i)).set (nth as i).s.toNat (nth (sumsOf P ((as.zip ms).take i)) (nth as i).s - nth ms i)).length : Int) = P := by rw [List.length_set]; exact hL
      walk_at "go"
      refine x_setM 0 W3 rfl a2 (by omega) (fun H4 W4 => ?_)
      refine ⟨S', _, rfl, ?_, hS'⟩
      have hz : (as.zip ms)[i]? = some (nth as i, nth ms i) := zip_get (nth_get (i := (i : Int)) (by omega) (by omega)) (nth_get (i := (i : Int)) (by omega) (by omega))
      rw [sumsOf_take hz]
      exact W4
    · rintro σ' H' ⟨S', z1, rfl, W', hS'⟩
      have e : (as.zip ms).take ((as.map arcD).length : Int).toNat = as.zip ms := by
        rw [List.take_of_length_le]
        rw [List.length_zip, List.length_map]
        omega
      rw [e] at W'
      have hS2 := same_new (W'.atS 0 rfl) (o := .lst ((sumsOf P (as.zip ms)).map V.int))
      have hv2 := dp_give (W'.atS 0 rfl) (dpAll_ints (K := K) (S := S') (sumsOf P (as.zip ms)))
      have W2 : Wd K _ H' O := W'.give 0 rfl
      walk_at "go"
      exact k _ _ _ W2 (by walk_at "same") hv2
end
section
variable {P : Program} {w : World} {K : PySem.W.Frag} {mg : Str → Option Value} {base : Heap} {d : Ad}
inductive Sp_sums (K : PySem.W.Frag) : List V → Hp → VK → XK → Prop
  | mk {S : Hp} {O : List (Addr × HO)} {P : Int} {as : List Arc} {ms : List Int} {x y : V} {H : Hp} {Q : VK} {E : XK} (W : Wd K S H O) (h1 : Dp K S x (.list (as.map arcD))) (h2 : Dp K S y (.list (ms.map PyData.int)))
    (hP : 0 ≤ P) (hP2 : P ≤ 1000) (hl : as.length = ms.length) (hl2 : as.length ≤ 1000) (ok : ∀ a ∈ as, ArcOk P a)
    (k : ∀ S' H' v, Wd K S' H' O → Same S S' → Dp K S' v (.list ((sums P as ms).map PyData.int)) → Q v H') : Sp_sums K [.int P, x, y] H Q E
theorem ok_sums (T : Txt K mg d) : FnOk P w K mg base CX0 1 d.a_sums d.f_sums ["places", "arcs", "amounts"] (Sp_sums K) := by
  refine T.F_sums.ok sc_sums (fun vs H Q E h => ?_) (fun cdv A outer s H vs Q E hr h => ?_)
  · cases h; rfl
  · have hu := hu_of hr
    obtain ⟨W, h1, h2, hP, hP2, hl, hl2, ok, k⟩ := h
    rename_i S O P as ms x y
    refine ⟨_, (pss_cons (ps_set (i := 3) sc_sums.nd rfl (by first | exact Or.inl rfl | exact Or.inr rfl) (pe_op op_rep (pe_lst (pa_cons pe_int pa_nil)) (pv 0)))
      (pss_cons (ps_for PassesOwn.never rfl (pi_zip (by rfl) T.b_zip (pa_cons (pv 1) (pa_cons (pv 2) pa_nil))) (tupa (n := 2) (K := K) (by rfl) rfl (pgs_cons (pg_name (i := 4) sc_sums.nd rfl (by first | exact Or.inl rfl | exact Or.inr rfl)) (pgs_cons (pg_name (i := 5) sc_sums.nd rfl (by first | exact Or.inl rfl | exact Or.inr rfl)) pgs_nil))) (pss_cons (ps_asg (pe_op op_sub (pe_ix (ixa (K := K) (by rfl)) (pv 3) (pe_ix (ixa (K := K) (by rfl)) (pv 4) pe_int (fun _ _ => rfl)) (fun _ _ => rfl)) (pv 5)) (pg_sub (pv 3) (pe_ix (ixa (K := K) (by rfl)) (pv 4) pe_int (fun _ _ => rfl)) set_list))
      (pss_one (ps_asg (pe_op op_add (pe_ix (ixa (K := K) (by rfl)) (pv 3) (pe_ix (ixa (K := K) (by rfl)) (pv 4) pe_int (fun _ _ => rfl)) (fun _ _ => rfl)) (pv 5)) (pg_sub (pv 3) (pe_ix (ixa (K := K) (by rfl)) (pv 4) pe_int (fun _ _ => rfl)) set_list)))))
      (pss_one (ps_ret (pv 3))))), ?_⟩
    try dsimp only [cxK, cxw, cxprog]
    walk_at "go"
    refine x_own W (by simp) (fun p H1 W1 => ?_)
    walk_at "go"
    refine x_repI W1 (by omega) (by omega) (fun S2 H2 q W2 hS2 => ?_)
    walk_at "go"
    refine x_forZ (dp_mono hS2 h1) (dp_mono hS2 h2) hl (fun i σ' H' => ∃ S', ∃ z1 z2 : Option V, σ' = [some (.int P), some x, some y, some (.ref q), z1, z2] ∧ Wd K S' H' ((q, .lst ((sumsOf P ((as.zip ms).take i)).map V.int)) :: O) ∧ Same S2 S')
      ⟨S2, _, _, rfl, W2, Same.refl _⟩ (fun i σ' H' ⟨S', z1, z2, e, W', hS'⟩ => hS'.trans W'.sub) ?_ ?_
    · rintro i a m σ' H' tt e1 e2 ⟨S', z1, z2, rfl, W', hS'⟩ hT
      refine kn_tup fun u hu => kn_int ?_
      have ha : a ∈ as := List.mem_of_getElem? e1
      obtain ⟨a0, a1, a2, a3⟩ := ok a ha
      have hL : ((sumsOf P ((as.zip ms).take i)).length : Int) = P := by rw [sumsOf_len]; omega
      have hS3 := same_new (o := .tup [u, .int m]) (W'.frS hT)
      have W3 := W'.new (o := .tup [u, .int m]) hT
      walk_at "go"
      refine x_setM 0 W3 rfl a0 (by omega) (fun H3 W3 => ?_)
      have hL2 : (((sumsOf P ((as.zip ms).take i)).set a.s.toNat (nth (sumsOf P ((as.zip ms).take i)) a.s - m)).length : Int) = P := by rw [List.length_set]; exact hL
      walk_at "go"
      refine x_setM 0 W3 rfl a2 (by omega) (fun H4 W4 => ?_)
      refine ⟨_, _, _, rfl, ?_, hS'.trans hS3⟩
      rw [sumsOf_take (zip_get e1 e2)]
      exact W4
    · rintro σ' H' ⟨S', z1, z2, rfl, W', hS'⟩
      have e : (as.zip ms).take as.length = as.zip ms := by
        rw [List.take_of_length_le]
        rw [List.length_zip]
        omega
      rw [e] at W'
      refine x_giveI W' (fun S3 W3 hS3 hv => ?_)
      walk_at "go"
      exact k _ _ _ W3 (by walk_at "same") hv
end
section
variable {P : Program} {w : World} {K : PySem.W.Frag} {mg : Str → Option Value} {base : Heap} {d : Ad}
inductive Sp_is_flow (K : PySem.W.Frag) : List V → Hp → VK → XK → Prop
  | mk {S : Hp} {O : List (Addr × HO)} {P s g : Int} {as : List Arc} {ms : List Int} {x y : V} {H : Hp} {Q : VK} {E : XK} (W : Wd K S H O) (h1 : Dp K S x (.list (as.map arcD))) (h2 : Dp K S y (.list (ms.map PyData.int)))
    (hP : 0 ≤ P) (hP2 : P ≤ 1000) (hl2 : as.length ≤ 1000) (ok : ∀ a ∈ as, ArcOk P a)
    (k : ∀ S' H', Wd K S' H' O → Same S S' → Q (.bl (isFlow P as s g ms)) H') : Sp_is_flow K [.int P, x, .int s, .int g, y] H Q E
theorem ok_is_flow (T : Txt K mg d) : FnOk P w K mg base CX0 2 d.a_is_flow d.f_is_flow ["places", "arcs", "start", "goal", "amounts"] (Sp_is_flow K) := by
  refine T.F_is_flow.ok sc_is_flow (fun vs H Q E h => ?_) (fun cdv A outer s H vs Q E hr h => ?_)
  · cases h; rfl
  · have hu := hu_of hr
    obtain ⟨W, h1, h2, hP, hP2, hl2, ok, k⟩ := h
    rename_i S O P s g as ms x y
    refine ⟨_, (pss_cons (ps_if (pt_cmpR op_ne (pe_callB (lena (K := K) (by rfl)) (by rfl) T.b_len (by decide +kernel) (pa_cons (pv 4) pa_nil)) (pe_callB (lena (K := K) (by rfl)) (by rfl) T.b_len (by decide +kernel) (pa_cons (pv 1) pa_nil)) (nomark _)) (pss_one (ps_ret pe_bl)) pss_nil)
      (pss_cons (ps_for PassesOwn.never rfl (pi_zip (by rfl) T.b_zip (pa_cons (pv 1) (pa_cons (pv 4) pa_nil))) (tupa (n := 2) (K := K) (by rfl) rfl (pgs_cons (pg_name (i := 5) sc_is_flow.nd rfl (by first | exact Or.inl rfl | exact Or.inr rfl)) (pgs_cons (pg_name (i := 6) sc_is_flow.nd rfl (by first | exact Or.inl rfl | exact Or.inr rfl)) pgs_nil))) (pss_one (ps_if (pt_not (pt_chain op_le op_le pe_int (pv 6) (pe_ix (ixa (K := K) (by rfl)) (pv 5) pe_int (fun _ _ => rfl)))) (pss_one (ps_ret pe_bl)) pss_nil)))
      (pss_cons (ps_set (i := 7) sc_is_flow.nd rfl (by first | exact Or.inl rfl | exact Or.inr rfl) (pe_call (ok_sums T) (hr.mono (by decide)) (by rfl) T.g_sums T.k_sums T.p_sums .nil pass0 (pa_cons (pv 0) (pa_cons (pv 1) (pa_cons (pv 4) pa_nil)))))
      (pss_one (ps_ret (pe_callB (alla (K := K) (by rfl) rfl) (by rfl) T.b_all (by decide +kernel) (pa_cons (pe_lc (own := [("k", 8)]) rfl sc_is_flow.nd (pi_range1 (by rfl) T.b_range (pa_cons (pv 0) pa_nil)) (blkOk_by (by first | decide +kernel | exact Eq.refl true)) (fun _ _ _ _ _ => pg_name (i := 8) sc_is_flow.nd rfl (by first | exact Or.inl rfl | exact Or.inr rfl)) (fun _ _ _ _ _ => pts_one (pt_cmpR (notIna (K := K) (by rfl)) (pv 8) (pe_tup (pa_cons (pv 2) (pa_cons (pv 3) pa_nil))) (by rfl))) (fun _ _ _ _ _ => (pe_cmpR op_eq (pe_ix (ixa (K := K) (by rfl)) (pv 7) (pv 8) (fun _ _ => rfl)) pe_int (nomark _)))) pa_nil))))))), ?_⟩
    try dsimp only [cxK, cxw, cxprog]
    walk_at "go"
    refine x_iteND (fun hne => ?_) (fun he => ?_)
    · walk_at "go"
      have e : isFlow P as s g ms = false := by
        unfold isFlow
        rw [decide_eq_false (fun e => hne (by rw [List.length_map, List.length_map, e]))]
        rfl
      rw [← e]
      exact k _ _ W (Same.refl _)
    · have hl : as.length = ms.length := by
        rw [List.length_map, List.length_map] at he
        omega
      have lz : (as.zip ms).length = as.length := by rw [List.length_zip]; omega
      walk_at "go"
      refine x_forZ h1 h2 hl (fun i σ' H' => ∃ S', ∃ z1 z2 z3 z4 : Option V, σ' = [some (.int P), some x, some (.int s), some (.int g), some y, z1, z2, z3, z4] ∧ Wd K S' H' O ∧ Same S S' ∧ ((as.zip ms).take i).all amtOk = true)
        ⟨S, _, _, _, _, rfl, W, Same.refl _, rfl⟩ (fun i σ' H' ⟨S', z1, z2, z3, z4, e, W', hS', hA⟩ => hS'.trans W'.sub) ?_ ?_
      · rintro i a m σ' H' tt e1 e2 ⟨S', z1, z2, z3, z4, rfl, W', hS', hA⟩ hT
        refine kn_tup fun u hu => kn_int ?_
        have hS3 := same_new (o := .tup [u, .int m]) (W'.frS hT)
        have W3 := W'.new (o := .tup [u, .int m]) hT
        have ez := zip_get e1 e2
        have no : amtOk (a, m) = false → isFlow P as s g ms = false := fun h => by
          unfold isFlow
          have : (as.zip ms).all amtOk = false := List.all_eq_false.mpr ⟨_, List.mem_of_getElem? ez, by rw [h]; exact Bool.false_ne_true⟩
          rw [this, Bool.and_false, Bool.false_and]
        walk_at "go"
        refine x_iteD (fun h0 => ?_) (fun h0 => ?_)
        · walk_at "go"
          refine x_iteND (fun h3 => ?_) (fun h3 => ?_)
          · walk_at "go"
            rw [← no (by simp [amtOk, h3])]
            exact k _ _ W3 (by walk_at "same")
          · walk_at "go"
            refine ⟨_, _, _, _, _, rfl, W3, by walk_at "same", ?_⟩
            rw [List.take_add_one, ez, List.all_append, hA]
            simp [amtOk, h0, h3]
        · walk_at "go"
          rw [← no (by simp [amtOk, h0])]
          exact k _ _ W3 (by walk_at "same")
      · rintro σ' H' ⟨S', z1, z2, z3, z4, rfl, W', hS', hA⟩
        have hA' : (as.zip ms).all amtOk = true := by
          rw [List.take_of_length_le (by omega)] at hA
          exact hA
        walk_at "go"
        refine .mk W' (dp_mono hS' h1) (dp_mono hS' h2) hP hP2 hl hl2 ok (fun S2 H2 v W2 hS2 hv => ?_)
        walk_at "go"
        have hsl : (sums P as ms).length = P.toNat := sumsOf_len _ _
        refine lcr_filt PyData.bool (fun k : Nat => !decide ((k : Int) ∈ [s, g])) (fun k : Nat => decide (nth (sums P as ms) k = 0)) W2 ⟨by omega, by omega⟩ (fun z S' H' R acc N hz W' hS E => ?_) (fun S' H' v W' hS hv => ?_)
        · walk_at "go"
          refine x_inT (ns := [s, g]) (by assumption) (by assumption) ?_
          walk_at "go"
          refine x_ite (fun hc => ?_) (fun hc => ?_)
          · walk_at "go"
            walk_at "lyp"
          · walk_at "lnp"
        · walk_at "go"
          have e : isFlow P as s g ms = (((List.range P.toNat).filter fun k : Nat => !decide ((k : Int) ∈ [s, g])).map fun k : Nat => decide (nth (sums P as ms) k = 0)).all id := by
            unfold isFlow
            rw [decide_eq_true hl.symm, hA']
            rfl
          rw [← e]
          exact k _ _ (by assumption) (by walk_at "same")
end
section
variable {P : Program} {w : World} {K : PySem.W.Frag} {mg : Str → Option Value} {base : Heap} {d : Ad}
inductive Sp_size_of (K : PySem.W.Frag) : List V → Hp → VK → XK → Prop
  | mk {S : Hp} {O : List (Addr × HO)} {P g : Int} {as : List Arc} {ms : List Int} {x y : V} {H : Hp} {Q : VK} {E : XK} (W : Wd K S H O) (h1 : Dp K S x (.list (as.map arcD))) (h2 : Dp K S y (.list (ms.map PyData.int)))
    (hP : 0 ≤ P) (hP2 : P ≤ 1000) (hl : as.length = ms.length) (hl2 : as.length ≤ 1000) (ok : ∀ a ∈ as, ArcOk P a) (hg : 0 ≤ g) (hg2 : g < P)
    (k : ∀ S' H', Wd K S' H' O → Same S S' → Q (.int (nth (sums P as ms) g)) H') : Sp_size_of K [.int P, x, .int g, y] H Q E
theorem ok_size_of (T : Txt K mg d) : FnOk P w K mg base CX0 2 d.a_size_of d.f_size_of ["places", "arcs", "goal", "amounts"] (Sp_size_of K) := by
  refine T.F_size_of.ok sc_size_of (fun vs H Q E h => ?_) (fun cdv A outer s H vs Q E hr h => ?_)
  · cases h; rfl
  · have hu := hu_of hr
    obtain ⟨W, h1, h2, hP, hP2, hl, hl2, ok, hg, hg2, k⟩ := h
    rename_i S O P g as ms x y
    refine ⟨_, (pss_one (ps_ret (pe_ix (ixa (K := K) (by rfl)) (pe_call (ok_sums T) (hr.mono (by decide)) (by rfl) T.g_sums T.k_sums T.p_sums .nil pass0 (pa_cons (pv 0) (pa_cons (pv 1) (pa_cons (pv 3) pa_nil)))) (pv 2) (fun _ _ => rfl)))), ?_⟩
    try dsimp only [cxK, cxw, cxprog]
    have hsl : (sums P as ms).length = P.toNat := sumsOf_len _ _
    walk_at "go"
    refine .mk W h1 h2 hP hP2 hl hl2 ok (fun S2 H2 v W2 hS2 hv => ?_)
    walk_at "go"
    exact k _ _ W2 hS2
end
section
variable {P : Program} {w : World} {K : PySem.W.Frag} {mg : Str → Option Value} {base : Heap} {d : Ad}
inductive Sp_cut_size (K : PySem.W.Frag) : List V → Hp → VK → XK → Prop
  | mk {S : Hp} {O : List (Addr × HO)} {as : List Arc} {ks : List Int} {x y : V} {H : Hp} {Q : VK} {E : XK} (W : Wd K S H O) (h1 : Dp K S x (.list (as.map arcD))) (h2 : Dp K S y (.list (ks.map PyData.int))) (hl2 : as.length ≤ 1000)
    (k : ∀ S' H', Wd K S' H' O → Same S S' → Q (.int (cutSize as ks)) H') : Sp_cut_size K [x, y] H Q E
theorem ok_cut_size (T : Txt K mg d) : FnOk P w K mg base CX0 1 d.a_cut_size d.f_cut_size ["arcs", "side"] (Sp_cut_size K) := by
  refine T.F_cut_size.ok sc_cut_size (fun vs H Q E h => ?_) (fun cdv A outer s H vs Q E hr h => ?_)
  · cases h; rfl
  · have hu := hu_of hr
    obtain ⟨W, h1, h2, hl2, k⟩ := h
    rename_i S O as ks x y
    refine ⟨_, (pss_one (ps_ret (pe_callB (suma (K := K) (by rfl) rfl) (by rfl) T.b_sum (by decide +kernel) (pa_cons (pe_lc (own := [("arc", 2)]) rfl sc_cut_size.nd (pi_list (pv 0)) (blkOk_by (by first | decide +kernel | exact Eq.refl true)) (fun _ _ _ _ _ => pg_name (i := 2) sc_cut_size.nd rfl (by first | exact Or.inl rfl | exact Or.inr rfl)) (fun _ _ _ _ _ => pts_one (PW.pt (pw_and (pt_cmpR (ina (K := K) (by rfl)) (pe_ix (ixa (K := K) (by rfl)) (pv 2) pe_int (fun _ _ => rfl)) (pv 1) (by rfl)) (pw_and1 (pt_cmpR (notIna (K := K) (by rfl)) (pe_ix (ixa (K := K) (by rfl)) (pv 2) pe_int (fun _ _ => rfl)) (pv 1) (by rfl)))))) (fun _ _ _ _ _ => (pe_ix (ixa (K := K) (by rfl)) (pv 2) pe_int (fun _ _ => rfl)))) pa_nil)))), ?_⟩
    try dsimp only [cxK, cxw, cxprog]
    walk_at "go"
    refine lc_filt PyData.int (fun a : Arc => leaves ks a) (fun a : Arc => a.r) W h1 (by omega) (fun a S' H' R acc N hz W' hS E => kn_tup fun u hu => ?_) (fun S' H' v W' hS hv => ?_)
    · walk_at "go"
      refine x_inL (by assumption) (by walk_at "is") ?_
      walk_at "go"
      refine x_iteD (fun hs => ?_) (fun hs => ?_)
      · walk_at "go"
        refine x_inL (by assumption) (by walk_at "is") ?_
        walk_at "go"
        refine x_iteND (fun ht => ?_) (fun ht => ?_)
        · have hc : leaves ks a = true := by simp [leaves, hs, ht]
          walk_at "go"
          walk_at "lyp"
        · have hc : leaves ks a = false := by simp [leaves, ht]
          walk_at "lnp"
      · have hc : leaves ks a = false := by simp [leaves, hs]
        walk_at "go"
        walk_at "lnp"
    · walk_at "go"
      exact k _ _ (by assumption) (by walk_at "same")
end
section
variable {P : Program} {w : World} {K : PySem.W.Frag} {mg : Str → Option Value} {base : Heap} {d : Ad}
inductive Sp_cost_of (K : PySem.W.Frag) : List V → Hp → VK → XK → Prop
  | mk {S : Hp} {O : List (Addr × HO)} {as : List Arc} {ms : List Int} {x y : V} {H : Hp} {Q : VK} {E : XK} (W : Wd K S H O) (h1 : Dp K S x (.list (as.map arcD))) (h2 : Dp K S y (.list (ms.map PyData.int))) (hl : as.length = ms.length) (hl2 : as.length ≤ 1000)
    (b : ∀ p ∈ as.zip ms, CMulW p.1.c p.2) (k : ∀ S' H', Wd K S' H' O → Same S S' → Q (.int (costOf as ms)) H') : Sp_cost_of K [x, y] H Q E
theorem ok_cost_of (T : Txt K mg d) : FnOk P w K mg base CX0 1 d.a_cost_of d.f_cost_of ["arcs", "amounts"] (Sp_cost_of K) := by
  refine T.F_cost_of.ok sc_cost_of (fun vs H Q E h => ?_) (fun cdv A outer s H vs Q E hr h => ?_)
  · cases h; rfl
  · have hu := hu_of hr
    obtain ⟨W, h1, h2, hl, hl2, b, k⟩ := h
    rename_i S O as ms x y
    refine ⟨_, (pss_one (ps_ret (pe_callB (suma (K := K) (by rfl) rfl) (by rfl) T.b_sum (by decide +kernel) (pa_cons (pe_lc (own := [("arc", 2), ("amount", 3)]) rfl sc_cost_of.nd (pi_zip (by rfl) T.b_zip (pa_cons (pv 0) (pa_cons (pv 1) pa_nil))) (blkOk_by (by first | decide +kernel | exact Eq.refl true)) (fun _ _ _ _ _ => tupa (n := 2) (K := K) (by rfl) rfl (pgs_cons (pg_name (i := 2) sc_cost_of.nd rfl (by first | exact Or.inl rfl | exact Or.inr rfl)) (pgs_cons (pg_name (i := 3) sc_cost_of.nd rfl (by first | exact Or.inl rfl | exact Or.inr rfl)) pgs_nil))) (fun _ _ _ _ _ => pts_nil) (fun _ _ _ _ _ => (pe_op op_mulW (pe_ix (ixa (K := K) (by rfl)) (pv 2) pe_int (fun _ _ => rfl)) (pv 3)))) pa_nil)))), ?_⟩
    try dsimp only [cxK, cxw, cxprog]
    walk_at "go"
    refine lcz_map PyData.int (fun p : Arc × Int => p.1.c * p.2) W h1 h2 hl (by omega) (fun a m S' H' R acc N hz W' hS E => kn_tup fun u hu => kn_int ?_) (fun S' H' v W' hS hv => ?_)
    · have hb := b _ hz
      dsimp only at hb
      walk_at "go"
      walk_at "ly"
    · walk_at "go"
      exact k _ _ (by assumption) (by walk_at "same")
end
section
variable {P : Program} {w : World} {K : PySem.W.Frag} {mg : Str → Option Value} {base : Heap} {d : Ad}
inductive Sp_law_walked (K : PySem.W.Frag) : List V → Hp → VK → XK → Prop
  | mk {S : Hp} {O : List (Addr × HO)} {ns : List Int} {b P : Int} {as : List Arc} {ms : List Int} {z x : V} {p : Addr} {H : Hp} {Q : VK} {E : XK} (W : Wd K S H ((p, .lst (ms.map V.int)) :: O)) (h0 : Dp K S z (.list (ns.map PyData.int))) (h1 : Dp K S x (netD P as))
    (hl : as.length = ms.length) (hl2 : as.length ≤ 1000)
    (k : ∀ (S' H' : Hp) (ms' : List Int), Wd K S' H' ((p, .lst (ms'.map V.int)) :: O) → Same S S' → ms'.length = ms.length → (∀ m' ∈ ms', ∃ m ∈ ms, m ≤ m' ∧ m' ≤ m + 6) → Q (.ref p) H') : Sp_law_walked K [z, .int b, x, .ref p] H Q E
theorem ok_law_walked (T : Txt K mg d) : FnOk P w K mg base CX0 3 d.a_law_walked d.f_law_walked ["_law_script", "_law_base", "_law_net_here", "_law_amounts"] (Sp_law_walked K) := by
  refine T.F_law_walked.ok sc_law_walked (fun vs H Q E h => ?_) (fun cdv A outer s H vs Q E hr h => ?_)
  · cases h; rfl
  · have hu := hu_of hr
    obtain ⟨W, h0, h1, hl, hl2, k⟩ := h
    rename_i S O ns b P as ms z x p
    refine ⟨_, (pss_cons (ps_set (i := 4) sc_law_walked.nd rfl (by first | exact Or.inl rfl | exact Or.inr rfl) pe_int)
      (pss_cons (ps_for PassesOwn.never rfl (pi_range1 (by rfl) T.b_range (pa_cons pe_int pa_nil)) (pg_name (i := 5) sc_law_walked.nd rfl (by first | exact Or.inl rfl | exact Or.inr rfl)) (pss_cons (ps_setLc (i := 6) (own := [("_law_j", 7)]) rfl sc_law_walked.nd rfl rfl (sw_true rfl rfl rfl (by decide +kernel)) (pi_range1 (by rfl) T.b_range (pa_cons (pe_callB (lena (K := K) (by rfl)) (by rfl) T.b_len (by decide +kernel) (pa_cons (pe_ix (ixa (K := K) (by rfl)) (pv 2) pe_int (fun _ _ => rfl)) pa_nil)) pa_nil)) (blkOk_by (by first | decide +kernel | exact Eq.refl true)) (fun _ _ _ _ _ => pg_name (i := 7) sc_law_walked.nd rfl (by first | exact Or.inl rfl | exact Or.inr rfl)) (fun _ _ _ _ _ => pts_one (pt_cmpR op_eq (pe_ix (ixa (K := K) (by rfl)) (pe_ix (ixa (K := K) (by rfl)) (pe_ix (ixa (K := K) (by rfl)) (pv 2) pe_int (fun _ _ => rfl)) (pv 7) (fun _ _ => rfl)) pe_int (fun _ _ => rfl)) (pv 4) (nomark _))) (fun _ _ _ _ _ => (pv 7)))
      (pss_one (ps_if (PW.pt (pw_and (trutha (K := K) (by rfl) (pv 6) (by intro _; rfl)) (pw_and1 (pt_cmpR op_ne (pv 4) pe_int (nomark _))))) (pss_cons (ps_set (i := 7) sc_law_walked.nd rfl (by first | exact Or.inl rfl | exact Or.inr rfl) (pe_ix (ixa (K := K) (by rfl)) (pv 6) (pe_op op_mod (pe_call (ok_law_mix T) (hr.mono (by decide)) (by rfl) T.g_law_mix T.k_law_mix T.p_law_mix .nil pass0 (pa_cons (pv 0) (pa_cons (pe_op op_add (pv 1) (pv 5)) pa_nil))) (pe_callB (lena (K := K) (by rfl)) (by rfl) T.b_len (by decide +kernel) (pa_cons (pv 6) pa_nil))) (fun _ _ => rfl)))
      (pss_cons (ps_asg (pe_op op_add (pe_ix (ixa (K := K) (by rfl)) (pv 3) (pv 7) (fun _ _ => rfl)) pe_int) (pg_sub (pv 3) (pv 7) set_list))
      (pss_one (ps_set (i := 4) sc_law_walked.nd rfl (by first | exact Or.inl rfl | exact Or.inr rfl) (pe_ix (ixa (K := K) (by rfl)) (pe_ix (ixa (K := K) (by rfl)) (pe_ix (ixa (K := K) (by rfl)) (pv 2) pe_int (fun _ _ => rfl)) (pv 7) (fun _ _ => rfl)) pe_int (fun _ _ => rfl)))))) pss_nil))))
      (pss_one (ps_ret (pv 3))))), ?_⟩
    try dsimp only [cxK, cxw, cxprog]
    walk_at "go"
    refine x_forN (fun i σ' H' => ∃ S', ∃ ms' : List Int, ∃ at0 : Int, ∃ z1 z2 z3 : Option V, σ' = [some z, some (.int b), some x, some (.ref p), some (.int at0), z1, z2, z3] ∧ Wd K S' H' ((p, .lst (ms'.map V.int)) :: O) ∧ Same S S' ∧ ms'.length = ms.length ∧ ∀ m' ∈ ms', ∃ m ∈ ms, m ≤ m' ∧ m' ≤ m + i)
      ⟨by decide, by decide⟩ ⟨S, ms, 0, _, _, _, rfl, W, Same.refl _, rfl, fun m hm => ⟨m, hm, by omega, by omega⟩⟩ ?_ ?_
    · rintro i σ' H' hi ⟨S', ms', at0, z1, z2, z3, rfl, W', hS', hl', hm⟩
      have hx' := dp_mono hS' h1
      have hi6 : i < 6 := hi
      walk_at "go"
      refine lcr_filt PyData.int (fun j : Nat => decide ((nth as (j : Int)).s = at0)) (fun j : Nat => (j : Int)) W' ⟨by omega, by rw [List.length_map]; omega⟩ (fun j S3 H3 R acc N hj W3 hS3 E => ?_) (fun S3 H3 v W3 hS3 hv => ?_)
      · have hj' : j < as.length := by
          rw [List.length_map] at hj
          omega
        walk_at "go"
        refine x_ite (fun hc => ?_) (fun hc => ?_)
        · walk_at "go"
          walk_at "lyp"
        · walk_at "lnp"
      · obtain ⟨L, hL, hv⟩ : ∃ L : List Int, (∀ j ∈ L, 0 ≤ j ∧ j < as.length) ∧ Dp K S3 v (.list (L.map PyData.int)) := by
          refine ⟨_, fun j hj => ?_, hv⟩
          obtain ⟨k, hk, rfl⟩ := List.mem_map.mp hj
          have := List.mem_range.mp (List.mem_filter.mp hk).1
          rw [List.length_map] at this
          omega
        have nxt : ∀ at1 : Int, ∃ S'' : Hp, ∃ ms2 : List Int, ∃ at2 : Int, ∃ z1' z2' z3' : Option V, [some z, some (.int b), some x, some (.ref p), some (.int at1), some (.int i), some v, z3] = [some z, some (.int b), some x, some (.ref p), some (.int at2), z1', z2', z3'] ∧ Wd K S'' H3 ((p, .lst (ms2.map V.int)) :: O) ∧ Same S S'' ∧ ms2.length = ms.length ∧ ∀ m' ∈ ms2, ∃ m ∈ ms, m ≤ m' ∧ m' ≤ m + (i + 1 : Nat) := fun at1 =>
          ⟨S3, ms', at1, _, _, _, rfl, W3, by walk_at "same", hl', fun m' h => by obtain ⟨m, h1, h2, h3⟩ := hm m' h; exact ⟨m, h1, h2, by omega⟩⟩
        walk_at "go"
        refine x_iteN (fun he => ?_) (fun he => ?_)
        · have hl0 : 0 < (L.map PyData.int).length := by
            cases L with
            | nil => simp at he
            | cons a r => simp
          have m0 := Int.emod_nonneg (mix ns (b + i)) (show (((L.map PyData.int).length : Nat) : Int) ≠ 0 by omega)
          have m1 := Int.emod_lt_of_pos (mix ns (b + i)) (show (0 : Int) < (((L.map PyData.int).length : Nat) : Int) by omega)
          have hj := hL _ (nth_mem (xs := L) m0 (by rw [List.length_map] at m1 ⊢; exact m1))
          have e1 : ((L.map PyData.int).length : Int) = L.length := by rw [List.length_map]
          walk_at "go"
          refine x_iteND (fun ha => ?_) (fun ha => ?_)
          · walk_at "go"
            refine x_setM 0 W3 rfl hj.1 (by omega) (fun H4 W4 => ?_)
            walk_at "go"
            refine ⟨S3, _, _, _, _, _, rfl, W4, by walk_at "same", by rw [List.length_set]; exact hl', fun m' h => ?_⟩
            rcases List.mem_or_eq_of_mem_set h with h | h
            · obtain ⟨m, h1, h2, h3⟩ := hm m' h
              exact ⟨m, h1, h2, by omega⟩
            · obtain ⟨m, h1, h2, h3⟩ := hm _ (nth_mem (xs := ms') hj.1 (by omega))
              exact ⟨m, h1, by omega, by omega⟩
          · walk_at "go"
            exact nxt at0
        · walk_at "go"
          exact nxt at0
    · rintro σ' H' ⟨S', ms', at0, z1, z2, z3, rfl, W', hS', hl', hm⟩
      walk_at "go"
      exact k S' H' ms' W' hS' hl' hm
end
section
variable {P : Program} {w : World} {K : PySem.W.Frag} {mg : Str → Option Value} {base : Heap} {d : Ad}
inductive Sp_law_whole : List V → Hp → VK → XK → Prop
  | mk {a : Int} {H : Hp} {Q : VK} {E : XK} (k : Q (.bl true) H) : Sp_law_whole [.int a] H Q E
theorem ok_law_whole (T : Txt K mg d) : FnOk P w K mg base CX0 1 d.a_law_whole d.f_law_whole ["_law_found"] (Sp_law_whole) := by
  refine T.F_law_whole.ok sc_law_whole (fun vs H Q E h => ?_) (fun cdv A outer s H vs Q E hr h => ?_)
  · cases h; rfl
  · have hu := hu_of hr
    obtain ⟨k⟩ := h
    rename_i a
    refine ⟨_, (pss_one (ps_ret (pe_and (pe_callB (isia (K := K) (by rfl)) (by rfl) T.b_isinstance (by decide +kernel) (pa_cons (pv 0) (pa_cons (pe_bltn (v := .ty "int") (by rfl) T.b_int (by decide +kernel) rfl) pa_nil))) (pe_one (pe_not (pe_callB (isia (K := K) (by rfl)) (by rfl) T.b_isinstance (by decide +kernel) (pa_cons (pv 0) (pa_cons (pe_bltn (v := .ty "bool") (by rfl) T.b_bool (by decide +kernel) rfl) pa_nil)))))))), ?_⟩
    try dsimp only [cxK, cxw, cxprog]
    walk_at "go"
    exact k
end
local macro_rules | `(tactic| walk_at "st") => `(tactic| (with_reducible refine Sp_law_whole.mk ?_))
section
variable {P : Program} {w : World} {K : PySem.W.Frag} {mg : Str → Option Value} {base : Heap} {d : Ad}
inductive Sp_law_wholes (K : PySem.W.Frag) : List V → Hp → VK → XK → Prop
  | mk {S : Hp} {O : List (Addr × HO)} {ns : List Int} {x : V} {H : Hp} {Q : VK} {E : XK} (W : Wd K S H O) (h : Dp K S x (.list (ns.map PyData.int))) (hl : ns.length ≤ 1000000)
    (k : ∀ S' H', Wd K S' H' O → Same S S' → Q (.bl true) H') : Sp_law_wholes K [x] H Q E
theorem ok_law_wholes (T : Txt K mg d) : FnOk P w K mg base CX0 2 d.a_law_wholes d.f_law_wholes ["_law_found"] (Sp_law_wholes K) := by
  refine T.F_law_wholes.ok sc_law_wholes (fun vs H Q E h => ?_) (fun cdv A outer s H vs Q E hr h => ?_)
  · cases h; rfl
  · have hu := hu_of hr
    obtain ⟨W, h, hl, k⟩ := h
    rename_i S O ns x
    refine ⟨_, (pss_one (ps_ret (pe_and (pe_callB (isia (K := K) (by rfl)) (by rfl) T.b_isinstance (by decide +kernel) (pa_cons (pv 0) (pa_cons (pe_bltn (v := .ty "list") (by rfl) T.b_list (by decide +kernel) rfl) pa_nil))) (pe_one (pe_callB (alla (K := K) (by rfl) rfl) (by rfl) T.b_all (by decide +kernel) (pa_cons (pe_lc (own := [("_law_one", 1)]) rfl sc_law_wholes.nd (pi_list (pv 0)) (blkOk_by (by first | decide +kernel | exact Eq.refl true)) (fun _ _ _ _ _ => pg_name (i := 1) sc_law_wholes.nd rfl (by first | exact Or.inl rfl | exact Or.inr rfl)) (fun _ _ _ _ _ => pts_nil) (fun _ _ _ _ _ => (pe_call (ok_law_whole T) (hr.mono (by decide)) (by rfl) T.g_law_whole T.k_law_whole T.p_law_whole .nil pass0 (pa_cons (pv 1) pa_nil)))) pa_nil)))))), ?_⟩
    try dsimp only [cxK, cxw, cxprog]
    walk_at "go"
    refine lc_map PyData.bool (fun _ : Int => true) W h hl (fun z S' H' R acc N hz W' hS E => kn_int ?_) (fun S' H' v W' hS hv => ?_)
    · walk_at "go"
      walk_at "ly"
    · walk_at "go"
      have e : ((ns.map fun _ => true).all id) = true := by simp
      rw [e]
      exact k S' H' W' hS
end
local macro_rules | `(tactic| walk_at "st") => `(tactic| ((with_reducible refine Sp_law_wholes.mk (by assumption) (by walk_at "is") (by walk_at "bd") ?_); intro S' H' W' hS))
section
variable {P : Program} {w : World} {K : PySem.W.Frag} {mg : Str → Option Value} {base : Heap} {d : Ad}
inductive Sp_law (K : PySem.W.Frag) : List V → Hp → VK → XK → Prop
  | mk {ns : List Int} {x : V} {H : Hp} {Q : VK} {E : XK} (h : Dp K H x (.list (ns.map PyData.int))) (k : ∀ H', Q (.bl true) H') : Sp_law K [x] H Q E
theorem ok_law (T : Txt K mg d) : FnOk P w K mg base CX0 4 d.a_law d.f_law ["_law_script"] (Sp_law K) := by
  refine T.F_law.ok sc_law (fun vs H Q E h => ?_) (fun cdv A outer s H vs Q E hr h => ?_)
  · cases h; rfl
  · have hu := hu_of hr
    obtain ⟨h, k⟩ := h
    rename_i ns x
    have W := Wd.all (K := K) H
    refine ⟨_, (pss_cons (ps_set (i := 1) sc_law.nd rfl (by first | exact Or.inl rfl | exact Or.inr rfl) (pe_call (ok_law_net T) (hr.mono (by decide)) (by rfl) T.g_law_net T.k_law_net T.p_law_net .nil pass0 (pa_cons (pv 0) (pa_cons pe_int (pa_cons (pe_un un_neg pe_int) pa_nil)))))
      (pss_cons (ps_set (i := 2) sc_law.nd rfl (by first | exact Or.inl rfl | exact Or.inr rfl) (pe_ix (ixa (K := K) (by rfl)) (pv 1) pe_int (fun _ _ => rfl)))
      (pss_cons (ps_set (i := 3) sc_law.nd rfl (by first | exact Or.inl rfl | exact Or.inr rfl) (pe_op op_mod (pe_call (ok_law_mix T) (hr.mono (by decide)) (by rfl) T.g_law_mix T.k_law_mix T.p_law_mix .nil pass0 (pa_cons (pv 0) (pa_cons pe_int pa_nil))) (pe_ix (ixa (K := K) (by rfl)) (pv 1) pe_int (fun _ _ => rfl))))
      (pss_cons (ps_set (i := 4) sc_law.nd rfl (by first | exact Or.inl rfl | exact Or.inr rfl) (pe_op op_rep (pe_lst (pa_cons pe_int pa_nil)) (pe_callB (lena (K := K) (by rfl)) (by rfl) T.b_len (by decide +kernel) (pa_cons (pv 2) pa_nil))))
      (pss_cons (ps_for PassesOwn.never rfl (pi_range1 (by rfl) T.b_range (pa_cons (pe_op op_mod (pe_call (ok_law_mix T) (hr.mono (by decide)) (by rfl) T.g_law_mix T.k_law_mix T.p_law_mix .nil pass0 (pa_cons (pv 0) (pa_cons pe_int pa_nil))) pe_int) pa_nil)) (pg_name (i := 5) sc_law.nd rfl (by first | exact Or.inl rfl | exact Or.inr rfl)) (pss_one (ps_set (i := 4) sc_law.nd rfl (by first | exact Or.inl rfl | exact Or.inr rfl) (pe_call (ok_law_walked T) (hr.mono (by decide)) (by rfl) T.g_law_walked T.k_law_walked T.p_law_walked .nil pass0 (pa_cons (pv 0) (pa_cons (pe_op op_add pe_int (pe_op op_mul pe_int (pv 5))) (pa_cons (pv 1) (pa_cons (pv 4) pa_nil))))))))
      (pss_cons (ps_if (PW.pt (pw_and (trutha (K := K) (by rfl) (pv 4) (by intro _; rfl)) (pw_and1 (pt_cmpR op_eq (pe_op op_mod (pe_call (ok_law_mix T) (hr.mono (by decide)) (by rfl) T.g_law_mix T.k_law_mix T.p_law_mix .nil pass0 (pa_cons (pv 0) (pa_cons pe_int pa_nil))) pe_int) pe_int (nomark _))))) (pss_cons (ps_set (i := 6) sc_law.nd rfl (by first | exact Or.inl rfl | exact Or.inr rfl) (pe_op op_mod (pe_call (ok_law_mix T) (hr.mono (by decide)) (by rfl) T.g_law_mix T.k_law_mix T.p_law_mix .nil pass0 (pa_cons (pv 0) (pa_cons pe_int pa_nil))) (pe_callB (lena (K := K) (by rfl)) (by rfl) T.b_len (by decide +kernel) (pa_cons (pv 4) pa_nil))))
      (pss_one (ps_asg (pe_op op_sub (pe_op op_add (pe_ix (ixa (K := K) (by rfl)) (pe_ix (ixa (K := K) (by rfl)) (pv 2) (pv 6) (fun _ _ => rfl)) pe_int (fun _ _ => rfl)) (pe_op op_mod (pe_call (ok_law_mix T) (hr.mono (by decide)) (by rfl) T.g_law_mix T.k_law_mix T.p_law_mix .nil pass0 (pa_cons (pv 0) (pa_cons pe_int pa_nil))) pe_int)) pe_int) (pg_sub (pv 4) (pv 6) set_list)))) pss_nil)
      (pss_cons (ps_set (i := 7) sc_law.nd rfl (by first | exact Or.inl rfl | exact Or.inr rfl) (pe_call (ok_law_sums T) (hr.mono (by decide)) (by rfl) T.g_law_sums T.k_law_sums T.p_law_sums .nil pass0 (pa_cons (pe_ix (ixa (K := K) (by rfl)) (pv 1) pe_int (fun _ _ => rfl)) (pa_cons (pv 2) (pa_cons (pv 4) pa_nil)))))
      (pss_cons (ps_set (i := 8) sc_law.nd rfl (by first | exact Or.inl rfl | exact Or.inr rfl) (pe_callB (alla (K := K) (by rfl) rfl) (by rfl) T.b_all (by decide +kernel) (pa_cons (pe_lc (own := [("_law_k", 5)]) rfl sc_law.nd (pi_range1 (by rfl) T.b_range (pa_cons (pe_callB (lena (K := K) (by rfl)) (by rfl) T.b_len (by decide +kernel) (pa_cons (pv 2) pa_nil)) pa_nil)) (blkOk_by (by first | decide +kernel | exact Eq.refl true)) (fun _ _ _ _ _ => pg_name (i := 5) sc_law.nd rfl (by first | exact Or.inl rfl | exact Or.inr rfl)) (fun _ _ _ _ _ => pts_nil) (fun _ _ _ _ _ => (pe_chain op_le op_le pe_int (pe_ix (ixa (K := K) (by rfl)) (pv 4) (pv 5) (fun _ _ => rfl)) (pe_ix (ixa (K := K) (by rfl)) (pe_ix (ixa (K := K) (by rfl)) (pv 2) (pv 5) (fun _ _ => rfl)) pe_int (fun _ _ => rfl))))) pa_nil)))
      (pss_cons (ps_setLc (i := 9) (own := [("_law_k", 5)]) rfl sc_law.nd rfl rfl (sw_true rfl rfl rfl (by decide +kernel)) (pi_range1 (by rfl) T.b_range (pa_cons (pe_ix (ixa (K := K) (by rfl)) (pv 1) pe_int (fun _ _ => rfl)) pa_nil)) (blkOk_by (by first | decide +kernel | exact Eq.refl true)) (fun _ _ _ _ _ => pg_name (i := 5) sc_law.nd rfl (by first | exact Or.inl rfl | exact Or.inr rfl)) (fun _ _ _ _ _ => pts_one (pt_cmpR (notIna (K := K) (by rfl)) (pv 5) (pe_tup (pa_cons pe_int (pa_cons (pv 3) pa_nil))) (by rfl))) (fun _ _ _ _ _ => (pe_ix (ixa (K := K) (by rfl)) (pv 7) (pv 5) (fun _ _ => rfl))))
      (pss_cons (ps_set (i := 8) sc_law.nd rfl (by first | exact Or.inl rfl | exact Or.inr rfl) (pe_and (pv 8) (pe_one (pe_callB (alla (K := K) (by rfl) rfl) (by rfl) T.b_all (by decide +kernel) (pa_cons (pe_lc (own := [("_law_one", 18)]) rfl sc_law.nd (pi_list (pv 9)) (blkOk_by (by first | decide +kernel | exact Eq.refl true)) (fun _ _ _ _ _ => pg_name (i := 18) sc_law.nd rfl (by first | exact Or.inl rfl | exact Or.inr rfl)) (fun _ _ _ _ _ => pts_nil) (fun _ _ _ _ _ => (pe_cmpR op_eq (pv 18) pe_int (nomark _)))) pa_nil)))))
      (pss_cons (ps_set (i := 10) sc_law.nd rfl (by first | exact Or.inl rfl | exact Or.inr rfl) (pe_call (ok_is_flow T) (hr.mono (by decide)) (by rfl) T.g_is_flow T.k_is_flow T.p_is_flow .nil pass0 (pa_cons (pe_ix (ixa (K := K) (by rfl)) (pv 1) pe_int (fun _ _ => rfl)) (pa_cons (pe_callTy (lista (K := K) (by rfl)) (by rfl) T.b_list (by decide +kernel) (pa_cons (pv 2) pa_nil)) (pa_cons pe_int (pa_cons (pv 3) (pa_cons (pe_callTy (lista (K := K) (by rfl)) (by rfl) T.b_list (by decide +kernel) (pa_cons (pv 4) pa_nil)) pa_nil)))))))
      (pss_cons (ps_if (PW.pt (pw_or (pt_not (pt_val (pe_callB (isia (K := K) (by rfl)) (by rfl) T.b_isinstance (by decide +kernel) (pa_cons (pv 10) (pa_cons (pe_bltn (v := .ty "bool") (by rfl) T.b_bool (by decide +kernel) rfl) pa_nil))))) (pw_or1 (pt_cmpR op_ne (pv 10) (pv 8) (nomark _))))) (pss_one (ps_ret pe_bl)) pss_nil)
      (pss_cons (ps_if (pt_cmpR op_notBl (pe_call (ok_is_flow T) (hr.mono (by decide)) (by rfl) T.g_is_flow T.k_is_flow T.p_is_flow .nil pass0 (pa_cons (pe_ix (ixa (K := K) (by rfl)) (pv 1) pe_int (fun _ _ => rfl)) (pa_cons (pe_callTy (lista (K := K) (by rfl)) (by rfl) T.b_list (by decide +kernel) (pa_cons (pv 2) pa_nil)) (pa_cons pe_int (pa_cons (pv 3) (pa_cons (pe_op op_catS (pv 4) (pe_lst (pa_cons pe_int pa_nil))) pa_nil)))))) pe_bl (nomark _)) (pss_one (ps_ret pe_bl)) pss_nil)
      (pss_cons (ps_set (i := 11) sc_law.nd rfl (by first | exact Or.inl rfl | exact Or.inr rfl) (pe_call (ok_size_of T) (hr.mono (by decide)) (by rfl) T.g_size_of T.k_size_of T.p_size_of .nil pass0 (pa_cons (pe_ix (ixa (K := K) (by rfl)) (pv 1) pe_int (fun _ _ => rfl)) (pa_cons (pe_callTy (lista (K := K) (by rfl)) (by rfl) T.b_list (by decide +kernel) (pa_cons (pv 2) pa_nil)) (pa_cons (pv 3) (pa_cons (pe_callTy (lista (K := K) (by rfl)) (by rfl) T.b_list (by decide +kernel) (pa_cons (pv 4) pa_nil)) pa_nil))))))
      (pss_cons (ps_setLc (i := 12) (own := [("_law_k", 5)]) rfl sc_law.nd rfl rfl (sw_true rfl rfl rfl (by decide +kernel)) (pi_range1 (by rfl) T.b_range (pa_cons (pe_ix (ixa (K := K) (by rfl)) (pv 1) pe_int (fun _ _ => rfl)) pa_nil)) (blkOk_by (by first | decide +kernel | exact Eq.refl true)) (fun _ _ _ _ _ => pg_name (i := 5) sc_law.nd rfl (by first | exact Or.inl rfl | exact Or.inr rfl)) (fun _ _ _ _ _ => pts_one (pt_cmpR op_eq (pe_op op_mod (pe_call (ok_law_mix T) (hr.mono (by decide)) (by rfl) T.g_law_mix T.k_law_mix T.p_law_mix .nil pass0 (pa_cons (pv 0) (pa_cons (pe_op op_add pe_int (pv 5)) pa_nil))) pe_int) pe_int (nomark _))) (fun _ _ _ _ _ => (pv 5)))
      (pss_cons (ps_set (i := 13) sc_law.nd rfl (by first | exact Or.inl rfl | exact Or.inr rfl) pe_int)
      (pss_cons (ps_set (i := 14) sc_law.nd rfl (by first | exact Or.inl rfl | exact Or.inr rfl) pe_int)
      (pss_cons (ps_for PassesOwn.never rfl (pi_range1 (by rfl) T.b_range (pa_cons (pe_callB (lena (K := K) (by rfl)) (by rfl) T.b_len (by decide +kernel) (pa_cons (pv 2) pa_nil)) pa_nil)) (pg_name (i := 5) sc_law.nd rfl (by first | exact Or.inl rfl | exact Or.inr rfl)) (pss_cons (ps_if (PW.pt (pw_and (pt_cmpR (ina (K := K) (by rfl)) (pe_ix (ixa (K := K) (by rfl)) (pe_ix (ixa (K := K) (by rfl)) (pv 2) (pv 5) (fun _ _ => rfl)) pe_int (fun _ _ => rfl)) (pv 12) (by rfl)) (pw_and1 (pt_cmpR (notIna (K := K) (by rfl)) (pe_ix (ixa (K := K) (by rfl)) (pe_ix (ixa (K := K) (by rfl)) (pv 2) (pv 5) (fun _ _ => rfl)) pe_int (fun _ _ => rfl)) (pv 12) (by rfl))))) (pss_one (ps_set (i := 13) sc_law.nd rfl (by first | exact Or.inl rfl | exact Or.inr rfl) (pe_op op_add (pv 13) (pe_ix (ixa (K := K) (by rfl)) (pe_ix (ixa (K := K) (by rfl)) (pv 2) (pv 5) (fun _ _ => rfl)) pe_int (fun _ _ => rfl))))) pss_nil)
      (pss_one (ps_set (i := 14) sc_law.nd rfl (by first | exact Or.inl rfl | exact Or.inr rfl) (pe_op op_add (pv 14) (pe_op op_mulW (pe_ix (ixa (K := K) (by rfl)) (pe_ix (ixa (K := K) (by rfl)) (pv 2) (pv 5) (fun _ _ => rfl)) pe_int (fun _ _ => rfl)) (pe_ix (ixa (K := K) (by rfl)) (pv 4) (pv 5) (fun _ _ => rfl))))))))
      (pss_cons (ps_set (i := 15) sc_law.nd rfl (by first | exact Or.inl rfl | exact Or.inr rfl) (pe_call (ok_cut_size T) (hr.mono (by decide)) (by rfl) T.g_cut_size T.k_cut_size T.p_cut_size .nil pass0 (pa_cons (pe_callTy (lista (K := K) (by rfl)) (by rfl) T.b_list (by decide +kernel) (pa_cons (pv 2) pa_nil)) (pa_cons (pe_callTy (lista (K := K) (by rfl)) (by rfl) T.b_list (by decide +kernel) (pa_cons (pv 12) pa_nil)) pa_nil))))
      (pss_cons (ps_set (i := 16) sc_law.nd rfl (by first | exact Or.inl rfl | exact Or.inr rfl) (pe_call (ok_cost_of T) (hr.mono (by decide)) (by rfl) T.g_cost_of T.k_cost_of T.p_cost_of .nil pass0 (pa_cons (pe_callTy (lista (K := K) (by rfl)) (by rfl) T.b_list (by decide +kernel) (pa_cons (pv 2) pa_nil)) (pa_cons (pe_callTy (lista (K := K) (by rfl)) (by rfl) T.b_list (by decide +kernel) (pa_cons (pv 4) pa_nil)) pa_nil))))
      (pss_cons (ps_set (i := 17) sc_law.nd rfl (by first | exact Or.inl rfl | exact Or.inr rfl) (pe_lst (pa_cons (pv 11) (pa_cons (pv 15) (pa_cons (pv 16) pa_nil)))))
      (pss_one (ps_ret (pe_and (pe_call (ok_law_wholes T) (hr.mono (by decide)) (by rfl) T.g_law_wholes T.k_law_wholes T.p_law_wholes .nil pass0 (pa_cons (pv 17) pa_nil)) (pe_one (pe_cmpR (eqDa (K := K) (by rfl) hr.units) (pv 17) (pe_lst (pa_cons (pe_ix (ixa (K := K) (by rfl)) (pv 7) (pv 3) (fun _ _ => rfl)) (pa_cons (pv 13) (pa_cons (pv 14) pa_nil)))) (nomark _))))))))))))))))))))))))))), ?_⟩
    try dsimp only [cxK, cxw, cxprog]
    walk_at "go"
    refine .mk W h (fun S1 H1 v1 W1 hS1 hn => ?_)
    have hP1 := netP_lo ns 0
    have hP2 := netP_hi ns 0
    have hok := netA_ok (ns := ns) (b := 0) (l := -9)
    have hlen := netA_len ns 0 (-9)
    generalize netP ns 0 = P at *
    generalize netA ns 0 (-9) = as at *
    have hx1 : Dp K S1 x (.list (ns.map PyData.int)) := dp_mono hS1 h
    have hmod := cdivw_of (i := 0) (b := 9) (show 0 < P by omega) (show P.natAbs < _ by omega)
    walk_at "go"
    refine x_own W1 (by simp) (fun p H2 W2 => ?_)
    walk_at "go"
    refine x_repI W2 (by rw [List.length_map]; omega) (by rw [List.length_map]; omega) (fun S2 H3 q W3 hS2 => ?_)
    have e0 : ((as.map arcD).length : Int).toNat = as.length := by rw [List.length_map]; exact Int.toNat_natCast _
    rw [e0] at W3
    have g0 := Int.emod_nonneg (mix ns 40) (show P ≠ 0 by omega)
    have g1 := Int.emod_lt_of_pos (mix ns 40) (show 0 < P by omega)
    generalize mix ns 40 % P = g at *
    have m0 := Int.emod_nonneg (mix ns 41) (show (3 : Int) ≠ 0 by decide)
    have m1 := Int.emod_lt_of_pos (mix ns 41) (show (0 : Int) < 3 by decide)
    walk_at "go"
    rename_i va hva
    refine x_forN (fun i σ' H' => ∃ S', ∃ ms : List Int, ∃ z5 : Option V, σ' = [some x, some v1, some va, some (.int g), some (.ref q), z5, none, none, none, none, none, none, none, none, none, none, none, none, none] ∧ Wd K S' H' [(q, .lst (ms.map V.int))] ∧ Same S2 S' ∧ ms.length = as.length ∧ ∀ m ∈ ms, 0 ≤ m ∧ m ≤ 6 * i)
      ⟨by omega, by omega⟩ ⟨S2, _, _, rfl, W3, Same.refl _, List.length_replicate, fun m hm => by rw [(List.mem_replicate.mp hm).2]; omega⟩ ?_ ?_
    · rintro i σ' H' hi ⟨S', ms, z5, rfl, W', hS', hl, hm⟩
      walk_at "go"
      refine .mk W' (by walk_at "is") (by walk_at "is") hl.symm (by omega) (fun S4 H4 ms' W4 hS4 hl4 hm4 => ?_)
      walk_at "go"
      refine ⟨S4, ms', _, rfl, W4, by walk_at "same", by omega, fun m' hm' => ?_⟩
      obtain ⟨m, h1, h2, h3⟩ := hm4 m' hm'
      have := hm m h1
      omega
    rintro σ' H' ⟨S', ms, z5, rfl, W', hS', hl, hm⟩
    have hm' : ∀ m ∈ ms, -1 ≤ m ∧ m ≤ 10 ^ 30 + 1 := fun m h => by
      have := hm m h
      omega
    walk_at "g"
    refine x_ifJ (fun σ' H' => ∃ S', ∃ ms : List Int, ∃ z6 : Option V, σ' = [some x, some v1, some va, some (.int g), some (.ref q), z5, z6, none, none, none, none, none, none, none, none, none, none, none, none] ∧ Wd K S' H' [(q, .lst (ms.map V.int))] ∧ Same S2 S' ∧ ms.length = as.length ∧ ∀ m ∈ ms, -1 ≤ m ∧ m ≤ 10 ^ 30 + 1) ?_ ?_
    · intro nx' hnx
      have keep : ∀ H', Wd K S' H' [(q, .lst (ms.map V.int))] → nx' [some x, some v1, some va, some (.int g), some (.ref q), z5, none, none, none, none, none, none, none, none, none, none, none, none, none] H' := fun H' W' => hnx _ _ ⟨S', ms, _, rfl, W', hS', hl, hm'⟩
      walk_at "go"
      refine x_iteN (fun he => ?_) (fun he => ?_)
      · have hl0 : 0 < (ms.map V.int).length := by
          cases ms with
          | nil => simp at he
          | cons a r => simp
        walk_at "go"
        refine x_iteD (fun h3 => ?_) (fun h3 => ?_)
        · have j0 := Int.emod_nonneg (mix ns 61) (show (((ms.map V.int).length : Nat) : Int) ≠ 0 by omega)
          have j1 := Int.emod_lt_of_pos (mix ns 61) (show (0 : Int) < (((ms.map V.int).length : Nat) : Int) by omega)
          have e1 : ((ms.map V.int).length : Int) = ms.length := by rw [List.length_map]
          walk_at "go"
          refine x_setM 0 W' rfl j0 (by omega) (fun H4 W4 => ?_)
          walk_at "go"
          refine hnx _ _ ⟨S', _, _, rfl, W4, hS', by rw [List.length_set]; exact hl, fun m h => ?_⟩
          rcases List.mem_or_eq_of_mem_set h with h | h
          · exact hm' m h
          · have hr := hok _ (nth_mem (xs := as) j0 (by omega))
            have r0 := Int.emod_nonneg (mix ns 62) (show (3 : Int) ≠ 0 by decide)
            have r1 := Int.emod_lt_of_pos (mix ns 62) (show (0 : Int) < 3 by decide)
            omega
        · walk_at "go"
          exact keep _ W'
      · walk_at "go"
        exact keep _ W'
    clear hm hm' hl W' hS' S' ms
    rintro σ' H' ⟨S', ms, z6, rfl, W', hS', hl, hm⟩
    refine x_giveI W' (fun S5 W5 hS5 hv5 => ?_)
    have hA5 : Dp K S5 va (.list (as.map arcD)) := by walk_at "is"
    walk_at "go"
    refine .mk W5 hA5 hv5 (by omega) (by omega) hl.symm (by omega) (fun a ha => (hok a ha).1) (fun S6 H6 v7 W6 hS6 hv7 => ?_)
    have hA6 : Dp K S6 va (.list (as.map arcD)) := dp_mono hS6 hA5
    have hv6 : Dp K S6 (.ref q) (.list (ms.map PyData.int)) := dp_mono hS6 hv5
    have hsl : (sums P as ms).length = P.toNat := sumsOf_len _ _
    walk_at "go"
    refine lcr_map PyData.bool (fun k : Nat => amtOk (nth as (k : Int), nth ms (k : Int))) W6 ⟨by omega, by rw [List.length_map]; omega⟩ (fun j S' H' R acc N hj W' hS E => ?_) (fun S7 H7 v8 W7 hS7 hv8 => ?_)
    · have hj' : j < as.length := by
        rw [List.length_map] at hj
        omega
      walk_at "go"
      refine x_iteD (fun h0 => ?_) (fun h0 => ?_)
      · have e : amtOk (nth as (j : Int), nth ms (j : Int)) = decide (nth ms (j : Int) ≤ (nth as (j : Int)).r) := by simp [amtOk, h0]
        rw [e] at E
        walk_at "go"
        walk_at "ly"
      · have e : amtOk (nth as (j : Int), nth ms (j : Int)) = false := by simp [amtOk, h0]
        rw [e] at E
        walk_at "go"
        walk_at "ly"
    rw [List.length_map, Int.toNat_natCast] at hv8
    walk_at "go"
    refine lcr_filt PyData.int (fun k : Nat => !decide ((k : Int) ∈ [0, g])) (fun k : Nat => nth (sums P as ms) (k : Int)) W7 ⟨by omega, by omega⟩ (fun j S' H' R acc N hj W' hS E => ?_) (fun S8 H8 v9 W8 hS8 hv9 => ?_)
    · walk_at "go"
      refine x_inT (ns := [0, g]) (by assumption) (by assumption) ?_
      walk_at "go"
      refine x_ite (fun hc => ?_) (fun hc => ?_)
      · walk_at "go"
        walk_at "lyp"
      · walk_at "lnp"
    walk_at "g"
    refine x_cutV (fun v H' => v = .bl (isFlow P as 0 g ms) ∧ ∃ S', Wd K S' H' [] ∧ Same S8 S') ?_ ?_
    · intro Q' hQ
      walk_at "go"
      rw [isFlow_eq hl.symm] at hQ
      refine x_ite (fun hc => ?_) (fun hc => ?_)
      · rw [hc, Bool.true_and] at hQ
        walk_at "go"
        refine lc_map PyData.bool (fun z : Int => decide (z = 0)) W8 hv9 (by rw [List.length_map]; have := List.length_filter_le (fun k : Nat => !decide ((k : Int) ∈ [0, g])) (List.range P.toNat); rw [List.length_range] at this; omega) (fun z S' H' R acc N hz W' hS E => kn_int ?_) (fun S9 H9 v10 W9 hS9 hv10 => ?_)
        · walk_at "go"
          walk_at "ly"
        · walk_at "go"
          exact hQ _ _ ⟨rfl, S9, W9, hS9⟩
      · rw [hc, Bool.false_and] at hQ
        walk_at "go"
        exact hQ _ _ ⟨rfl, S8, W8, Same.refl _⟩
    rintro v H' ⟨rfl, S9, W9, hS9⟩
    have hA9 : Dp K S9 va (.list (as.map arcD)) := by walk_at "is"
    have hv9' : Dp K S9 (.ref q) (.list (ms.map PyData.int)) := by walk_at "is"
    have oka : ∀ a ∈ as, ArcOk P a := fun a ha => (hok a ha).1
    walk_at "go"
    refine .mk (by assumption) (by walk_at "is") (by walk_at "is") (by omega) (by omega) (by omega) oka (fun S10 H10 W10 hS10 => ?_)
    walk_at "go"
    refine x_iteND (fun h => absurd rfl h) (fun _ => ?_)
    walk_at "go"
    refine' x_lst (ds := ([0] : List Int).map PyData.int) (by assumption) (dpAll_ints [0]) (by simp) (fun S11 H11 v11 W11 hS11 hv11 => ?_)
    walk_at "go"
    refine x_catS W11 (ds := ms.map PyData.int) (by walk_at "is") hv11 (by simp; omega) (fun S12 H12 v12 W12 hS12 hv12 => ?_)
    rw [← List.map_append] at hv12
    walk_at "go"
    refine .mk W12 (by walk_at "is") hv12 (by omega) (by omega) (by omega) oka (fun S13 H13 W13 hS13 => ?_)
    walk_at "go"
    refine x_iteND (fun h => absurd (isFlow_len (by simp; omega)) h) (fun _ => ?_)
    walk_at "go"
    refine .mk (by assumption) (by walk_at "is") (by walk_at "is") (by omega) (by omega) hl.symm (by omega) oka g0 g1 (fun S14 H14 W14 hS14 => ?_)
    walk_at "go"
    refine lcr_filt PyData.int (fun j : Nat => decide (mix ns (54 + (j : Int)) % 2 = 0)) (fun j : Nat => (j : Int)) W14 ⟨by omega, by omega⟩ (fun j S' H' R acc N hj W' hS E => ?_) (fun S15 H15 v15 W15 hS15 hv15 => ?_)
    · walk_at "go"
      refine x_ite (fun hc => ?_) (fun hc => ?_)
      · walk_at "go"
        walk_at "lyp"
      · walk_at "lnp"
    have hL : (((List.range P.toNat).filter fun j : Nat => decide (mix ns (54 + (j : Int)) % 2 = 0)).map fun j : Nat => (j : Int)).length ≤ 1000 := by
      rw [List.length_map]
      have := List.length_filter_le (fun j : Nat => decide (mix ns (54 + (j : Int)) % 2 = 0)) (List.range P.toNat)
      rw [List.length_range] at this
      omega
    generalize (((List.range P.toNat).filter fun j : Nat => decide (mix ns (54 + (j : Int)) % 2 = 0)).map fun j : Nat => (j : Int)) = L at *
    have hA15 : Dp K S15 va (.list (as.map arcD)) := by walk_at "is"
    have hM15 : Dp K S15 (.ref q) (.list (ms.map PyData.int)) := by walk_at "is"
    walk_at "go"
    refine x_forNL (fun i σ' H' => ∃ z5' : Option V, σ' = [some x, some v1, some va, some (.int g), some (.ref q), z5', z6, some v7, some (.bl (isFlow P as 0 g ms)), some v9, some (.bl (isFlow P as 0 g ms)), some (.int (nth (sums P as ms) g)), some v15, some (.int ((as.take i).map (cutStep L)).sum), some (.int (((as.zip ms).take i).map fun p => p.1.c * p.2).sum), none, none, none, none] ∧ Wd K S15 H' [])
      (by omega) ⟨_, rfl, W15⟩ ?_ ?_
    · rintro i σ' H' hi ⟨z5', rfl, W'⟩
      have ei := nth_get (xs := as) (i := (i : Int)) (by omega) (by omega)
      have em := nth_get (xs := ms) (i := (i : Int)) (by omega) (by omega)
      have hmul : CMulW (nth as (i : Int)).c (nth ms (i : Int)) := by
        have h1 := hok _ (List.mem_of_getElem? ei)
        have h2 := hm _ (List.mem_of_getElem? em)
        exact cmulw_of (a := 100) (b := 100) (show _ < _ by omega) (show _ < _ by omega)
      rw [Int.toNat_natCast] at ei em
      rw [sum_take (zip_get ei em)]
      have es := sum_take (f := cutStep L) ei
      walk_at "g"
      refine x_ifJ (fun σ' H' => σ' = [some x, some v1, some va, some (.int g), some (.ref q), some (.int (i : Int)), z6, some v7, some (.bl (isFlow P as 0 g ms)), some v9, some (.bl (isFlow P as 0 g ms)), some (.int (nth (sums P as ms) g)), some v15, some (.int ((as.take (i + 1)).map (cutStep L)).sum), some (.int (((as.zip ms).take i).map fun p => p.1.c * p.2).sum), none, none, none, none] ∧ Wd K S15 H' []) ?_ ?_
      · intro nx' hnx
        have no : leaves L (nth as (i : Int)) = false → nx' [some x, some v1, some va, some (.int g), some (.ref q), some (.int (i : Int)), z6, some v7, some (.bl (isFlow P as 0 g ms)), some v9, some (.bl (isFlow P as 0 g ms)), some (.int (nth (sums P as ms) g)), some v15, some (.int ((as.take i).map (cutStep L)).sum), some (.int (((as.zip ms).take i).map fun p => p.1.c * p.2).sum), none, none, none, none] H' := fun h => by
          refine hnx _ _ ⟨?_, W'⟩
          rw [es, cutStep, if_neg (ne_true h), Int.add_zero]
        walk_at "go"
        refine x_inL W' hv15 ?_
        walk_at "go"
        refine x_iteD (fun h1 => ?_) (fun h1 => ?_)
        · walk_at "go"
          refine x_inL W' hv15 ?_
          walk_at "go"
          refine x_iteND (fun h2 => ?_) (fun h2 => ?_)
          · walk_at "go"
            refine hnx _ _ ⟨?_, W'⟩
            rw [es, cutStep, if_pos (by simp [leaves, h1, h2])]
            rfl
          · walk_at "go"
            exact no (by simp [leaves, h2])
        · walk_at "go"
          exact no (by simp [leaves, h1])
      · rintro σ' H' ⟨rfl, W'⟩
        walk_at "go"
        exact ⟨_, rfl, W'⟩
    rintro σ' H' ⟨z5', rfl, W'⟩
    rw [List.take_length, List.take_of_length_le (by rw [List.length_zip]; omega)]
    walk_at "go"
    refine .mk (by assumption) (by walk_at "is") (by walk_at "is") (by omega) (fun S16 H16 W16 hS16 => ?_)
    walk_at "go"
    refine .mk (by assumption) (by walk_at "is") (by walk_at "is") hl.symm (by omega) (fun p hp => ?_) (fun S17 H17 W17 hS17 => ?_)
    · have h1 := hok p.1 (List.of_mem_zip hp).1
      have h2 := hm p.2 (List.of_mem_zip hp).2
      exact cmulw_of (a := 100) (b := 100) (show _ < _ by omega) (show _ < _ by omega)
    walk_at "go"
    refine' x_lst (ds := ([nth (sums P as ms) g, cutSize as L, costOf as ms] : List Int).map PyData.int) (by assumption) (dpAll_ints [nth (sums P as ms) g, cutSize as L, costOf as ms]) (by simp) (fun S18 H18 v18 W18 hS18 hv18 => ?_)
    walk_at "go"
    refine .mk W18 hv18 (by simp) (fun S19 H19 W19 hS19 => ?_)
    walk_at "go"
    refine' x_lst (ds := ([nth (sums P as ms) g, cutSize as L, costOf as ms] : List Int).map PyData.int) (by assumption) (by rw [cutSize_eq]; exact dpAll_ints [nth (sums P as ms) g, (as.map (cutStep L)).sum, costOf as ms]) (by simp) (fun S20 H20 v20 W20 hS20 hv20 => ?_)
    walk_at "go"
    refine x_eqD W20 (by walk_at "is") hv20 (shp_map (n := 63) (f := PyData.int) fun z => shp_int z) (shp_map (n := 63) (f := PyData.int) fun z => shp_int z) ?_
    rw [eqv_map eqv_int, decide_eq_true rfl]
    exact k _
end
end SB
namespace SB
open PySem PySem.Spec PyProof.Rows L2
theorem all_mk {K : PySem.W.Frag} {h : Heap} {mg : Str → Option Value} {fa f_sums f_is_flow f_size_of f_cut_size f_cost_of f_law_cell f_law_mix f_law_whole f_law_wholes f_law_number f_law_net f_law_sums f_law_walked f_law : Addr}
    {od_sums an_sums : Option Addr} {sl_sums : Array (Option Value)} {oc_sums kV_sums dc_sums pm_sums cd_sums ct_sums : Value}
    {od_is_flow an_is_flow : Option Addr} {sl_is_flow : Array (Option Value)} {oc_is_flow kV_is_flow dc_is_flow pm_is_flow cd_is_flow ct_is_flow : Value}
    {od_size_of an_size_of : Option Addr} {sl_size_of : Array (Option Value)} {oc_size_of kV_size_of dc_size_of pm_size_of cd_size_of ct_size_of : Value}
    {od_cut_size an_cut_size : Option Addr} {sl_cut_size : Array (Option Value)} {oc_cut_size kV_cut_size dc_cut_size pm_cut_size cd_cut_size ct_cut_size : Value}
    {od_cost_of an_cost_of : Option Addr} {sl_cost_of : Array (Option Value)} {oc_cost_of kV_cost_of dc_cost_of pm_cost_of cd_cost_of ct_cost_of : Value}
    {od_law_cell an_law_cell : Option Addr} {sl_law_cell : Array (Option Value)} {oc_law_cell kV_law_cell dc_law_cell pm_law_cell cd_law_cell ct_law_cell : Value}
    {od_law_mix an_law_mix : Option Addr} {sl_law_mix : Array (Option Value)} {oc_law_mix kV_law_mix dc_law_mix pm_law_mix cd_law_mix ct_law_mix : Value}
    {od_law_whole an_law_whole : Option Addr} {sl_law_whole : Array (Option Value)} {oc_law_whole kV_law_whole dc_law_whole pm_law_whole cd_law_whole ct_law_whole : Value}
    {od_law_wholes an_law_wholes : Option Addr} {sl_law_wholes : Array (Option Value)} {oc_law_wholes kV_law_wholes dc_law_wholes pm_law_wholes cd_law_wholes ct_law_wholes : Value}
    {od_law_number an_law_number : Option Addr} {sl_law_number : Array (Option Value)} {oc_law_number kV_law_number dc_law_number pm_law_number cd_law_number ct_law_number : Value}
    {od_law_net an_law_net : Option Addr} {sl_law_net : Array (Option Value)} {oc_law_net kV_law_net dc_law_net pm_law_net cd_law_net ct_law_net : Value}
    {od_law_sums an_law_sums : Option Addr} {sl_law_sums : Array (Option Value)} {oc_law_sums kV_law_sums dc_law_sums pm_law_sums cd_law_sums ct_law_sums : Value}
    {od_law_walked an_law_walked : Option Addr} {sl_law_walked : Array (Option Value)} {oc_law_walked kV_law_walked dc_law_walked pm_law_walked cd_law_walked ct_law_walked : Value}
    {od_law an_law : Option Addr} {sl_law : Array (Option Value)} {oc_law kV_law dc_law pm_law cd_law ct_law : Value} (X : K.In h) (G : h.Ns mainGlobals mg) (hfa : mg "law" = some (.ref fa))
    (A_sums : PySem.W.nsIn K mainGlobals "sums" = some (some (.ref f_sums)))
    (L_sums : K.lookup f_sums = some ⟨oc_sums, od_sums, .func (PySem.W.fnOf "sums" "sums" (defArgs s_sums) (defBody s_sums) (defScope s_sums) .none kV_sums dc_sums pm_sums an_sums cd_sums ct_sums), sl_sums⟩)
    (C_sums : PySem.W.codeIn K cd_sums "sums" = true)
    (K_sums : PySem.W.keepIn K (.ref f_sums) = true)
    (A_is_flow : PySem.W.nsIn K mainGlobals "is_flow" = some (some (.ref f_is_flow)))
    (L_is_flow : K.lookup f_is_flow = some ⟨oc_is_flow, od_is_flow, .func (PySem.W.fnOf "is_flow" "is_flow" (defArgs s_is_flow) (defBody s_is_flow) (defScope s_is_flow) .none kV_is_flow dc_is_flow pm_is_flow an_is_flow cd_is_flow ct_is_flow), sl_is_flow⟩)
    (C_is_flow : PySem.W.codeIn K cd_is_flow "is_flow" = true)
    (K_is_flow : PySem.W.keepIn K (.ref f_is_flow) = true)
    (A_size_of : PySem.W.nsIn K mainGlobals "size_of" = some (some (.ref f_size_of)))
    (L_size_of : K.lookup f_size_of = some ⟨oc_size_of, od_size_of, .func (PySem.W.fnOf "size_of" "size_of" (defArgs s_size_of) (defBody s_size_of) (defScope s_size_of) .none kV_size_of dc_size_of pm_size_of an_size_of cd_size_of ct_size_of), sl_size_of⟩)
    (C_size_of : PySem.W.codeIn K cd_size_of "size_of" = true)
    (K_size_of : PySem.W.keepIn K (.ref f_size_of) = true)
    (A_cut_size : PySem.W.nsIn K mainGlobals "cut_size" = some (some (.ref f_cut_size)))
    (L_cut_size : K.lookup f_cut_size = some ⟨oc_cut_size, od_cut_size, .func (PySem.W.fnOf "cut_size" "cut_size" (defArgs s_cut_size) (defBody s_cut_size) (defScope s_cut_size) .none kV_cut_size dc_cut_size pm_cut_size an_cut_size cd_cut_size ct_cut_size), sl_cut_size⟩)
    (C_cut_size : PySem.W.codeIn K cd_cut_size "cut_size" = true)
    (K_cut_size : PySem.W.keepIn K (.ref f_cut_size) = true)
    (A_cost_of : PySem.W.nsIn K mainGlobals "cost_of" = some (some (.ref f_cost_of)))
    (L_cost_of : K.lookup f_cost_of = some ⟨oc_cost_of, od_cost_of, .func (PySem.W.fnOf "cost_of" "cost_of" (defArgs s_cost_of) (defBody s_cost_of) (defScope s_cost_of) .none kV_cost_of dc_cost_of pm_cost_of an_cost_of cd_cost_of ct_cost_of), sl_cost_of⟩)
    (C_cost_of : PySem.W.codeIn K cd_cost_of "cost_of" = true)
    (K_cost_of : PySem.W.keepIn K (.ref f_cost_of) = true)
    (A_law_cell : PySem.W.nsIn K mainGlobals "_law_cell" = some (some (.ref f_law_cell)))
    (L_law_cell : K.lookup f_law_cell = some ⟨oc_law_cell, od_law_cell, .func (PySem.W.fnOf "_law_cell" "_law_cell" (defArgs s_law_cell) (defBody s_law_cell) (defScope s_law_cell) .none kV_law_cell dc_law_cell pm_law_cell an_law_cell cd_law_cell ct_law_cell), sl_law_cell⟩)
    (C_law_cell : PySem.W.codeIn K cd_law_cell "_law_cell" = true)
    (K_law_cell : PySem.W.keepIn K (.ref f_law_cell) = true)
    (A_law_mix : PySem.W.nsIn K mainGlobals "_law_mix" = some (some (.ref f_law_mix)))
    (L_law_mix : K.lookup f_law_mix = some ⟨oc_law_mix, od_law_mix, .func (PySem.W.fnOf "_law_mix" "_law_mix" (defArgs s_law_mix) (defBody s_law_mix) (defScope s_law_mix) .none kV_law_mix dc_law_mix pm_law_mix an_law_mix cd_law_mix ct_law_mix), sl_law_mix⟩)
    (C_law_mix : PySem.W.codeIn K cd_law_mix "_law_mix" = true)
    (K_law_mix : PySem.W.keepIn K (.ref f_law_mix) = true)
    (A_law_whole : PySem.W.nsIn K mainGlobals "_law_whole" = some (some (.ref f_law_whole)))
    (L_law_whole : K.lookup f_law_whole = some ⟨oc_law_whole, od_law_whole, .func (PySem.W.fnOf "_law_whole" "_law_whole" (defArgs s_law_whole) (defBody s_law_whole) (defScope s_law_whole) .none kV_law_whole dc_law_whole pm_law_whole an_law_whole cd_law_whole ct_law_whole), sl_law_whole⟩)
    (C_law_whole : PySem.W.codeIn K cd_law_whole "_law_whole" = true)
    (K_law_whole : PySem.W.keepIn K (.ref f_law_whole) = true)
    (A_law_wholes : PySem.W.nsIn K mainGlobals "_law_wholes" = some (some (.ref f_law_wholes)))
    (L_law_wholes : K.lookup f_law_wholes = some ⟨oc_law_wholes, od_law_wholes, .func (PySem.W.fnOf "_law_wholes" "_law_wholes" (defArgs s_law_wholes) (defBody s_law_wholes) (defScope s_law_wholes) .none kV_law_wholes dc_law_wholes pm_law_wholes an_law_wholes cd_law_wholes ct_law_wholes), sl_law_wholes⟩)
    (C_law_wholes : PySem.W.codeIn K cd_law_wholes "_law_wholes" = true)
    (K_law_wholes : PySem.W.keepIn K (.ref f_law_wholes) = true)
    (A_law_number : PySem.W.nsIn K mainGlobals "_law_number" = some (some (.ref f_law_number)))
    (L_law_number : K.lookup f_law_number = some ⟨oc_law_number, od_law_number, .func (PySem.W.fnOf "_law_number" "_law_number" (defArgs s_law_number) (defBody s_law_number) (defScope s_law_number) .none kV_law_number dc_law_number pm_law_number an_law_number cd_law_number ct_law_number), sl_law_number⟩)
    (C_law_number : PySem.W.codeIn K cd_law_number "_law_number" = true)
    (K_law_number : PySem.W.keepIn K (.ref f_law_number) = true)
    (A_law_net : PySem.W.nsIn K mainGlobals "_law_net" = some (some (.ref f_law_net)))
    (L_law_net : K.lookup f_law_net = some ⟨oc_law_net, od_law_net, .func (PySem.W.fnOf "_law_net" "_law_net" (defArgs s_law_net) (defBody s_law_net) (defScope s_law_net) .none kV_law_net dc_law_net pm_law_net an_law_net cd_law_net ct_law_net), sl_law_net⟩)
    (C_law_net : PySem.W.codeIn K cd_law_net "_law_net" = true)
    (K_law_net : PySem.W.keepIn K (.ref f_law_net) = true)
    (A_law_sums : PySem.W.nsIn K mainGlobals "_law_sums" = some (some (.ref f_law_sums)))
    (L_law_sums : K.lookup f_law_sums = some ⟨oc_law_sums, od_law_sums, .func (PySem.W.fnOf "_law_sums" "_law_sums" (defArgs s_law_sums) (defBody s_law_sums) (defScope s_law_sums) .none kV_law_sums dc_law_sums pm_law_sums an_law_sums cd_law_sums ct_law_sums), sl_law_sums⟩)
    (C_law_sums : PySem.W.codeIn K cd_law_sums "_law_sums" = true)
    (K_law_sums : PySem.W.keepIn K (.ref f_law_sums) = true)
    (A_law_walked : PySem.W.nsIn K mainGlobals "_law_walked" = some (some (.ref f_law_walked)))
    (L_law_walked : K.lookup f_law_walked = some ⟨oc_law_walked, od_law_walked, .func (PySem.W.fnOf "_law_walked" "_law_walked" (defArgs s_law_walked) (defBody s_law_walked) (defScope s_law_walked) .none kV_law_walked dc_law_walked pm_law_walked an_law_walked cd_law_walked ct_law_walked), sl_law_walked⟩)
    (C_law_walked : PySem.W.codeIn K cd_law_walked "_law_walked" = true)
    (K_law_walked : PySem.W.keepIn K (.ref f_law_walked) = true)
    (A_law : PySem.W.nsIn K mainGlobals "law" = some (some (.ref f_law)))
    (L_law : K.lookup f_law = some ⟨oc_law, od_law, .func (PySem.W.fnOf "law" "law" (defArgs s_law) (defBody s_law) (defScope s_law) .none kV_law dc_law pm_law an_law cd_law ct_law), sl_law⟩)
    (C_law : PySem.W.codeIn K cd_law "law" = true)
    (K_law : PySem.W.keepIn K (.ref f_law) = true)
    (z_all : PySem.W.nsIn K mainGlobals "all" = some none)
    (z_bool : PySem.W.nsIn K mainGlobals "bool" = some none)
    (z_int : PySem.W.nsIn K mainGlobals "int" = some none)
    (z_isinstance : PySem.W.nsIn K mainGlobals "isinstance" = some none)
    (z_len : PySem.W.nsIn K mainGlobals "len" = some none)
    (z_list : PySem.W.nsIn K mainGlobals "list" = some none)
    (z_max : PySem.W.nsIn K mainGlobals "max" = some none)
    (z_range : PySem.W.nsIn K mainGlobals "range" = some none)
    (z_sum : PySem.W.nsIn K mainGlobals "sum" = some none)
    (z_zip : PySem.W.nsIn K mainGlobals "zip" = some none)
    : ∃ d : Ad, Txt K mg d ∧ d.a_law = fa ∧ ∀ (s : Shared) (u : Value), BindsTo s d.f_law ⟨[u], []⟩ [("_law_script", u)] := by
  have e : f_law = fa := Value.ref.inj (Option.some.inj ((PySem.W.mg_of X G A_law).symm.trans hfa))
  subst e
  refine ⟨{
    a_sums := f_sums
    f_sums := PySem.W.fnOf "sums" "sums" (defArgs s_sums) (defBody s_sums) (defScope s_sums) .none kV_sums dc_sums pm_sums an_sums cd_sums ct_sums
    a_is_flow := f_is_flow
    f_is_flow := PySem.W.fnOf "is_flow" "is_flow" (defArgs s_is_flow) (defBody s_is_flow) (defScope s_is_flow) .none kV_is_flow dc_is_flow pm_is_flow an_is_flow cd_is_flow ct_is_flow
    a_size_of := f_size_of
    f_size_of := PySem.W.fnOf "size_of" "size_of" (defArgs s_size_of) (defBody s_size_of) (defScope s_size_of) .none kV_size_of dc_size_of pm_size_of an_size_of cd_size_of ct_size_of
    a_cut_size := f_cut_size
    f_cut_size := PySem.W.fnOf "cut_size" "cut_size" (defArgs s_cut_size) (defBody s_cut_size) (defScope s_cut_size) .none kV_cut_size dc_cut_size pm_cut_size an_cut_size cd_cut_size ct_cut_size
    a_cost_of := f_cost_of
    f_cost_of := PySem.W.fnOf "cost_of" "cost_of" (defArgs s_cost_of) (defBody s_cost_of) (defScope s_cost_of) .none kV_cost_of dc_cost_of pm_cost_of an_cost_of cd_cost_of ct_cost_of
    a_law_cell := f_law_cell
    f_law_cell := PySem.W.fnOf "_law_cell" "_law_cell" (defArgs s_law_cell) (defBody s_law_cell) (defScope s_law_cell) .none kV_law_cell dc_law_cell pm_law_cell an_law_cell cd_law_cell ct_law_cell
    a_law_mix := f_law_mix
    f_law_mix := PySem.W.fnOf "_law_mix" "_law_mix" (defArgs s_law_mix) (defBody s_law_mix) (defScope s_law_mix) .none kV_law_mix dc_law_mix pm_law_mix an_law_mix cd_law_mix ct_law_mix
    a_law_whole := f_law_whole
    f_law_whole := PySem.W.fnOf "_law_whole" "_law_whole" (defArgs s_law_whole) (defBody s_law_whole) (defScope s_law_whole) .none kV_law_whole dc_law_whole pm_law_whole an_law_whole cd_law_whole ct_law_whole
    a_law_wholes := f_law_wholes
    f_law_wholes := PySem.W.fnOf "_law_wholes" "_law_wholes" (defArgs s_law_wholes) (defBody s_law_wholes) (defScope s_law_wholes) .none kV_law_wholes dc_law_wholes pm_law_wholes an_law_wholes cd_law_wholes ct_law_wholes
    a_law_number := f_law_number
    f_law_number := PySem.W.fnOf "_law_number" "_law_number" (defArgs s_law_number) (defBody s_law_number) (defScope s_law_number) .none kV_law_number dc_law_number pm_law_number an_law_number cd_law_number ct_law_number
    a_law_net := f_law_net
    f_law_net := PySem.W.fnOf "_law_net" "_law_net" (defArgs s_law_net) (defBody s_law_net) (defScope s_law_net) .none kV_law_net dc_law_net pm_law_net an_law_net cd_law_net ct_law_net
    a_law_sums := f_law_sums
    f_law_sums := PySem.W.fnOf "_law_sums" "_law_sums" (defArgs s_law_sums) (defBody s_law_sums) (defScope s_law_sums) .none kV_law_sums dc_law_sums pm_law_sums an_law_sums cd_law_sums ct_law_sums
    a_law_walked := f_law_walked
    f_law_walked := PySem.W.fnOf "_law_walked" "_law_walked" (defArgs s_law_walked) (defBody s_law_walked) (defScope s_law_walked) .none kV_law_walked dc_law_walked pm_law_walked an_law_walked cd_law_walked ct_law_walked
    a_law := f_law
    f_law := PySem.W.fnOf "law" "law" (defArgs s_law) (defBody s_law) (defScope s_law) .none kV_law dc_law pm_law an_law cd_law ct_law
    }, {
    F_sums := fun_mk (st := s_sums) L_sums C_sums K_sums
    p_sums := (fun_mk (st := s_sums) L_sums C_sums K_sums).binds fun _ _ _ _ _ _ us hl => match us, hl with | [_, _, _], _ => rfl
    g_sums := PySem.W.mg_of X G A_sums
    k_sums := K_sums
    F_is_flow := fun_mk (st := s_is_flow) L_is_flow C_is_flow K_is_flow
    p_is_flow := (fun_mk (st := s_is_flow) L_is_flow C_is_flow K_is_flow).binds fun _ _ _ _ _ _ us hl => match us, hl with | [_, _, _, _, _], _ => rfl
    g_is_flow := PySem.W.mg_of X G A_is_flow
    k_is_flow := K_is_flow
    F_size_of := fun_mk (st := s_size_of) L_size_of C_size_of K_size_of
    p_size_of := (fun_mk (st := s_size_of) L_size_of C_size_of K_size_of).binds fun _ _ _ _ _ _ us hl => match us, hl with | [_, _, _, _], _ => rfl
    g_size_of := PySem.W.mg_of X G A_size_of
    k_size_of := K_size_of
    F_cut_size := fun_mk (st := s_cut_size) L_cut_size C_cut_size K_cut_size
    p_cut_size := (fun_mk (st := s_cut_size) L_cut_size C_cut_size K_cut_size).binds fun _ _ _ _ _ _ us hl => match us, hl with | [_, _], _ => rfl
    g_cut_size := PySem.W.mg_of X G A_cut_size
    k_cut_size := K_cut_size
    F_cost_of := fun_mk (st := s_cost_of) L_cost_of C_cost_of K_cost_of
    p_cost_of := (fun_mk (st := s_cost_of) L_cost_of C_cost_of K_cost_of).binds fun _ _ _ _ _ _ us hl => match us, hl with | [_, _], _ => rfl
    g_cost_of := PySem.W.mg_of X G A_cost_of
    k_cost_of := K_cost_of
    F_law_cell := fun_mk (st := s_law_cell) L_law_cell C_law_cell K_law_cell
    p_law_cell := (fun_mk (st := s_law_cell) L_law_cell C_law_cell K_law_cell).binds fun _ _ _ _ _ _ us hl => match us, hl with | [_, _], _ => rfl
    g_law_cell := PySem.W.mg_of X G A_law_cell
    k_law_cell := K_law_cell
    F_law_mix := fun_mk (st := s_law_mix) L_law_mix C_law_mix K_law_mix
    p_law_mix := (fun_mk (st := s_law_mix) L_law_mix C_law_mix K_law_mix).binds fun _ _ _ _ _ _ us hl => match us, hl with | [_, _], _ => rfl
    g_law_mix := PySem.W.mg_of X G A_law_mix
    k_law_mix := K_law_mix
    F_law_whole := fun_mk (st := s_law_whole) L_law_whole C_law_whole K_law_whole
    p_law_whole := (fun_mk (st := s_law_whole) L_law_whole C_law_whole K_law_whole).binds fun _ _ _ _ _ _ us hl => match us, hl with | [_], _ => rfl
    g_law_whole := PySem.W.mg_of X G A_law_whole
    k_law_whole := K_law_whole
    F_law_wholes := fun_mk (st := s_law_wholes) L_law_wholes C_law_wholes K_law_wholes
    p_law_wholes := (fun_mk (st := s_law_wholes) L_law_wholes C_law_wholes K_law_wholes).binds fun _ _ _ _ _ _ us hl => match us, hl with | [_], _ => rfl
    g_law_wholes := PySem.W.mg_of X G A_law_wholes
    k_law_wholes := K_law_wholes
    F_law_number := fun_mk (st := s_law_number) L_law_number C_law_number K_law_number
    p_law_number := (fun_mk (st := s_law_number) L_law_number C_law_number K_law_number).binds fun _ _ _ _ _ _ us hl => match us, hl with | [_], _ => rfl
    g_law_number := PySem.W.mg_of X G A_law_number
    k_law_number := K_law_number
    F_law_net := fun_mk (st := s_law_net) L_law_net C_law_net K_law_net
    p_law_net := (fun_mk (st := s_law_net) L_law_net C_law_net K_law_net).binds fun _ _ _ _ _ _ us hl => match us, hl with | [_, _, _], _ => rfl
    g_law_net := PySem.W.mg_of X G A_law_net
    k_law_net := K_law_net
    F_law_sums := fun_mk (st := s_law_sums) L_law_sums C_law_sums K_law_sums
    p_law_sums := (fun_mk (st := s_law_sums) L_law_sums C_law_sums K_law_sums).binds fun _ _ _ _ _ _ us hl => match us, hl with | [_, _, _], _ => rfl
    g_law_sums := PySem.W.mg_of X G A_law_sums
    k_law_sums := K_law_sums
    F_law_walked := fun_mk (st := s_law_walked) L_law_walked C_law_walked K_law_walked
    p_law_walked := (fun_mk (st := s_law_walked) L_law_walked C_law_walked K_law_walked).binds fun _ _ _ _ _ _ us hl => match us, hl with | [_, _, _, _], _ => rfl
    g_law_walked := PySem.W.mg_of X G A_law_walked
    k_law_walked := K_law_walked
    F_law := fun_mk (st := s_law) L_law C_law K_law
    p_law := (fun_mk (st := s_law) L_law C_law K_law).binds fun _ _ _ _ _ _ us hl => match us, hl with | [_], _ => rfl
    g_law := PySem.W.mg_of X G A_law
    k_law := K_law
    b_all := PySem.W.mg_none_of X G z_all
    b_bool := PySem.W.mg_none_of X G z_bool
    b_int := PySem.W.mg_none_of X G z_int
    b_isinstance := PySem.W.mg_none_of X G z_isinstance
    b_len := PySem.W.mg_none_of X G z_len
    b_list := PySem.W.mg_none_of X G z_list
    b_max := PySem.W.mg_none_of X G z_max
    b_range := PySem.W.mg_none_of X G z_range
    b_sum := PySem.W.mg_none_of X G z_sum
    b_zip := PySem.W.mg_none_of X G z_zip
    }, rfl, fun s u => .of_eq rfl⟩
theorem walk {l : PySem.W.OpenLaw} {q : Program} {loose : List Str} {XP : (Str → Option Value) → Heap → Prop} {YP : World → Heap → Prop} {d : DefRec} {K : Params → PySem.W.Frag} (hn : l.most = some 63) (hdf : d.params.defaults = [])
    (hY : ∀ (w : World) (h : Heap), YP w h → (K w.params).In h)
    (F : ∀ (w : World) (mg : Str → Option Value) (fa : Addr) (h : Heap), (K w.params).In h → h.Ns mainGlobals mg → mg d.name = some (.ref fa) →
      ∃ d : Ad, Txt (K w.params) mg d ∧ d.a_law = fa ∧ ∀ (s : Shared) (u : Value), BindsTo s d.f_law ⟨[u], []⟩ [("_law_script", u)]) :
    PySem.W.WalkO q loose XP YP l.row.toRowW d [] (fun f vs => PySem.call f vs) :=
  L2.walk_of (n := 63) (k := 4) (x := "_law_script") (CX := fun _ => CX0) (sp := fun w => Sp_law (K w.params)) hn (by decide) hdf ⟨rfl, by decide, by decide⟩ hY
    (fun w mg fa h KX G hmg => by
      obtain ⟨dd, T, e, hb⟩ := F w mg fa h KX G hmg
      subst e
      exact ⟨dd.f_law, hb, fun base _ _ => ok_law T⟩)
    (fun w H a ns hl hO hS => Sp_law.mk (ns := ns) (.lst hS (dpAll_ints ns)) (fun _ => rfl)) fun _ _ _ _ _ z => z
end SB
open PySem PySem.W PyProof.Rows
set_option maxRecDepth 100000 in
set_option maxHeartbeats 0 in
theorem PySem.Challenge.cw_surebest_k02_networks_holds : PySem.Challenge.rw_surebest_k02_networks.Holds := by
  w_on; o_law; k_head; (case hw => w_witness2)
  k_fill
  refine SB.walk (l := PySem.Challenge.rw_surebest_k02_networks) rfl rfl (fun w h Y => PySem.W.kIn_of Y) ?F
  case F =>
    intro w mg fa h KX G hmg
    refine' SB.all_mk KX G hmg ?A_sums ?L_sums ?C_sums ?K_sums ?A_is_flow ?L_is_flow ?C_is_flow ?K_is_flow ?A_size_of ?L_size_of ?C_size_of ?K_size_of ?A_cut_size ?L_cut_size ?C_cut_size ?K_cut_size ?A_cost_of ?L_cost_of ?C_cost_of ?K_cost_of ?A_law_cell ?L_law_cell ?C_law_cell ?K_law_cell ?A_law_mix ?L_law_mix ?C_law_mix ?K_law_mix ?A_law_whole ?L_law_whole ?C_law_whole ?K_law_whole ?A_law_wholes ?L_law_wholes ?C_law_wholes ?K_law_wholes ?A_law_number ?L_law_number ?C_law_number ?K_law_number ?A_law_net ?L_law_net ?C_law_net ?K_law_net ?A_law_sums ?L_law_sums ?C_law_sums ?K_law_sums ?A_law_walked ?L_law_walked ?C_law_walked ?K_law_walked ?A_law ?L_law ?C_law ?K_law ?z_all ?z_bool ?z_int ?z_isinstance ?z_len ?z_list ?z_max ?z_range ?z_sum ?z_zip
    (case A_sums => k_is)
    (case L_sums => k_is)
    (case C_sums => k_is)
    (case K_sums => k_is)
    (case A_is_flow => k_is)
    (case L_is_flow => k_is)
    (case C_is_flow => k_is)
    (case K_is_flow => k_is)
    (case A_size_of => k_is)
    (case L_size_of => k_is)
    (case C_size_of => k_is)
    (case K_size_of => k_is)
    (case A_cut_size => k_is)
    (case L_cut_size => k_is)
    (case C_cut_size => k_is)
    (case K_cut_size => k_is)
    (case A_cost_of => k_is)
    (case L_cost_of => k_is)
    (case C_cost_of => k_is)
    (case K_cost_of => k_is)
    (case A_law_cell => k_is)
    (case L_law_cell => k_is)
    (case C_law_cell => k_is)
    (case K_law_cell => k_is)
    (case A_law_mix => k_is)
    (case L_law_mix => k_is)
    (case C_law_mix => k_is)
    (case K_law_mix => k_is)
    (case A_law_whole => k_is)
    (case L_law_whole => k_is)
    (case C_law_whole => k_is)
    (case K_law_whole => k_is)
    (case A_law_wholes => k_is)
    (case L_law_wholes => k_is)
    (case C_law_wholes => k_is)
    (case K_law_wholes => k_is)
    (case A_law_number => k_is)
    (case L_law_number => k_is)
    (case C_law_number => k_is)
    (case K_law_number => k_is)
    (case A_law_net => k_is)
    (case L_law_net => k_is)
    (case C_law_net => k_is)
    (case K_law_net => k_is)
    (case A_law_sums => k_is)
    (case L_law_sums => k_is)
    (case C_law_sums => k_is)
    (case K_law_sums => k_is)
    (case A_law_walked => k_is)
    (case L_law_walked => k_is)
    (case C_law_walked => k_is)
    (case K_law_walked => k_is)
    (case A_law => k_is)
    (case L_law => k_is)
    (case C_law => k_is)
    (case K_law => k_is)
    (case z_all => k_is)
    (case z_bool => k_is)
    (case z_int => k_is)
    (case z_isinstance => k_is)
    (case z_len => k_is)
    (case z_list => k_is)
    (case z_max => k_is)
    (case z_range => k_is)
    (case z_sum => k_is)
    (case z_zip => k_is)
#print axioms PySem.Challenge.cw_surebest_k02_networks_holds
