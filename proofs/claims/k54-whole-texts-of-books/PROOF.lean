import PyProof.Rows.All
import Wide.All
import OpenK.AllK
import Wide.FinOn
import HandS.ForMost
import HandS.ForExc
import HandS.IsInst
import HandS.Lambda
import HandS.More
import HandS.Zip
import HandS.ListItems
import HandS.ExcInit
import HandS.ExcField
import HandS.TryMany
import HandS.EndTab
import HandS.Walk
import PySem.Challenge.RW_kindcopies_k54_whole_texts_of_books
set_option Elab.async false
set_option linter.all false
set_option maxRecDepth 100000
set_option maxHeartbeats 4000000
/-! K1: plain data, how the heap bears it, what is kept. -/
namespace K54
open PySem PySem.Spec PyProof.Rows L2

inductive Dt where
  | non | bl (b : Bool) | int (i : Int) | str (x : Str) | lst (xs : List Dt) | tup (xs : List Dt) | emp
theorem Dt.ind {P : Dt → Prop} (h0 : P .non) (h1 : ∀ b, P (.bl b)) (h2 : ∀ i, P (.int i)) (h3 : ∀ x, P (.str x)) (h6 : P .emp)
    (h4 : ∀ xs, (∀ x ∈ xs, P x) → P (.lst xs)) (h5 : ∀ xs, (∀ x ∈ xs, P x) → P (.tup xs)) : ∀ d, P d
  | .non => h0
  | .bl b => h1 b
  | .int i => h2 i
  | .str x => h3 x
  | .emp => h6
  | .lst xs => h4 xs fun x _ => Dt.ind h0 h1 h2 h3 h6 h4 h5 x
  | .tup xs => h5 xs fun x _ => Dt.ind h0 h1 h2 h3 h6 h4 h5 x
mutual
/-- the value v bears the data d; fp: the addresses of its lists (and dicts), in turn -/
inductive Rep (K : PySem.W.Frag) (H : Hp) : V → Dt → List Addr → Prop
  | non : Rep K H .non .non []
  | bl (b : Bool) : Rep K H (.bl b) (.bl b) []
  | int (i : Int) : Rep K H (.int i) (.int i) []
  | str (x : Str) : Rep K H (.str x) (.str x) []
  | lst {a : Addr} {xs : List V} {ds : List Dt} {fp : List Addr} (h : H a = some (.lst xs)) (r : Reps K H xs ds fp) : Rep K H (.ref a) (.lst ds) (a :: fp)
  | tup {a : Addr} {xs : List V} {ds : List Dt} {fp : List Addr} (h : SqT K H a xs) (r : Reps K H xs ds fp) : Rep K H (.ref a) (.tup ds) fp
  | emp {a : Addr} (h : H a = some (.dK [])) : Rep K H (.ref a) .emp [a]
inductive Reps (K : PySem.W.Frag) (H : Hp) : List V → List Dt → List Addr → Prop
  | nil : Reps K H [] [] []
  | cons {v : V} {vs : List V} {d : Dt} {ds : List Dt} {f g : List Addr} (r : Rep K H v d f) (t : Reps K H vs ds g) : Reps K H (v :: vs) (d :: ds) (f ++ g)
end

/-- all that was tracked stays, but at S -/
def Kp (S : Addr → Prop) (H H' : Hp) : Prop := ∀ b o, H b = some o → ¬ S b → H' b = some o
theorem Kp.refl (S : Addr → Prop) (H : Hp) : Kp S H H := fun _ _ h _ => h
theorem Kp.trans {S : Addr → Prop} {H H1 H2 : Hp} (a : Kp S H H1) (b : Kp S H1 H2) : Kp S H H2 := fun c o h n => b c o (a c o h n) n
theorem Kp.mono {S T : Addr → Prop} {H H' : Hp} (a : Kp S H H') (h : ∀ b, S b → T b) : Kp T H H' := fun c o e n => a c o e fun z => n (h c z)
theorem Kp.of_same {S : Addr → Prop} {H H' : Hp} (a : Same H H') : Kp S H H' := fun c o e _ => a c o e
theorem Kp.same {H H' : Hp} (a : Kp (fun _ => False) H H') : Same H H' := fun c o e => a c o e id
theorem same_new {H : Hp} {p : Addr} (h : H p = none) (o : HO) : Same H (upd H p o) := fun b u q => by rw [upd_ne (ne_of_none q h)]; exact q
theorem kp_new {S : Addr → Prop} {H : Hp} {p : Addr} (h : H p = none) (o : HO) : Kp S H (upd H p o) := Kp.of_same (same_new h o)
theorem kp_upd {S : Addr → Prop} {H : Hp} {p : Addr} (h : S p) (o : HO) : Kp S H (upd H p o) := fun b u q n => by
  rw [upd_ne (fun z => n (by rw [z]; exact h))]; exact q
theorem kp_fresh {S : Addr → Prop} {H H' : Hp} (k : Kp S H H') (hS : ∀ a, S a → ∃ o, H a = some o) {p : Addr} (h : H' p = none) : H p = none ∨ S p := by
  cases e : H p with
  | none => exact .inl rfl
  | some o =>
    by_cases hs : S p
    · exact .inr hs
    · rw [k p o e hs] at h; cases h

theorem sqT_keep {K : PySem.W.Frag} {S : Addr → Prop} {H H' : Hp} {a : Addr} {xs : List V} (k : Kp S H H') (n : H a ≠ none → ¬ S a) (h : SqT K H a xs) : SqT K H' a xs := by
  rcases h with (h | ⟨o, h⟩) | h
  · exact .inl (.inl (k _ _ h (n (by rw [h]; simp))))
  · exact .inl (.inr ⟨o, k _ _ h (n (by rw [h]; simp))⟩)
  · exact .inr h
/-- S holds of lists, dicts, instances alone: of no tuple -/
def NoTup (S : Addr → Prop) (H : Hp) : Prop := ∀ a, S a → (∀ xs, H a ≠ some (.tup xs)) ∧ ∀ o xs, H a ≠ some (.frz o (.tup xs))
theorem sqT_kp {K : PySem.W.Frag} {S : Addr → Prop} {H H' : Hp} {a : Addr} {xs : List V} (k : Kp S H H') (n : NoTup S H) (h : SqT K H a xs) : SqT K H' a xs := by
  rcases h with (h | ⟨o, h⟩) | h
  · exact .inl (.inl (k _ _ h fun z => (n a z).1 _ h))
  · exact .inl (.inr ⟨o, k _ _ h fun z => (n a z).2 _ _ h⟩)
  · exact .inr h
theorem noTup_none {H : Hp} : NoTup (fun _ => False) H := fun _ h => h.elim
theorem Same.sqT {K : PySem.W.Frag} {H H' : Hp} {a : Addr} {xs : List V} (e : Same H H') (h : SqT K H a xs) : SqT K H' a xs := sqT_kp (Kp.of_same e) noTup_none h

section
variable {K : PySem.W.Frag} {H H' : Hp}
theorem Reps.step {S : Addr → Prop} {ds : List Dt} (ih : ∀ d ∈ ds, ∀ v fp, Rep K H v d fp → (∀ a ∈ fp, ¬ S a) → Rep K H' v d fp) : ∀ {vs fp}, Reps K H vs ds fp → (∀ a ∈ fp, ¬ S a) → Reps K H' vs ds fp := by
  induction ds with
  | nil =>
    intro vs fp h _
    cases h
    exact .nil
  | cons d ds ihl =>
    intro vs fp h n
    cases h with
    | cons r t =>
      exact .cons (ih d (List.mem_cons_self ..) _ _ r fun a ha => n a (List.mem_append_left _ ha)) (ihl (fun d hd => ih d (List.mem_cons_of_mem _ hd)) t fun a ha => n a (List.mem_append_right _ ha))
theorem Rep.keep {S : Addr → Prop} (k : Kp S H H') (hS : NoTup S H) : ∀ (d : Dt) (v : V) (fp : List Addr), Rep K H v d fp → (∀ a ∈ fp, ¬ S a) → Rep K H' v d fp := by
  intro d
  induction d using Dt.ind with
  | h0 => intro v fp h _; cases h; exact .non
  | h1 b => intro v fp h _; cases h; exact .bl b
  | h2 i => intro v fp h _; cases h; exact .int i
  | h3 x => intro v fp h _; cases h; exact .str x
  | h6 => intro v fp h n; cases h with | emp e => exact .emp (k _ _ e (n _ (List.mem_cons_self ..)))
  | h4 xs ih =>
    intro v fp h n
    cases h with
    | lst e r => exact .lst (k _ _ e (n _ (List.mem_cons_self ..))) (Reps.step ih r fun a ha => n a (List.mem_cons_of_mem _ ha))
  | h5 xs ih =>
    intro v fp h n
    cases h with
    | tup e r => exact .tup (sqT_kp k hS e) (Reps.step ih r n)
theorem Reps.keep {S : Addr → Prop} (k : Kp S H H') (hS : NoTup S H) {ds : List Dt} {vs : List V} {fp : List Addr} (h : Reps K H vs ds fp) (n : ∀ a ∈ fp, ¬ S a) : Reps K H' vs ds fp :=
  Reps.step (fun d _ v fp => Rep.keep k hS d v fp) h n
theorem Rep.same (e : Same H H') {d : Dt} {v : V} {fp : List Addr} (h : Rep K H v d fp) : Rep K H' v d fp := Rep.keep (Kp.of_same (S := fun _ => False) e) noTup_none d v fp h fun _ _ z => z
theorem Reps.same (e : Same H H') {ds : List Dt} {vs : List V} {fp : List Addr} (h : Reps K H vs ds fp) : Reps K H' vs ds fp := Reps.keep (Kp.of_same (S := fun _ => False) e) noTup_none h fun _ _ z => z
theorem Reps.len {ds : List Dt} : ∀ {vs : List V} {fp : List Addr}, Reps K H vs ds fp → vs.length = ds.length := by
  induction ds with
  | nil => intro vs fp h; cases h; rfl
  | cons d ds ih => intro vs fp h; cases h with | cons r t => rw [List.length_cons, List.length_cons, ih t]
theorem Reps.at {ds : List Dt} : ∀ {vs : List V} {fp : List Addr} {i : Nat} {v : V}, Reps K H vs ds fp → vs[i]? = some v → ∃ d f, ds[i]? = some d ∧ d ∈ ds ∧ Rep K H v d f ∧ ∀ a ∈ f, a ∈ fp := by
  induction ds with
  | nil => intro vs fp i v h e; cases h; simp at e
  | cons d ds ih =>
    intro vs fp i v h e
    cases h with
    | cons r t =>
      cases i with
      | zero => simp at e; subst e; exact ⟨d, _, rfl, List.mem_cons_self .., r, fun a ha => List.mem_append_left _ ha⟩
      | succ i =>
        obtain ⟨d', f, h1, h2, h3, h4⟩ := ih t (by simpa using e)
        exact ⟨d', f, by simpa using h1, List.mem_cons_of_mem _ h2, h3, fun a ha => List.mem_append_right _ (h4 a ha)⟩
theorem Reps.app {xs : List Dt} : ∀ {us : List V} {f : List Addr} {vs : List V} {ys : List Dt} {g : List Addr}, Reps K H us xs f → Reps K H vs ys g → Reps K H (us ++ vs) (xs ++ ys) (f ++ g) := by
  induction xs with
  | nil => intro us f vs ys g h t; cases h; exact t
  | cons d ds ih =>
    intro us f vs ys g h t
    cases h with
    | cons r q => rw [List.append_assoc]; exact .cons r (ih q t)
theorem Reps.one {v : V} {d : Dt} {f : List Addr} (r : Rep K H v d f) : Reps K H [v] [d] f := by
  have h := Reps.cons r Reps.nil
  rw [List.append_nil] at h
  exact h
theorem Reps.snoc {us : List V} {xs : List Dt} {f : List Addr} {v : V} {d : Dt} {g : List Addr} (h : Reps K H us xs f) (r : Rep K H v d g) : Reps K H (us ++ [v]) (xs ++ [d]) (f ++ g) := h.app (.one r)
/-- what bears data is tracked -/
theorem Reps.trk0 {ds : List Dt} (ih : ∀ d ∈ ds, ∀ v fp, Rep K H v d fp → ∀ a ∈ fp, H a ≠ none) : ∀ {vs fp}, Reps K H vs ds fp → ∀ a ∈ fp, H a ≠ none := by
  induction ds with
  | nil => intro vs fp h a ha; cases h; cases ha
  | cons d ds ihl =>
    intro vs fp h a ha
    cases h with
    | cons r t =>
      rcases List.mem_append.mp ha with z | z
      · exact ih d (List.mem_cons_self ..) _ _ r a z
      · exact ihl (fun d hd => ih d (List.mem_cons_of_mem _ hd)) t a z
theorem Rep.trk : ∀ (d : Dt) (v : V) (fp : List Addr), Rep K H v d fp → ∀ a ∈ fp, H a ≠ none := by
  intro d
  induction d using Dt.ind with
  | h0 => intro v fp h a ha; cases h; cases ha
  | h1 b => intro v fp h a ha; cases h; cases ha
  | h2 i => intro v fp h a ha; cases h; cases ha
  | h3 x => intro v fp h a ha; cases h; cases ha
  | h6 =>
    intro v fp h a ha
    cases h with
    | emp e =>
      cases ha with
      | head => rw [e]; simp
      | tail _ z => cases z
  | h4 xs ih =>
    intro v fp h a ha
    cases h with
    | lst e r =>
      cases ha with
      | head => rw [e]; simp
      | tail _ z => exact Reps.trk0 ih r a z
  | h5 xs ih =>
    intro v fp h a ha
    cases h with
    | tup e r => exact Reps.trk0 ih r a ha
theorem Reps.trk {ds : List Dt} {vs : List V} {fp : List Addr} (h : Reps K H vs ds fp) : ∀ a ∈ fp, H a ≠ none := Reps.trk0 (fun d _ v fp => Rep.trk d v fp) h
/-- .. and is no tuple -/
theorem Reps.nt0 {ds : List Dt} (ih : ∀ d ∈ ds, ∀ v fp, Rep K H v d fp → NoTup (· ∈ fp) H) : ∀ {vs fp}, Reps K H vs ds fp → NoTup (· ∈ fp) H := by
  induction ds with
  | nil => intro vs fp h a ha; cases h; cases ha
  | cons d ds ihl =>
    intro vs fp h a ha
    cases h with
    | cons r t =>
      rcases List.mem_append.mp ha with z | z
      · exact ih d (List.mem_cons_self ..) _ _ r a z
      · exact ihl (fun d hd => ih d (List.mem_cons_of_mem _ hd)) t a z
theorem noTup_one {a b : Addr} {u : HO} (e : H a = some u) (h : b = a) (h1 : ∀ xs, u ≠ .tup xs) (h2 : ∀ o xs, u ≠ .frz o (.tup xs)) : (∀ xs, H b ≠ some (.tup xs)) ∧ ∀ o xs, H b ≠ some (.frz o (.tup xs)) := by
  subst h
  rw [e]
  exact ⟨fun xs z => h1 xs (Option.some.inj z), fun o xs z => h2 o xs (Option.some.inj z)⟩
theorem Rep.nt : ∀ (d : Dt) (v : V) (fp : List Addr), Rep K H v d fp → NoTup (· ∈ fp) H := by
  intro d
  induction d using Dt.ind with
  | h0 => intro v fp h a ha; cases h; cases ha
  | h1 b => intro v fp h a ha; cases h; cases ha
  | h2 i => intro v fp h a ha; cases h; cases ha
  | h3 x => intro v fp h a ha; cases h; cases ha
  | h6 =>
    intro v fp h a ha
    cases h with
    | emp e =>
      have z : a = _ := List.mem_singleton.mp ha
      exact noTup_one e z (fun xs q => nomatch q) (fun o xs q => nomatch q)
  | h4 xs ih =>
    intro v fp h a ha
    cases h with
    | lst e r =>
      rcases List.mem_cons.mp ha with z | z
      · exact noTup_one e z (fun xs q => nomatch q) (fun o xs q => nomatch q)
      · exact Reps.nt0 ih r a z
  | h5 xs ih =>
    intro v fp h a ha
    cases h with
    | tup e r => exact Reps.nt0 ih r a ha
theorem Reps.nt {ds : List Dt} {vs : List V} {fp : List Addr} (h : Reps K H vs ds fp) : NoTup (· ∈ fp) H := Reps.nt0 (fun d _ v fp => Rep.nt d v fp) h
end
/-- addresses that H does not know -/
def Fresh (H : Hp) (fp : List Addr) : Prop := ∀ a ∈ fp, H a = none
theorem Fresh.back {H H' : Hp} (e : Same H H') {fp : List Addr} (h : Fresh H' fp) : Fresh H fp := fun a ha => e.free (h a ha)
theorem Fresh.apart {H : Hp} {f g : List Addr} (h : Fresh H f) (t : ∀ a ∈ g, H a ≠ none) : ∀ a ∈ f, a ∉ g := fun a ha z => t a z (h a ha)
theorem Fresh.app {H : Hp} {f g : List Addr} (h : Fresh H f) (t : Fresh H g) : Fresh H (f ++ g) := fun a ha => (List.mem_append.mp ha).elim (h a) (t a)
theorem fresh_nil {H : Hp} : Fresh H [] := fun a ha => by cases ha
theorem nodup_app {α : Type} {f g : List α} (hf : f.Nodup) (hg : g.Nodup) (h : ∀ a ∈ g, a ∉ f) : (f ++ g).Nodup :=
  List.nodup_append.mpr ⟨hf, hg, fun a ha b hb e => h b hb (e ▸ ha)⟩
/-- a new thing: fresh, no list twice -/
structure New (K : PySem.W.Frag) (H H' : Hp) (v : V) (d : Dt) (fp : List Addr) : Prop where
  rep : Rep K H' v d fp
  fresh : Fresh H fp
  nd : fp.Nodup

/-! ### types -/
section
variable {K : PySem.W.Frag} {H : Hp}
theorem tyx_tup {a : Addr} {xs : List V} (h : SqT K H a xs) : TyX K H (.ref a) (.type "tuple") := by
  rcases h with (h | ⟨o, h⟩) | ⟨o, its, n, e, c, _⟩
  · exact .base (.tup h)
  · exact .fTuple h
  · exact .kTuple e c
def tyName : Dt → String
  | .non => "NoneType" | .bl _ => "bool" | .int _ => "int" | .str _ => "str" | .lst _ => "list" | .tup _ => "tuple" | .emp => "dict"
theorem Rep.tyx {v : V} {d : Dt} {fp : List Addr} (h : Rep K H v d fp) : TyX K H v (.type (tyName d)) := by
  cases h with
  | non => exact .base .non
  | bl b => exact .base (.bl b)
  | int i => exact .base (.int i)
  | str x => exact .base (.str x)
  | lst e r => exact .base (.lst e)
  | tup e r => exact tyx_tup e
  | emp e => exact .base (.dK e)
theorem Rep.tyb {v : V} {d : Dt} {fp : List Addr} (h : Rep K H v d fp) : TyB K H v (tyName d) := by
  cases h with
  | non => exact .non
  | bl b => exact .bl b
  | int i => exact .int i
  | str x => exact .str x
  | lst e r => exact .lst (SqL.of e)
  | tup e r => exact .tup e
  | emp e => exact .dK e
/-- isinstance(x, T) by the names of types -/
def isTyN (n t : String) : Bool := decide (n = t) || (decide (n = "bool") && decide (t = "int"))
abbrev isTy (d : Dt) (t : String) : Bool := isTyN (tyName d) t
def tyNames : List String := ["NoneType", "bool", "int", "str", "list", "tuple", "dict"]
theorem kit_names : ∀ n ∈ tyNames, ∀ t ∈ ["bool", "int", "str", "list", "tuple", "dict"], kitB n t = some (isTyN n t) := by decide +kernel
theorem tyName_mem (d : Dt) : tyName d ∈ tyNames := by
  cases d <;> simp [tyNames, tyName]
theorem kit_is (d : Dt) (t : String) (ht : t ∈ ["bool", "int", "str", "list", "tuple", "dict"]) : PySem.W.kitOne K (.type (tyName d)) (.type t) = some (isTy d t) := kit_ty (kit_names _ (tyName_mem d) t ht)
theorem kit_any (d : Dt) : ∀ ts : List String, (∀ t ∈ ts, t ∈ ["bool", "int", "str", "list", "tuple", "dict"]) → PySem.W.kitAny K (.type (tyName d)) (ts.map Value.type) = some (ts.any (isTy d))
  | [], _ => kitAny_nil
  | t :: ts, h => by
    rw [List.any_cons]
    refine kitAny_cons (kit_is d t (h t (List.mem_cons_self ..))) (fun e => ?_) (fun e => ?_)
    · rw [show isTy d t = false from e, Bool.false_or]
      exact kit_any d ts fun u hu => h u (List.mem_cons_of_mem _ hu)
    · rw [show isTy d t = true from e, Bool.true_or]
theorem cls_any : ∀ ts : List String, Paired ClsV (ts.map V.ty) (ts.map Value.type)
  | [] => .nil
  | t :: ts => .cons (.ty t) (cls_any ts)
end
end K54

set_option Elab.async false
set_option linter.all false
set_option maxRecDepth 100000
set_option maxHeartbeats 4000000
/-! KR: rules beside the layer's. -/
namespace K54
open PySem PySem.Spec PyProof.Rows L2 C8 RZ LiI
/-! ### a list extended by a tuple -/
theorem ext_lt (l : Addr) (xs : Array Value) (n : Nat) (b : Addr) (bo : Obj) (ys : Array Value) (m : Nat) (hc : bo.cls = .type "tuple") (hd : bo.data = .seq ys m)
    (h0 : ¬(!xs.isEmpty && Builtin.List.listTooLong (xs.size + ys.size)) = true) (h1 : xs.size ≤ sizeLine) (h2 : xs.size + ys.size ≤ sizeLine + 1) :
    Meets (Builtin.«list.extend» ⟨[.ref l, .ref b], []⟩) (fun _ R s => s.heap.get? l = some { cls := .type "list", dict := none, data := .seq xs n, slots := #[] } ∧ s.heap.get? b = some bo ∧
      R (.ok (.ret Value.none)) { s with heap := s.heap.update l (Obj.mapSeq fun x => x ++ ys), toks := s.toks }) :=
  .of_wp fun prog w A R s h => by
    obtain ⟨bc, bd, bt, bs⟩ := bo
    simp only at hc hd
    subst hc hd
    obtain ⟨hp, g, d, tk, os⟩ := s
    obtain ⟨hl, hb, h⟩ := h
    have f1 := AutoSeq1.idx_int
    have f2 := AutoSeq1.sub_tuple_tuple
    have f3 := AutoSeq1.sub_list_list
    have f4 := AutoSeq1.sub_tuple_list
    have f5 := AutoSeq1.sub_list_tuple
    have hz' : (xs ++ ys).size ≤ sizeLine + 1 := by rw [Array.size_append]; exact h2
    wp_walk using (wpAny_updateSeq hl rfl (hz := h1) (_hz' := hz')), AutoSeq1.wpAny_loadPart' hl, AutoSeq1.wpAny_loadPart' hb
    exact ⟨_, rfl, h⟩
def rExtA (K : PySem.W.Frag) : V → List V → Hp → VK → Prop := fun x vs H Q => ∃ l b xs zs, x = .ref l ∧ vs = [.ref b] ∧ H l = some (.lst xs) ∧ (H b = some (.lst zs) ∨ SqT K H b zs) ∧ xs.length + zs.length ≤ sizeLine ∧ Q .non (upd H l (.lst (xs ++ zs)))
theorem mt_extA {X : Cx} : MtM X "list.extend" (rExtA X.K) := by
  intro pins s σ H x vs v us Q I rx rv h
  obtain ⟨l, b, xs, zs, rfl, rfl, hH, hB, hz, q⟩ := h
  rcases hB with hB | hB
  · exact mt_extend pins s σ H _ _ v us Q I rx rv ⟨l, b, xs, zs, rfl, rfl, hH, hB, hz, q⟩
  · cases rx
    obtain ⟨u, rfl, ru⟩ := rv.one
    cases ru
    obtain ⟨z, its, n, r, hl, e⟩ := I.lstM hH
    obtain ⟨its2, r2, ⟨bo, e2, c2, m, d2⟩, hz2⟩ := I.tuple hB
    have l2 := Paired.length r2
    have hsz : its.toArray.size + its2.toArray.size ≤ sizeLine := by rw [List.size_toArray, List.size_toArray]; omega
    have hlong : ¬ (!its.toArray.isEmpty && Builtin.List.listTooLong (its.toArray.size + its2.toArray.size)) = true := by rw [notLongL hsz, Bool.and_false]; exact Bool.false_ne_true
    refine call_meets F.slot_list_extend ⟨_, e, rfl⟩ F.entry_list_extend (F.args_list_extend_2 _ _) (ext_lt l its.toArray n b bo its2.toArray m c2 d2 hlong (by rw [List.size_toArray]; omega) (by omega)) ⟨e, e2, ?_⟩
    exact ⟨.non, _, I.lset (its' := its ++ its2) hH e (by simp) (r.append r2) (by rw [List.length_append]; omega), rfl, q⟩
/-! ### a walk over a list or a tuple -/
def iSeq (K : PySem.W.Frag) (tl : TE) : TI := fun σ H R => tl σ H fun x H1 => ∃ a xs, x = .ref a ∧ ((SqL K H1 a xs ∧ R (Itl K a) H1) ∨ (SqT K H1 a xs ∧ R (Itt K a) H1))
theorem pi_seq {X : Cx} {tg l : Expr} {tl : TE} (hl : PE X l tl) : PI X tg l (iSeq X.K tl) :=
  ⟨fun pins s σ H R I h => thn (hl.run pins s σ H _ I h) fun v s1 ⟨x, H1, I1, r1, q1⟩ => by
    obtain ⟨a, xs, ex, q1⟩ := q1
    subst ex
    cases r1
    have J : Inv X pins σ H1 { s1 with heap := s1.heap.push { cls := .type "list_iterator", data := .fields #[.ref a, .int 0 0] } } := I1.kept (t' := s1.toks) fun b o e => Heap.get?_push_of_some _ e
    have fr : ∀ b ∈ [s1.heap.objs.size], FpOk X pins H1 b := fun b hb => by
      have e : b = s1.heap.objs.size := List.mem_singleton.mp hb
      rw [e]
      exact I1.fpOk (Nat.le_refl _) (I1.hok.fresh (Nat.le_refl _))
    rcases q1 with ⟨hq, q⟩ | ⟨hq, q⟩
    · obtain ⟨its, rv, p, _⟩ := I1.list hq
      exact wpAny_pyIter_list p.isList ⟨s1.heap.objs.size, [s1.heap.objs.size], _, _, H1, rfl, I1.kept (t' := s1.toks) (fun b o e => Heap.get?_push_of_some _ e), turn_list a _, ⟨_, Heap.get?_push_size _ rfl, rfl, rfl⟩, fr, q⟩
    · obtain ⟨its, rv, p, _⟩ := I1.tuple hq
      exact wpAny_pyIter_tuple (show s1.heap.IsTuple a its.toArray from p) ⟨s1.heap.objs.size, [s1.heap.objs.size], _, _, H1, rfl, I1.kept (t' := s1.toks) (fun b o e => Heap.get?_push_of_some _ e), turn_tuple a _, ⟨_, Heap.get?_push_size _ rfl, rfl, rfl⟩, fr, q⟩⟩
theorem walk_zipT {K : PySem.W.Frag} {a b : Addr} {xs ys : List V} {n : Nat} (hn : n = min xs.length ys.length) : Walk (ItzT K a b) n (fun H => SqT K H a xs ∧ SqT K H b ys) (YPair (fun i => xs[i]?) (fun i => ys[i]?)) where
  goes := fun i H hi q => ⟨xs, ys, xs[i]'(by omega), ys[i]'(by omega), q.1, q.2, by simp, by simp⟩
  stops := fun H q => ⟨xs, ys, q.1, q.2, by omega⟩
  yields := fun i H v H' _ q y => let ⟨T, x, z, h1, h2, h3, h4, h5⟩ := y; ⟨T, x, z, h1, h2, h3, h4 xs q.1, h5 ys q.2⟩
/-! ### a target that is a field -/
def gFld (K : PySem.W.Frag) (f : Str) (ta : TE) : TG := fun v σ H Q => ta σ H fun x H2 => ∃ a C dx fs, x = .ref a ∧ H2 a = some (.ins C dx fs) ∧ Cls K C ∧ NoAttr K C f ∧ fs.length < 1000 ∧ Q σ (upd H2 a (.ins C dx (putF f v fs)))
theorem pg_fld {X : Cx} {o : Expr} {f : Str} {pos : Pos} {ta : TE} (ho : PE X o ta)
    (ha : ∀ v, assign (.Attribute o f pos) X.env v = (do
      let ov ← holding [v] (eval o X.env)
      standAt pos.atName
      holding [v, ov] (setAttr ov f v)
      release [v, ov] []) := by intro _; rfl) : PG X (.Attribute o f pos) (gFld X.K f ta) :=
  ⟨fun pins s σ H v u Q I r h => by
    rw [ha]
    refine wpAny_bind (wpAny_holding (thn (ho.run pins s σ H _ I h) fun ov s1 ⟨x, H1, I1, r1, a, C, dx, fs, ex, ea, c, n, l, q⟩ => ?_))
    subst ex
    cases (show ov = Value.ref a from r1)
    refine wpAny_bind (wpAny_standAt (wpAny_bind (wpAny_holding (setattr_ok (I1.kept (t' := s1.toks) (h' := s1.heap) fun _ _ e => e) ea c n l r fun s3 I3 => ?_))))
    exact wpAny_release ⟨σ, _, I3, q⟩⟩
/-! ### a call without arguments -/
theorem pe_c0 {X : Cx} {k j : Nat} {x : Str} {sp : Sp} {dvs : List V} {p pos : Pos} (c : Cal X.prog X.w X.K X.mg X.base k x sp dvs) (hr : Room j X.A) (hk : k ≤ j) (hg : Gl X x) (hdb : (x == ("__debug__" : Str)) = false := by decide) :
    PE X (.Call (.Name x p) [] [] pos) (tCall sp dvs C8.E0 tNil) :=
  let ⟨_, _, _, _, F, hm, kp, b, d⟩ := c.ex
  pe_call0 F (hr.mono hk) hg hm kp b d C8.pass0 hdb
end K54

set_option Elab.async false
set_option linter.all false
set_option maxRecDepth 100000
set_option maxHeartbeats 4000000
namespace K54
open PySem PySem.Spec PyProof.Rows L2 C8 RZ LiI
def top (i : Nat) : Stmt := PySem.Challenge.pw_kindcopies_k54_whole_texts_of_books.main.body.getD i (.Pass ⟨0, 0, 0, 0⟩)
/-- the built-in names stand for themselves -/
structure Bt (mg : Str → Option Value) : Prop where
  isinstance : mg "isinstance" = none
  list : mg "list" = none
  tuple : mg "tuple" = none
  dict : mg "dict" = none
  len : mg "len" = none
  type : mg "type" = none
  str : mg "str" = none
  all : mg "all" = none
  zip : mg "zip" = none
  abs : mg "abs" = none
  int : mg "int" = none
  bool : mg "bool" = none
  range : mg "range" = none
  min : mg "min" = none
/-- a def of the top, called with all its arguments -/
structure DefB (K : PySem.W.Frag) (mg : Str → Option Value) (x : Str) (st : Stmt) (ps : List Str) : Prop where
  ex : ∃ (f : Addr) (fd : FuncData), C8.Def K mg x st f fd ∧ Binds K fd ps []
  kw : ∀ (f : Addr) (fd : FuncData), C8.Def K mg x st f fd → ∀ n : Str, ps = [n] → ∀ (s : Shared) (u : Value), K.In s.heap → BindsTo s fd ⟨[], [(n, u)]⟩ [(n, u)]
section
variable {P : Program} {w : World} {K : PySem.W.Frag} {mg : Str → Option Value} {base : Heap}
theorem DefB.cal {x : Str} {st : Stmt} {N ps : List Str} {k : Nat} {sp : Sp} (D : DefB K mg x st ps) (S : FnScope N ps (fnScope st)) (len : ∀ vs H Q E, sp vs H Q E → vs.length = ps.length)
    (hbody : ∀ (f : Addr) (cdv : Value) (A : Around) (outer : List Env) (s : Shared) (H : Hp) (vs : List V) (Q : VK) (E : XK), Room k (A.deeper (envOfC x (fnScope st) s.heap.objs.size f cdv)) → sp vs H Q E →
      ∃ t, PSs (cxOf C8.CX0 P w K mg base N x (fnScope st) f cdv A outer s H E).nox (fnBody st) t ∧ t { nx := fun _ H' => Q .non H', rt := Q } (start N vs) H) : Cal P w K mg base (k + 1) x sp [] := by
  obtain ⟨f, fd, F, b⟩ := D.ex
  exact cal0 F b .nil S len fun cdv A outer s H vs Q E hr h => hbody f cdv A outer s H vs Q E hr h
/-! ### is_list, is_row -/
abbrev s_is_list : Stmt := top 1
theorem sc_is_list : FnScope ["thing"] ["thing"] (fnScope s_is_list) := fnScope_by (by decide +kernel)
def sp_is_list (K : PySem.W.Frag) : Sp := fun vs H Q _ => ∃ v d fp, vs = [v] ∧ Rep K H v d fp ∧ ∀ H', Same H H' → Q (.bl (isTy d "list" || isTy d "tuple")) H'
theorem ok_is_list (D : DefB K mg "is_list" s_is_list ["thing"]) (B : Bt mg) : Cal P w K mg base 1 "is_list" (sp_is_list K) [] := by
  have sc := sc_is_list
  refine D.cal sc (fun vs H Q E h => ?_) (fun f cdv A outer s H vs Q E hr h => ?_)
  · obtain ⟨v, d, fp, rfl, _⟩ := h
    rfl
  · obtain ⟨v, d, fp, rfl, r, k⟩ := h
    refine ⟨_, (pss_one (ps_ret (pe_callB call_isiT rfl B.isinstance (by decide +kernel) (pa_cons (pv 0) (pa_cons (pe_tup (pa_cons (pe_bltn (v := .ty "list") rfl B.list (by decide +kernel) rfl) (pa_cons (pe_bltn (v := .ty "tuple") rfl B.tuple (by decide +kernel) rfl) pa_nil))) pa_nil))))), ?_⟩
    refine ⟨_, rfl, by decide, fun p hp => ?_⟩
    refine ⟨_, p, _, _, _, _, rfl, upd_same, cls_any ["list", "tuple"], (r.same (same_new hp _)).tyx, kit_any d ["list", "tuple"] (by decide), ?_⟩
    rw [show ["list", "tuple"].any (isTy d) = (isTy d "list" || isTy d "tuple") by simp]
    exact k _ (same_new hp _)
/-- the parts of a list or tuple -/
def kids : Dt → Option (List Dt)
  | .lst xs => some xs
  | .tup xs => some xs
  | _ => none
def isRow (d : Dt) (m : Int) : Bool := match kids d with
  | some xs => decide ((xs.length : Int) = m)
  | none => false
abbrev s_is_row : Stmt := top 2
theorem sc_is_row : FnScope ["thing", "many"] ["thing", "many"] (fnScope s_is_row) := fnScope_by (by decide +kernel)
def sp_is_row (K : PySem.W.Frag) : Sp := fun vs H Q _ => ∃ v d fp m, vs = [v, .int m] ∧ Rep K H v d fp ∧ ∀ H', Same H H' → Q (.bl (isRow d m)) H'
/-- the sequence at a value with parts -/
theorem Rep.seq {H : Hp} {v : V} {d : Dt} {fp : List Addr} {ds : List Dt} (h : Rep K H v d fp) (e : kids d = some ds) : ∃ a xs fp', v = .ref a ∧ (SqL K H a xs ∨ SqT K H a xs) ∧ Reps K H xs ds fp' ∧ ∀ b ∈ fp', b ∈ fp := by
  cases h with
  | lst h r => cases e; exact ⟨_, _, _, rfl, .inl (SqL.of h), r, fun b hb => List.mem_cons_of_mem _ hb⟩
  | tup h r => cases e; exact ⟨_, _, _, rfl, .inr h, r, fun b hb => hb⟩
  | non => cases e
  | bl b => cases e
  | int i => cases e
  | str x => cases e
  | emp h => cases e
theorem kids_ty (d : Dt) : (isTy d "list" || isTy d "tuple") = (kids d).isSome := by
  cases d <;> rfl
theorem ok_is_row (D : DefB K mg "is_row" s_is_row ["thing", "many"]) (B : Bt mg) (C_is_list : Cal P w K mg base 1 "is_list" (sp_is_list K) []) : Cal P w K mg base 2 "is_row" (sp_is_row K) [] := by
  have sc := sc_is_row
  refine D.cal sc (fun vs H Q E h => ?_) (fun f cdv A outer s H vs Q E hr h => ?_)
  · obtain ⟨v, d, fp, m, rfl, _⟩ := h
    rfl
  · obtain ⟨v, d, fp, m, rfl, r, k⟩ := h
    refine ⟨_, (pss_one (ps_ret (pe_and (pe_c C_is_list hr (by omega) rfl (pa_cons (pv 0) pa_nil)) (pe_one (pe_cmpR op_eq (pe_callB call_len_seq rfl B.len (by decide +kernel) (pa_cons (pv 0) pa_nil)) (pv 1) (nomark _)))))), ?_⟩
    refine ⟨_, rfl, _, d, fp, rfl, r, fun H' e => ⟨_, rfl, ?_⟩⟩
    rw [kids_ty]
    cases hk : kids d with
    | none =>
      refine iteF ?_
      have q := k H' e
      unfold isRow at q
      rw [hk] at q
      exact q
    | some ds =>
      refine iteT ?_
      obtain ⟨a, xs, fp', rfl, hq, rs, _⟩ := (r.same e).seq hk
      refine ⟨_, rfl, a, xs, rfl, hq, _, rfl, rfl, ?_⟩
      have q := k H' e
      unfold isRow at q
      rw [hk] at q
      rw [rs.len]
      show Q (.bl (decide (V.int (ds.length : Int) = V.int m))) H'
      rw [show decide (V.int (ds.length : Int) = V.int m) = decide ((ds.length : Int) = m) by simp]
      exact q
/-! ### the draws -/
structure Strm (H : Hp) (st q : Addr) (n : Nat) : Prop where
  ex : ∃ (cs : List Int) (x1 x2 x3 : Int), H st = some (.lst [.ref q, .int x1, .int x2, .int x3]) ∧ H q = some (.lst (cs.map V.int)) ∧ 0 ≤ x1 ∧ 0 ≤ x2 ∧ x2 ≤ n ∧ 0 ≤ x3 ∧ x3 < 2147483647
abbrev At2 (st q : Addr) : Addr → Prop := fun a => a = st ∨ a = q
theorem Strm.ne {H : Hp} {st q : Addr} {n : Nat} (S : Strm H st q n) : st ≠ q := by
  obtain ⟨cs, x1, x2, x3, h1, h2, _⟩ := S.ex
  refine ne_of h1 h2 fun z => ?_
  have z' := HO.lst.inj z
  cases cs with
  | nil => cases z'
  | cons c cs => injection z' with z1 _; cases z1
theorem Strm.same {H H' : Hp} {st q : Addr} {n : Nat} (S : Strm H st q n) (e : Same H H') : Strm H' st q n := by
  obtain ⟨cs, x1, x2, x3, h1, h2, h3⟩ := S.ex
  exact ⟨cs, x1, x2, x3, e _ _ h1, e _ _ h2, h3⟩
theorem Strm.noTup {H : Hp} {st q : Addr} {n : Nat} (S : Strm H st q n) : NoTup (At2 st q) H := fun a ha => by
  obtain ⟨cs, x1, x2, x3, h1, h2, _⟩ := S.ex
  rcases ha with z | z
  · exact noTup_one h1 z (fun xs q => nomatch q) (fun o xs q => nomatch q)
  · exact noTup_one h2 z (fun xs q => nomatch q) (fun o xs q => nomatch q)
theorem Strm.more {H : Hp} {st q : Addr} {n m : Nat} (S : Strm H st q n) (h : n ≤ m) : Strm H st q m := by
  obtain ⟨cs, x1, x2, x3, h1, h2, h3, h4, h5, h6⟩ := S.ex
  exact ⟨cs, x1, x2, x3, h1, h2, h3, h4, by omega, h6⟩
abbrev s_draw : Stmt := top 28
theorem sc_draw : FnScope ["stream", "many", "cell", "digit", "mixed"] ["stream", "many"] (fnScope s_draw) := fnScope_by (by decide +kernel)
def sp_draw : Sp := fun vs H Q _ => ∃ (st q : Addr) (n : Nat) (m : Int), vs = [.ref st, .int m] ∧ Strm H st q n ∧ n < 2 ^ 40 ∧ 0 < m ∧ m < 1073741824 ∧
  ∀ (r : Int) (H' : Hp), 0 ≤ r → r < m → Strm H' st q (n + 1) → Kp (At2 st q) H H' → Q (.int r) H'
theorem dp_ints {H : Hp} {q : Addr} {cs : List Int} (h : H q = some (.lst (cs.map V.int))) : Dp K H (.ref q) (.list (cs.map PyData.int)) :=
  .lst (SqL.of h) (by
    clear h
    induction cs with
    | nil => exact .nil
    | cons c cs ih => exact .cons (.int c) ih)
theorem sh_ints (cs : List Int) : SeqAt.shaped (.list (cs.map PyData.int)) = true := by
  have h1 : ∀ cs : List Int, PyData.canLayAll0 (cs.map PyData.int) = true := fun cs => by
    induction cs with
    | nil => rfl
    | cons c cs ih => exact ih
  have h2 : ∀ cs : List Int, PyData.depthAll (cs.map PyData.int) = 0 := fun cs => by
    induction cs with
    | nil => rfl
    | cons c cs ih => 
      show max 0 (PyData.depthAll (cs.map PyData.int)) = 0
      rw [ih]
      rfl
  show (PyData.canLayAll0 (cs.map PyData.int) && decide (PyData.depthAll (cs.map PyData.int) + 1 ≤ 64)) = true
  rw [h1, h2]
  rfl
theorem ite_dec {p A B : Prop} [Decidable p] (h1 : p → A) (h2 : ¬ p → B) : if decide p = true then A else B := by
  by_cases h : p
  · rw [decide_eq_true h]; exact iteT (h1 h)
  · rw [decide_eq_false h]; exact iteF (h2 h)
theorem ite_b {b : Bool} {A B : Prop} (h1 : b = true → A) (h2 : b = false → B) : if b = true then A else B := by
  cases b with
  | true => exact iteT (h1 rfl)
  | false => exact iteF (h2 rfl)
theorem seq0 (n : Nat) : seqIndex? 0 (n + 1) = some 0 := by
  unfold seqIndex?
  simp
theorem ok_draw (D : DefB K mg "_law_draw" s_draw ["stream", "many"]) (B : Bt mg) : Cal P w K mg base 1 "_law_draw" sp_draw [] := by
  have sc := sc_draw
  refine D.cal sc (fun vs H Q E h => ?_) (fun f cdv A outer s H vs Q E hr h => ?_)
  · obtain ⟨st, q, n, m, rfl, _⟩ := h
    rfl
  · obtain ⟨st, q, n, m, rfl, S, hn, hm, hm2, k⟩ := h
    have nq := S.ne
    obtain ⟨cs, x1, x2, x3, h1, h2, b1, b2, b3, b4, b5⟩ := S.ex
    refine ⟨_, (pss_cons (ps_asg (pe_op op_add (pe_ix ix_list (pv 0) pe_int (fun _ _ => rfl)) pe_int) (pg_sub (pv 0) pe_int set_list))
  (pss_cut (ps_while PassesOwn.never (PW.pt (pw_and (pt_cmpR op_eq (pe_ix ix_list (pv 0) pe_int (fun _ _ => rfl)) pe_int (nomark _)) (pw_and1 (pt_cmpR (op_neD hr.units) (pe_ix ix_list (pv 0) pe_int (fun _ _ => rfl)) (pe_lst pa_nil) (nomark _))))) (pss_cons (ps_set (i := 2) sc.nd rfl (Or.inl rfl) (pe_callB call_abs rfl B.abs (by decide +kernel) (pa_cons (pe_bm PySem.F.plainAttrs_list PySem.F.slot_list_pop PySem.F.type_list_pop mt_popAt (pe_ix ix_list (pv 0) pe_int (fun _ _ => rfl)) (pa_cons pe_int pa_nil)) pa_nil)))
  (pss_cons (ps_asg (pe_op op_mod (pe_callTy call_int1 rfl B.int (by decide +kernel) (pa_cons (pe_op op_add (pe_op op_add (pe_op op_mul (pe_ix ix_list (pv 0) pe_int (fun _ _ => rfl)) pe_int) (pv 2)) pe_int) pa_nil)) pe_int) (pg_sub (pv 0) pe_int set_list))
  (pss_one (ps_asg (pe_ifExp (pt_cmpR op_ge (pv 2) (pe_op op_pow pe_int pe_int) (nomark _)) (pv 2) pe_int) (pg_sub (pv 0) pe_int set_list))))))
  (pss_cons (ps_if (pt_cmpR op_gt (pe_ix ix_list (pv 0) pe_int (fun _ _ => rfl)) pe_int (nomark _)) (pss_cons (ps_set (i := 3) sc.nd rfl (Or.inl rfl) (pe_op op_mod (pe_callTy call_int1 rfl B.int (by decide +kernel) (pa_cons (pe_ix ix_list (pv 0) pe_int (fun _ _ => rfl)) pa_nil)) (pv 1)))
  (pss_cons (ps_asg (pe_op op_fdiv (pe_ix ix_list (pv 0) pe_int (fun _ _ => rfl)) (pv 1)) (pg_sub (pv 0) pe_int set_list))
  (pss_one (ps_ret (pv 3))))) pss_nil)
  (pss_cons (ps_set (i := 4) sc.nd rfl (Or.inl rfl) (pe_op op_mod (pe_callTy call_int1 rfl B.int (by decide +kernel) (pa_cons (pe_op op_pow (pe_op op_add (pe_op op_add (pe_ix ix_list (pv 0) pe_int (fun _ _ => rfl)) (pe_op op_mul pe_int (pe_ix ix_list (pv 0) pe_int (fun _ _ => rfl)))) pe_int) pe_int) pa_nil)) pe_int))
  (pss_one (ps_ret (pe_op op_mod (pe_op op_mod (pe_callTy call_int1 rfl B.int (by decide +kernel) (pa_cons (pe_op op_pow (pe_op op_add (pe_op op_add (pe_op op_mul (pv 4) pe_int) (pe_op op_mul pe_int (pe_ix ix_list (pv 0) pe_int (fun _ _ => rfl)))) pe_int) pe_int) pa_nil)) pe_int) (pv 1)))))))), ?_⟩
    -- stream[2] = stream[2] + 1
    refine ⟨_, rfl, st, _, 2, _, rfl, rfl, SqL.of h1, rfl, _, _, rfl, rfl, _, rfl, st, _, 2, 2, rfl, rfl, h1, rfl, ?_⟩
    refine ⟨fun σ' H' => ∃ (cs' : List Int) (y1 y3 : Int) (c : Option V), σ' = [some (.ref st), some (.int m), c, none, none] ∧ H' st = some (.lst [.ref q, .int y1, .int (x2 + 1), .int y3]) ∧
      H' q = some (.lst (cs'.map V.int)) ∧ 0 ≤ y1 ∧ 0 ≤ y3 ∧ y3 < 2147483647 ∧ Kp (At2 st q) H H', ?_, ?_⟩
    · refine ⟨fun l σ' H' => ∃ (cs' : List Int) (y1 y3 : Int) (c : Option V), l = cs'.length ∧ σ' = [some (.ref st), some (.int m), c, none, none] ∧ H' st = some (.lst [.ref q, .int y1, .int (x2 + 1), .int y3]) ∧
        H' q = some (.lst (cs'.map V.int)) ∧ 0 ≤ y1 ∧ 0 ≤ y3 ∧ y3 < 2147483647 ∧ Kp (At2 st q) H H', ⟨cs.length, cs, x1, x3, none, rfl, rfl, upd_same, (by rw [upd_ne nq.symm]; exact h2), b1, b4, b5, kp_upd (.inl rfl) _⟩, ?_⟩
      rintro l σ' H' ⟨cs', y1, y3, c, rfl, rfl, g1, g2, a1, a3, a4, ke⟩
      refine ⟨_, rfl, st, _, 1, _, rfl, rfl, SqL.of g1, rfl, rfl, _, rfl, ?_⟩
      refine ite_dec (fun e => ?_) (fun e => ?_)
      · have e0 : y1 = 0 := V.int.inj e
        subst e0
        refine ⟨_, rfl, st, _, 0, _, rfl, rfl, SqL.of g1, rfl, by decide, fun p hp => ?_⟩
        have ps : st ≠ p := ne_of_none g1 hp
        have pq : q ≠ p := ne_of_none g2 hp
        have g1' : (upd H' p (.lst [])) st = _ := (upd_ne ps).trans g1
        have g2' : (upd H' p (.lst [])) q = _ := (upd_ne pq).trans g2
        have kp1 : Kp (At2 st q) H (upd H' p (.lst [])) := ke.trans (kp_new hp _)
        refine ⟨_, _, dp_ints g2', .lst (SqL.of upd_same) .nil, sh_ints _, by decide, _, rfl, ?_⟩
        cases cs' with
        | nil =>
          refine iteF ?_
          exact ⟨[], 0, y3, c, rfl, g1', g2', a1, a3, a4, kp1⟩
        | cons c0 cr =>
          refine iteT ?_
          refine ⟨fun σ2 H2 => ∃ (z1 z3 : Int) (c : Option V), σ2 = [some (.ref st), some (.int m), c, none, none] ∧ H2 st = some (.lst [.ref q, .int z1, .int (x2 + 1), .int z3]) ∧
            H2 q = some (.lst (cr.map V.int)) ∧ 0 ≤ z1 ∧ 0 ≤ z3 ∧ z3 < 2147483647 ∧ Kp (At2 st q) H H2, fun σ2 H2 w => ?_, ?_⟩
          · obtain ⟨z1, z3, c', rfl, d1, d2, d3, d4, d5, d6⟩ := w
            exact ⟨cr.length, Nat.lt_succ_self _, cr, z1, z3, c', rfl, rfl, d1, d2, d3, d4, d5, d6⟩
          refine ⟨_, rfl, st, _, 0, _, rfl, rfl, SqL.of g1', rfl, .inl ⟨rfl, _, SqL.of g2'⟩, q, _, 0, 0, _, rfl, rfl, g2', by decide, by decide, seq0 _, rfl, _, rfl, ?_⟩
          have g1a : (upd (upd H' p (.lst [])) q (.lst (cr.map V.int))) st = some (.lst [.ref q, .int 0, .int (x2 + 1), .int y3]) := (upd_ne nq).trans g1'
          have kp2 : Kp (At2 st q) H (upd (upd H' p (.lst [])) q (.lst (cr.map V.int))) := kp1.trans (kp_upd (.inr rfl) _)
          -- stream[3] = int(stream[3] * 8191 + cell + 3) % 2147483647
          refine ⟨_, rfl, st, _, 3, _, rfl, rfl, SqL.of g1a, rfl, _, _, rfl, rfl, .inl ⟨by omega, by omega⟩, _, rfl, _, _, rfl, rfl, _, _, rfl, rfl, .inl ⟨_, rfl, _, _, rfl, rfl, (by show (0 : Int) < 2147483647; decide), _, rfl, st, _, 3, 3, rfl, rfl, g1a, rfl, ?_⟩⟩
          have hc1 : 0 ≤ (if c0 < 0 then -c0 else c0) := by split <;> omega
          have hz1 : 0 ≤ (y3 * 8191 + (if c0 < 0 then -c0 else c0) + 3) % 2147483647 := by omega
          have hz2 : (y3 * 8191 + (if c0 < 0 then -c0 else c0) + 3) % 2147483647 < 2147483647 := by omega
          -- stream[1] = cell if cell >= 10 ** 18 else 0
          refine ⟨_, rfl, _, _, rfl, rfl, ⟨by decide, by decide, by decide⟩, _, _, rfl, rfl, _, rfl, ite_dec (fun _ => ?_) (fun _ => ?_)⟩
          · refine ⟨_, rfl, _, rfl, st, _, 1, 1, rfl, rfl, upd_same, rfl, ?_⟩
            exact ⟨_, _, _, rfl, upd_same, (upd_ne nq.symm).trans ((upd_ne nq.symm).trans upd_same), hc1, hz1, hz2, (kp2.trans (kp_upd (.inl rfl) _)).trans (kp_upd (.inl rfl) _)⟩
          · refine ⟨_, rfl, st, _, 1, 1, rfl, rfl, upd_same, rfl, ?_⟩
            exact ⟨0, _, _, rfl, upd_same, (upd_ne nq.symm).trans ((upd_ne nq.symm).trans upd_same), by decide, hz1, hz2, (kp2.trans (kp_upd (.inl rfl) _)).trans (kp_upd (.inl rfl) _)⟩
      · refine iteF ?_
        exact ⟨cs', y1, y3, c, rfl, g1, g2, a1, a3, a4, ke⟩
    · rintro σ' H' ⟨cs', y1, y3, c, rfl, g1, g2, a1, a3, a4, ke⟩
      have fin : ∀ (H'' : Hp) (z1 r : Int), H'' st = some (.lst [.ref q, .int z1, .int (x2 + 1), .int y3]) → H'' q = some (.lst (cs'.map V.int)) → 0 ≤ z1 → Kp (At2 st q) H H'' → 0 ≤ r → r < m → Q (.int r) H'' := fun H'' z1 r e1 e2 e3 e4 e5 e6 =>
        k r H'' e5 e6 ⟨cs', z1, x2 + 1, y3, e1, e2, e3, by omega, by omega, a3, a4⟩ e4
      -- if stream[1] > 0
      refine ⟨_, rfl, st, _, 1, _, rfl, rfl, SqL.of g1, rfl, _, _, rfl, rfl, _, rfl, ite_dec (fun e => ?_) (fun e => ?_)⟩
      · refine ⟨_, rfl, st, _, 1, _, rfl, rfl, SqL.of g1, rfl, .inl ⟨_, rfl, _, rfl, _, _, rfl, rfl, hm, ?_⟩⟩
        refine ⟨_, rfl, st, _, 1, _, rfl, rfl, SqL.of g1, rfl, _, rfl, _, _, rfl, rfl, ⟨hm, hm2⟩, _, rfl, st, _, 1, 1, rfl, rfl, g1, rfl, _, rfl, ?_⟩
        exact fin _ (y1 / m) _ upd_same (by rw [upd_ne nq.symm]; exact g2) (Int.ediv_nonneg a1 (by omega)) (ke.trans (kp_upd (.inl rfl) _)) (Int.emod_nonneg _ (by omega)) (Int.emod_lt_of_pos _ hm)
      · -- mixed
        refine ⟨_, rfl, st, _, 3, _, rfl, rfl, SqL.of g1, rfl, _, rfl, st, _, 2, _, rfl, rfl, SqL.of g1, rfl, _, _, rfl, rfl, .inl ⟨by decide, by decide⟩, _, _, rfl, rfl, _, _, rfl, rfl, _, _, rfl, rfl, ⟨by decide, by decide, ?_⟩, .inl ⟨_, rfl, _, _, rfl, rfl, (by show (0 : Int) < 2147483629; decide), ?_⟩⟩
        · omega
        · have hm0 : 0 ≤ ((y3 + 7919 * (x2 + 1) + 104729) ^ (Int.toNat 5)) % 2147483629 := by omega
          have hm1 : ((y3 + 7919 * (x2 + 1) + 104729) ^ (Int.toNat 5)) % 2147483629 < 2147483629 := by omega
          refine ⟨_, rfl, _, _, rfl, rfl, .inl ⟨by omega, by omega⟩, _, rfl, st, _, 2, _, rfl, rfl, SqL.of g1, rfl, _, _, rfl, rfl, .inl ⟨by decide, by decide⟩, _, _, rfl, rfl, _, _, rfl, rfl, _, _, rfl, rfl, ⟨by decide, by decide, ?_⟩, .inl ⟨_, rfl, _, _, rfl, rfl, (by show (0 : Int) < 1000000007; decide), _, rfl, _, _, rfl, rfl, hm, ?_⟩⟩
          · omega
          · exact fin _ y1 _ g1 g2 a1 ke (Int.emod_nonneg _ (by omega)) (Int.emod_lt_of_pos _ hm)
end
end K54

set_option Elab.async false
set_option linter.all false
set_option maxRecDepth 100000
set_option maxHeartbeats 4000000
namespace K54
open PySem PySem.Spec PyProof.Rows L2 C8 RZ LiI
section
variable {P : Program} {w : World} {K : PySem.W.Frag} {mg : Str → Option Value} {base : Heap}
/-! ### _law_stream, _law_pick -/
abbrev s_stream : Stmt := top 27
theorem sc_stream : FnScope ["script"] ["script"] (fnScope s_stream) := fnScope_by (by decide +kernel)
def sp_stream (K : PySem.W.Frag) : Sp := fun vs H Q _ => ∃ (a : Addr) (ns : List Int), vs = [.ref a] ∧ SqL K H a (ns.map V.int) ∧ ∀ st q H', Same H H' → H st = none → H q = none → Strm H' st q 0 → Q (.ref st) H'
theorem ok_stream (D : DefB K mg "_law_stream" s_stream ["script"]) (B : Bt mg) : Cal P w K mg base 1 "_law_stream" (sp_stream K) [] := by
  have sc := sc_stream
  refine D.cal sc (fun vs H Q E h => ?_) (fun f cdv A outer s H vs Q E hr h => ?_)
  · obtain ⟨a, ns, rfl, _⟩ := h
    rfl
  · obtain ⟨a, ns, rfl, hS, k⟩ := h
    refine ⟨_, (pss_one (ps_ret (pe_lst (pa_cons (pe_callTy call_list_of rfl B.list (by decide +kernel) (pa_cons (pv 0) pa_nil)) (pa_cons pe_int (pa_cons pe_int (pa_cons pe_int pa_nil))))))), ?_⟩
    refine ⟨_, rfl, a, _, rfl, .inl hS, fun q hq => ?_⟩
    refine ⟨(by show 4 ≤ sizeLine; decide), fun st hs => ?_⟩
    have nsq : st ≠ q := fun z => by rw [z, upd_same] at hs; cases hs
    have e1 := same_new hq (.lst (ns.map V.int))
    refine k st q _ (e1.trans (same_new hs _)) (e1.free hs) hq ⟨ns, 0, 0, 17, upd_same, (by rw [upd_ne nsq.symm, upd_same]), by decide, by decide, by decide, by decide, by decide⟩
abbrev s_pick : Stmt := top 29
theorem sc_pick : FnScope ["stream", "things"] ["stream", "things"] (fnScope s_pick) := fnScope_by (by decide +kernel)
def sp_pick : Sp := fun vs H Q _ => ∃ (st q t : Addr) (n : Nat) (xs : List V), vs = [.ref st, .ref t] ∧ Strm H st q n ∧ n < 2 ^ 40 ∧ H t = some (.lst xs) ∧ xs ≠ [] ∧ xs.length < 1073741824 ∧ t ≠ st ∧ t ≠ q ∧
  ∀ (i : Nat) (x : V) (H' : Hp), xs[i]? = some x → Strm H' st q (n + 1) → Kp (At2 st q) H H' → Q x H'
theorem ok_pick (D : DefB K mg "_law_pick" s_pick ["stream", "things"]) (B : Bt mg) (C_law_draw : Cal P w K mg base 1 "_law_draw" sp_draw []) : Cal P w K mg base 2 "_law_pick" sp_pick [] := by
  have sc := sc_pick
  refine D.cal sc (fun vs H Q E h => ?_) (fun f cdv A outer s H vs Q E hr h => ?_)
  · obtain ⟨st, q, t, n, xs, rfl, _⟩ := h
    rfl
  · obtain ⟨st, q, t, n, xs, rfl, S, hn, ht, hx, hl, n1, n2, k⟩ := h
    refine ⟨_, (pss_one (ps_ret (pe_ix ix_list (pv 1) (pe_c C_law_draw hr (by omega) rfl (pa_cons (pv 0) (pa_cons (pe_callB call_len_seq rfl B.len (by decide +kernel) (pa_cons (pv 1) pa_nil)) pa_nil))) (fun _ _ => rfl)))), ?_⟩
    have hl0 : 0 < xs.length := List.length_pos_iff.mpr hx
    refine ⟨_, rfl, _, rfl, _, rfl, t, xs, rfl, .inl (SqL.of ht), st, q, n, _, rfl, S, hn, (by omega), (by omega), fun r H' r0 r1 S' ke => ?_⟩
    have ht' : H' t = some (.lst xs) := ke t _ ht (fun z => z.elim n1 n2)
    obtain ⟨j, rfl⟩ : ∃ j : Nat, r = (j : Int) := ⟨r.toNat, by omega⟩
    have hj : j < xs.length := by omega
    refine ⟨t, xs, _, xs[j], rfl, rfl, SqL.of ht', atI_nat (by simp [hj]), ?_⟩
    exact k j _ H' (by simp [hj]) S' ke
/-! ### _law_same -/
/-- what is looked at within -/
def sub : Dt → Option (List Dt)
  | .lst xs => some xs
  | .tup xs => some xs
  | .emp => some [.lst []]
  | _ => none
/-- not deeper than n, no list longer than a thousand -/
def DepLe : Nat → Dt → Prop
  | 0, d => sub d = none
  | n + 1, d => ∀ ds, sub d = some ds → ds.length ≤ 1000 ∧ ∀ x ∈ ds, DepLe n x
theorem DepLe.mono : ∀ {n m : Nat} {d : Dt}, DepLe n d → n ≤ m → DepLe m d
  | 0, 0, d, h, _ => h
  | 0, m + 1, d, h, _ => fun ds e => by rw [show sub d = none from h] at e; cases e
  | n + 1, m + 1, d, h, l => fun ds e => ⟨(h ds e).1, fun x hx => ((h ds e).2 x hx).mono (Nat.le_of_succ_le_succ l)⟩
/-- a def whose promise asks what can't be -/
theorem DefB.none {x : Str} {st : Stmt} {ps : List Str} {sp : Sp} (D : DefB K mg x st ps) (h : ∀ vs H Q E, ¬ sp vs H Q E) : Cal P w K mg base 0 x sp [] := by
  obtain ⟨f, fd, F, b⟩ := D.ex
  exact ⟨f, fd, ps, [], ⟨fun vs H Q E z => absurd z (h vs H Q E), fun A outer s H args us vs Q E _ _ _ _ z => absurd z (h vs H Q E)⟩, F.mgf, F.kp, b, .nil⟩
theorem ite_f {b : Bool} {A B : Prop} (h : b = false) (q : B) : if b = true then A else B := by rw [h]; exact iteF q
theorem ite_t {b : Bool} {A B : Prop} (h : b = true) (q : A) : if b = true then A else B := by rw [h]; exact iteT q
theorem q_true {Q : VK} {H : Hp} {x : V} (h : Q (.bl true) H) : Q (.bl (decide (x = x))) H := by rw [decide_eq_true rfl]; exact h
theorem same_upd {H H' : Hp} {a : Addr} {o : HO} (e : Same H H') (h : H a = none) : Same H (upd H' a o) := fun b u eb => by rw [upd_ne (ne_of_none eb h)]; exact e b u eb
theorem sqL_same {H H' : Hp} {a : Addr} {xs : List V} (e : Same H H') (h : SqL K H a xs) : SqL K H' a xs := e.seq h
abbrev s_same : Stmt := top 30
theorem sc_same : FnScope ["found", "due", "mine", "theirs"] ["found", "due"] (fnScope s_same) := fnScope_by (by decide +kernel)
/-- two bearers of one thing are the same -/
def sp_same (K : PySem.W.Frag) (n : Nat) : Sp := fun vs H Q _ => ∃ (v u : V) (d : Dt) (f1 f2 : List Addr) (m : Nat), vs = [v, u] ∧ Rep K H v d f1 ∧ Rep K H u d f2 ∧ m + 1 = n ∧ DepLe m d ∧ ∀ H', Same H H' → Q (.bl true) H'
theorem ok_same1 {n : Nat} (D : DefB K mg "_law_same" s_same ["found", "due"]) (B : Bt mg) (C_law_same : Cal P w K mg base n "_law_same" (sp_same K n) []) : Cal P w K mg base (n + 1) "_law_same" (sp_same K (n + 1)) [] := by
  have sc := sc_same
  refine D.cal sc (fun vs H Q E h => ?_) (fun f cdv A outer s H vs Q E hr h => ?_)
  · obtain ⟨v, u, d, f1, f2, m, rfl, _⟩ := h
    rfl
  · obtain ⟨v, u, d, f1, f2, m, rfl, r1, r2, hm, hd, k⟩ := h
    refine ⟨_, (pss_cons (ps_if (pt_val (pe_callB call_isiT rfl B.isinstance (by decide +kernel) (pa_cons (pv 1) (pa_cons (pe_tup (pa_cons (pe_bltn (v := .ty "list") rfl B.list (by decide +kernel) rfl) (pa_cons (pe_bltn (v := .ty "tuple") rfl B.tuple (by decide +kernel) rfl) pa_nil))) pa_nil)))) (pss_cons (ps_if (PW.pt (pw_or (pt_cmpR op_ne (pe_callB call_isi rfl B.isinstance (by decide +kernel) (pa_cons (pv 0) (pa_cons (pe_bltn (v := .ty "list") rfl B.list (by decide +kernel) rfl) pa_nil))) (pe_callB call_isi rfl B.isinstance (by decide +kernel) (pa_cons (pv 1) (pa_cons (pe_bltn (v := .ty "list") rfl B.list (by decide +kernel) rfl) pa_nil))) (nomark _)) (pw_or1 (pt_cmpR op_ne (pe_callB call_isi rfl B.isinstance (by decide +kernel) (pa_cons (pv 0) (pa_cons (pe_bltn (v := .ty "tuple") rfl B.tuple (by decide +kernel) rfl) pa_nil))) (pe_callB call_isi rfl B.isinstance (by decide +kernel) (pa_cons (pv 1) (pa_cons (pe_bltn (v := .ty "tuple") rfl B.tuple (by decide +kernel) rfl) pa_nil))) (nomark _))))) (pss_one (ps_ret pe_bl)) pss_nil)
  (pss_one (ps_ret (pe_and (pe_cmpR op_eq (pe_callB call_len_seq rfl B.len (by decide +kernel) (pa_cons (pv 0) pa_nil)) (pe_callB call_len_seq rfl B.len (by decide +kernel) (pa_cons (pv 1) pa_nil)) (nomark _)) (pe_one (pe_callB (cr_all rfl) rfl B.all (by decide +kernel) (pa_cons (pe_lc (own := [("mine", 2), ("theirs", 3)]) (g := gTup K 2 (gCons (gName 2) (gCons (gName 3) gNil))) rfl sc.nd (pi_zipA rfl B.zip (pa_cons (pv 0) (pa_cons (pv 1) pa_nil))) (blkOk_by (own := [("mine", 2), ("theirs", 3)]) (N := ["found", "due", "mine", "theirs"]) (sc := fnScope s_same) (by decide +kernel)) (fun _ _ _ _ _ => (pg_tup rfl (pgs_cons (pg_name (i := 2) sc.nd rfl (Or.inl rfl)) (pgs_cons (pg_name (i := 3) sc.nd rfl (Or.inl rfl)) pgs_nil)))) (fun _ _ _ _ _ => pts_nil) (fun _ _ _ _ _ => (pe_c C_law_same hr (by omega) rfl (pa_cons (pv 2) (pa_cons (pv 3) pa_nil))))) pa_nil))))))) pss_nil)
  (pss_cons (ps_if (pt_val (pe_callB call_isi rfl B.isinstance (by decide +kernel) (pa_cons (pv 1) (pa_cons (pe_bltn (v := .ty "dict") rfl B.dict (by decide +kernel) rfl) pa_nil)))) (pss_one (ps_ret (pe_and (pe_callB call_isi rfl B.isinstance (by decide +kernel) (pa_cons (pv 0) (pa_cons (pe_bltn (v := .ty "dict") rfl B.dict (by decide +kernel) rfl) pa_nil))) (pe_one (pe_c C_law_same hr (by omega) rfl (pa_cons (pe_listItems rfl (pv 0) rfl B.list (by decide +kernel)) (pa_cons (pe_listItems rfl (pv 1) rfl B.list (by decide +kernel)) pa_nil))))))) pss_nil)
  (pss_cons (ps_if (PW.pt (pw_or (pt_val (pe_callB call_isi rfl B.isinstance (by decide +kernel) (pa_cons (pv 1) (pa_cons (pe_bltn (v := .ty "bool") rfl B.bool (by decide +kernel) rfl) pa_nil)))) (pw_or1 (pt_val (pe_callB call_isi rfl B.isinstance (by decide +kernel) (pa_cons (pv 0) (pa_cons (pe_bltn (v := .ty "bool") rfl B.bool (by decide +kernel) rfl) pa_nil))))))) (pss_one (ps_ret (pe_and (pe_callB call_isi rfl B.isinstance (by decide +kernel) (pa_cons (pv 1) (pa_cons (pe_bltn (v := .ty "bool") rfl B.bool (by decide +kernel) rfl) pa_nil))) (pe_and (pe_callB call_isi rfl B.isinstance (by decide +kernel) (pa_cons (pv 0) (pa_cons (pe_bltn (v := .ty "bool") rfl B.bool (by decide +kernel) rfl) pa_nil))) (pe_one (pe_cmpR op_eq (pv 0) (pv 1) (nomark _))))))) pss_nil)
  (pss_cons (ps_if (PW.pt (pw_or (pt_cmpR op_isN (pv 1) pe_non (nomark _)) (pw_or1 (pt_cmpR op_isN (pv 0) pe_non (nomark _))))) (pss_one (ps_ret (pe_and (pe_cmpR op_isN (pv 1) pe_non (nomark _)) (pe_one (pe_cmpR op_isN (pv 0) pe_non (nomark _)))))) pss_nil)
  (pss_cons (ps_if (PW.pt (pw_or (pt_cmpR op_ne (pe_callB call_isi rfl B.isinstance (by decide +kernel) (pa_cons (pv 1) (pa_cons (pe_bltn (v := .ty "int") rfl B.int (by decide +kernel) rfl) pa_nil))) (pe_callB call_isi rfl B.isinstance (by decide +kernel) (pa_cons (pv 0) (pa_cons (pe_bltn (v := .ty "int") rfl B.int (by decide +kernel) rfl) pa_nil))) (nomark _)) (pw_or1 (pt_cmpR op_ne (pe_callB call_isi rfl B.isinstance (by decide +kernel) (pa_cons (pv 1) (pa_cons (pe_bltn (v := .ty "str") rfl B.str (by decide +kernel) rfl) pa_nil))) (pe_callB call_isi rfl B.isinstance (by decide +kernel) (pa_cons (pv 0) (pa_cons (pe_bltn (v := .ty "str") rfl B.str (by decide +kernel) rfl) pa_nil))) (nomark _))))) (pss_one (ps_ret pe_bl)) pss_nil)
  (pss_one (ps_ret (pe_and (pe_not (pe_callB call_isiT rfl B.isinstance (by decide +kernel) (pa_cons (pv 0) (pa_cons (pe_tup (pa_cons (pe_bltn (v := .ty "list") rfl B.list (by decide +kernel) rfl) (pa_cons (pe_bltn (v := .ty "tuple") rfl B.tuple (by decide +kernel) rfl) (pa_cons (pe_bltn (v := .ty "dict") rfl B.dict (by decide +kernel) rfl) pa_nil)))) pa_nil)))) (pe_one (pe_cmpR op_eq (pv 0) (pv 1) (nomark _))))))))))), ?_⟩
    -- isinstance(due, (list, tuple))
    refine ⟨_, rfl, by decide, fun p hp => ⟨_, p, _, _, _, _, rfl, upd_same, cls_any ["list", "tuple"], (r2.same (same_new hp _)).tyx, kit_any d ["list", "tuple"] (by decide), _, rfl, ite_b (fun e => ?_) (fun e => ?_)⟩⟩
    · have e' : (kids d).isSome = true := by rw [← kids_ty, ← e]; simp
      cases d with
      | lst ds =>
        have r1' := r1.same (same_new hp (.tup [.ty "list", .ty "tuple"]))
        have r2' := r2.same (same_new hp (.tup [.ty "list", .ty "tuple"]))
        refine ⟨_, rfl, _, _, _, _, _, rfl, .ty _, r1'.tyx, kit_is _ "list" (by decide), _, rfl, _, _, _, _, _, rfl, .ty _, r2'.tyx, kit_is _ "list" (by decide), rfl, _, rfl, iteNS rfl ?_⟩
        refine ⟨_, rfl, _, _, _, _, _, rfl, .ty _, r1'.tyx, kit_is _ "tuple" (by decide), _, rfl, _, _, _, _, _, rfl, .ty _, r2'.tyx, kit_is _ "tuple" (by decide), rfl, _, rfl, iteNS rfl ?_⟩
        have e0 := same_new hp (.tup [.ty "list", .ty "tuple"])
        cases r1 with
        | lst h1 rs1 =>
        cases r2 with
        | lst h2 rs2 =>
          refine ⟨_, rfl, _, _, rfl, (.inl (sqL_same e0 (SqL.of h1))), _, rfl, _, _, rfl, (.inl (sqL_same e0 (SqL.of h2))), rfl, _, rfl, ite_dec (fun _ => ?_) (fun z => absurd (by rw [rs1.len, rs2.len]) z)⟩
          refine ⟨_, rfl, _, rfl, _, _, _, _, rfl, .inl ⟨(sqL_same e0 (SqL.of h1)), (sqL_same e0 (SqL.of h2)), fun L hL => ?_⟩⟩
          refine lc_it (walk_zip rfl) (fun i H2 => Same (upd H p (.tup [.ty "list", .ty "tuple"])) H2 ∧ H2 L = some (.lst (List.replicate i (V.bl true)))) ⟨same_new hL _, upd_same⟩ (fun i H2 hi pv => ⟨(sqL_same (e0.trans pv.1) (SqL.of h1)), (sqL_same (e0.trans pv.1) (SqL.of h2))⟩) (fun i x H2 H3 hi pv y => ?_) (fun H2 pv => ?_)
          · obtain ⟨T, x, z, rfl, hT, rfl, hx, hz⟩ := y
            obtain ⟨dx, fx, gx, mx, rx, _⟩ := rs1.at hx
            obtain ⟨dz, fz, gz, mz, rz, _⟩ := rs2.at hz
            rw [gx] at gz
            cases gz
            have eT := (e0.trans pv.1).trans (same_new hT (.tup [x, z]))
            cases m with
            | zero => exact absurd hd (by intro z; cases z)
            | succ m' =>
              refine ⟨T, [x, z], rfl, SqT.of upd_same, rfl, _, _, rfl, _, _, rfl, rfl, rfl, ?_⟩

              refine ⟨_, rfl, _, rfl, x, z, dx, _, _, m', rfl, rx.same eT, rz.same eT, by omega, (hd ds rfl).2 dx mx, fun H4 e4 => ?_⟩
              have eL := e4 _ _ (same_new hT (.tup [x, z]) _ _ pv.2)
              refine ⟨_, eL, ?_, same_upd (pv.1.trans ((same_new hT _).trans e4)) hL, ?_⟩
              · rw [List.length_replicate]
                have l1 := (hd ds rfl).1
                have l2 := rs1.len
                exact small1000 (by omega)
              · rw [upd_same, List.replicate_succ']
          · refine ⟨L, List.replicate _ true, rfl, SqL.of (by rw [List.map_replicate]; exact pv.2), ?_⟩
            rw [show (List.replicate (min _ _) true).all id = true by simp]
            exact k _ (e0.trans pv.1)
      | tup ds =>
        have r1' := r1.same (same_new hp (.tup [.ty "list", .ty "tuple"]))
        have r2' := r2.same (same_new hp (.tup [.ty "list", .ty "tuple"]))
        refine ⟨_, rfl, _, _, _, _, _, rfl, .ty _, r1'.tyx, kit_is _ "list" (by decide), _, rfl, _, _, _, _, _, rfl, .ty _, r2'.tyx, kit_is _ "list" (by decide), rfl, _, rfl, iteNS rfl ?_⟩
        refine ⟨_, rfl, _, _, _, _, _, rfl, .ty _, r1'.tyx, kit_is _ "tuple" (by decide), _, rfl, _, _, _, _, _, rfl, .ty _, r2'.tyx, kit_is _ "tuple" (by decide), rfl, _, rfl, iteNS rfl ?_⟩
        have e0 := same_new hp (.tup [.ty "list", .ty "tuple"])
        cases r1 with
        | tup h1 rs1 =>
        cases r2 with
        | tup h2 rs2 =>
          refine ⟨_, rfl, _, _, rfl, (.inr (Same.sqT e0 h1)), _, rfl, _, _, rfl, (.inr (Same.sqT e0 h2)), rfl, _, rfl, ite_dec (fun _ => ?_) (fun z => absurd (by rw [rs1.len, rs2.len]) z)⟩
          refine ⟨_, rfl, _, rfl, _, _, _, _, rfl, .inr ⟨(Same.sqT e0 h1), (Same.sqT e0 h2), fun L hL => ?_⟩⟩
          refine lc_it (walk_zipT rfl) (fun i H2 => Same (upd H p (.tup [.ty "list", .ty "tuple"])) H2 ∧ H2 L = some (.lst (List.replicate i (V.bl true)))) ⟨same_new hL _, upd_same⟩ (fun i H2 hi pv => ⟨(Same.sqT (e0.trans pv.1) h1), (Same.sqT (e0.trans pv.1) h2)⟩) (fun i x H2 H3 hi pv y => ?_) (fun H2 pv => ?_)
          · obtain ⟨T, x, z, rfl, hT, rfl, hx, hz⟩ := y
            obtain ⟨dx, fx, gx, mx, rx, _⟩ := rs1.at hx
            obtain ⟨dz, fz, gz, mz, rz, _⟩ := rs2.at hz
            rw [gx] at gz
            cases gz
            have eT := (e0.trans pv.1).trans (same_new hT (.tup [x, z]))
            cases m with
            | zero => exact absurd hd (by intro z; cases z)
            | succ m' =>
              refine ⟨T, [x, z], rfl, SqT.of upd_same, rfl, _, _, rfl, _, _, rfl, rfl, rfl, ?_⟩

              refine ⟨_, rfl, _, rfl, x, z, dx, _, _, m', rfl, rx.same eT, rz.same eT, by omega, (hd ds rfl).2 dx mx, fun H4 e4 => ?_⟩
              have eL := e4 _ _ (same_new hT (.tup [x, z]) _ _ pv.2)
              refine ⟨_, eL, ?_, same_upd (pv.1.trans ((same_new hT _).trans e4)) hL, ?_⟩
              · rw [List.length_replicate]
                have l1 := (hd ds rfl).1
                have l2 := rs1.len
                exact small1000 (by omega)
              · rw [upd_same, List.replicate_succ']
          · refine ⟨L, List.replicate _ true, rfl, SqL.of (by rw [List.map_replicate]; exact pv.2), ?_⟩
            rw [show (List.replicate (min _ _) true).all id = true by simp]
            exact k _ (e0.trans pv.1)
      | non => cases e'
      | bl b => cases e'
      | int b => cases e'
      | str b => cases e'
      | emp => cases e'
    · -- none of the two
      have e' : (kids d).isSome = false := by rw [← kids_ty, ← e]; simp
      have e0 := same_new hp (.tup [.ty "list", .ty "tuple"])
      have r1' := r1.same e0
      have r2' := r2.same e0
      refine ⟨_, rfl, _, _, _, _, _, rfl, .ty _, r2'.tyx, kit_is _ "dict" (by decide), _, rfl, ite_b (fun ed => ?_) (fun ed => ?_)⟩
      · cases d with
        | emp =>
          cases r1 with
          | emp h1 =>
          cases r2 with
          | emp h2 =>
          refine ⟨_, rfl, _, _, _, _, _, rfl, .ty _, r1'.tyx, kit_is _ "dict" (by decide), _, rfl, ite_t rfl ?_⟩
          refine ⟨_, rfl, _, [], rfl, e0 _ _ h1, fun H1 p1 ts1 s1 n1 _ _ hp1 pd1 => ?_⟩
          refine ⟨_, rfl, _, [], rfl, s1 _ _ (e0 _ _ h2), fun H2 p2 ts2 s2 n2 _ _ hp2 pd2 => ?_⟩
          cases pd1
          cases pd2
          cases m with
          | zero => exact absurd hd (by intro z; cases z)
          | succ m' =>
            exact ⟨_, _, .lst [], _, _, m', rfl, .lst (s2 _ _ hp1) .nil, .lst hp2 .nil, by omega, (hd _ rfl).2 _ (List.mem_cons_self ..), fun H3 s3 => k _ (((e0.trans s1).trans s2).trans s3)⟩
        | non => exact Bool.noConfusion (show false = true from ed)
        | bl b => exact Bool.noConfusion (show false = true from ed)
        | int b => exact Bool.noConfusion (show false = true from ed)
        | str b => exact Bool.noConfusion (show false = true from ed)
        | lst b => cases e'
        | tup b => cases e'
      · cases d with
        | emp => exact Bool.noConfusion (show true = false from ed)
        | lst b => cases e'
        | tup b => cases e'
        | int i =>
          cases r1 with
          | int i =>
          cases r2 with
          | int i =>
          refine ⟨_, rfl, _, _, _, _, _, rfl, .ty _, r2'.tyx, kit_is _ "bool" (by decide), _, rfl, ite_f rfl ⟨_, rfl, _, _, _, _, _, rfl, .ty _, r1'.tyx, kit_is _ "bool" (by decide), _, rfl, ite_f rfl ?_⟩⟩
          refine ⟨_, rfl, rfl, _, rfl, ite_f rfl ⟨_, rfl, rfl, _, rfl, ite_f rfl ?_⟩⟩
          refine ⟨_, rfl, _, _, _, _, _, rfl, .ty _, r2'.tyx, kit_is _ "int" (by decide), _, rfl, _, _, _, _, _, rfl, .ty _, r1'.tyx, kit_is _ "int" (by decide), rfl, _, rfl, iteNS rfl ?_⟩
          refine ⟨_, rfl, _, _, _, _, _, rfl, .ty _, r2'.tyx, kit_is _ "str" (by decide), _, rfl, _, _, _, _, _, rfl, .ty _, r1'.tyx, kit_is _ "str" (by decide), rfl, _, rfl, iteNS rfl ?_⟩
          refine ⟨_, rfl, by decide, fun p2 hp2 => ⟨_, p2, _, _, _, _, rfl, upd_same, cls_any ["list", "tuple", "dict"], (r1'.same (same_new hp2 _)).tyx, kit_any _ ["list", "tuple", "dict"] (by decide), _, rfl, _, rfl, ite_t rfl ⟨_, rfl, _, rfl, rfl, q_true (k _ (e0.trans (same_new hp2 _)))⟩⟩⟩
        | str x =>
          cases r1 with
          | str x =>
          cases r2 with
          | str x =>
          refine ⟨_, rfl, _, _, _, _, _, rfl, .ty _, r2'.tyx, kit_is _ "bool" (by decide), _, rfl, ite_f rfl ⟨_, rfl, _, _, _, _, _, rfl, .ty _, r1'.tyx, kit_is _ "bool" (by decide), _, rfl, ite_f rfl ?_⟩⟩
          refine ⟨_, rfl, rfl, _, rfl, ite_f rfl ⟨_, rfl, rfl, _, rfl, ite_f rfl ?_⟩⟩
          refine ⟨_, rfl, _, _, _, _, _, rfl, .ty _, r2'.tyx, kit_is _ "int" (by decide), _, rfl, _, _, _, _, _, rfl, .ty _, r1'.tyx, kit_is _ "int" (by decide), rfl, _, rfl, iteNS rfl ?_⟩
          refine ⟨_, rfl, _, _, _, _, _, rfl, .ty _, r2'.tyx, kit_is _ "str" (by decide), _, rfl, _, _, _, _, _, rfl, .ty _, r1'.tyx, kit_is _ "str" (by decide), rfl, _, rfl, iteNS rfl ?_⟩
          refine ⟨_, rfl, by decide, fun p2 hp2 => ⟨_, p2, _, _, _, _, rfl, upd_same, cls_any ["list", "tuple", "dict"], (r1'.same (same_new hp2 _)).tyx, kit_any _ ["list", "tuple", "dict"] (by decide), _, rfl, _, rfl, ite_t rfl ⟨_, rfl, _, rfl, rfl, q_true (k _ (e0.trans (same_new hp2 _)))⟩⟩⟩
        | non =>
          cases r1 with
          | non =>
          cases r2 with
          | non =>
          refine ⟨_, rfl, _, _, _, _, _, rfl, .ty _, r2'.tyx, kit_is _ "bool" (by decide), _, rfl, ite_f rfl ⟨_, rfl, _, _, _, _, _, rfl, .ty _, r1'.tyx, kit_is _ "bool" (by decide), _, rfl, ite_f rfl ?_⟩⟩
          refine ⟨_, rfl, rfl, _, rfl, ite_t rfl ⟨_, rfl, rfl, _, rfl, ite_t rfl ⟨_, rfl, rfl, q_true (k _ e0)⟩⟩⟩
        | bl b =>
          cases r1 with
          | bl b =>
          cases r2 with
          | bl b =>
          refine ⟨_, rfl, _, _, _, _, _, rfl, .ty _, r2'.tyx, kit_is _ "bool" (by decide), _, rfl, ite_t rfl ?_⟩
          refine ⟨_, rfl, _, _, _, _, _, rfl, .ty _, r2'.tyx, kit_is _ "bool" (by decide), _, rfl, ite_t rfl ?_⟩
          refine ⟨_, rfl, _, _, _, _, _, rfl, .ty _, r1'.tyx, kit_is _ "bool" (by decide), _, rfl, ite_t rfl ?_⟩
          exact ⟨_, rfl, _, rfl, rfl, q_true (k _ e0)⟩
/-- _law_same at every depth -/
theorem ok_same (D : DefB K mg "_law_same" s_same ["found", "due"]) (B : Bt mg) : ∀ n, Cal P w K mg base n "_law_same" (sp_same K n) []
  | 0 => D.none fun vs H Q E h => by
    obtain ⟨v, u, d, f1, f2, m, _, _, _, hm, _⟩ := h
    cases hm
  | n + 1 => ok_same1 D B (ok_same D B n)
end
end K54

set_option Elab.async false
set_option linter.all false
set_option maxRecDepth 100000
set_option maxHeartbeats 4000000
namespace K54
open PySem PySem.Spec PyProof.Rows L2 C8 RZ LiI
mutual
def spoil : Dt → Dt
  | .lst xs => .lst (spoils xs ++ [.str "late"])
  | .tup xs => .tup (spoils xs)
  | .non => .non
  | .bl b => .bl b
  | .int i => .int i
  | .str x => .str x
  | .emp => .emp
def spoils : List Dt → List Dt
  | [] => []
  | x :: xs => spoil x :: spoils xs
end
theorem spoils_app : ∀ (xs ys : List Dt), spoils (xs ++ ys) = spoils xs ++ spoils ys
  | [], ys => rfl
  | x :: xs, ys => by rw [List.cons_append, spoils, spoils, spoils_app xs ys, List.cons_append]
theorem DepLe.len {m : Nat} {d : Dt} {ds : List Dt} (h : DepLe m d) (e : sub d = some ds) : ds.length ≤ 1000 := by
  cases m with
  | zero => rw [show sub d = none from h] at e; cases e
  | succ m => exact (h ds e).1
/-- i of the parts are spoilt -/
def Half (K : PySem.W.Frag) (H : Hp) (xs : List V) (ds : List Dt) (fq : List Addr) (i : Nat) : Prop :=
  ∃ xs1 xs2 ds1 ds2 f1 f2, xs = xs1 ++ xs2 ∧ ds = ds1 ++ ds2 ∧ xs1.length = i ∧ fq = f1 ++ f2 ∧ Reps K H xs1 (spoils ds1) f1 ∧ Reps K H xs2 ds2 f2
theorem Half.done {K : PySem.W.Frag} {H : Hp} {xs : List V} {ds : List Dt} {fq : List Addr} (h : Half K H xs ds fq xs.length) : Reps K H xs (spoils ds) fq := by
  obtain ⟨xs1, xs2, ds1, ds2, f1, f2, rfl, rfl, hl, rfl, ra, rb⟩ := h
  have e : xs2 = [] := by
    rw [List.length_append] at hl
    exact List.length_eq_zero_iff.mp (by omega)
  subst e
  cases rb with
  | nil => simpa using ra
theorem sqL_kp {K : PySem.W.Frag} {S : Addr → Prop} {H H' : Hp} {a : Addr} {xs : List V} (k : Kp S H H') (n : ¬ S a) (h : SqL K H a xs) : SqL K H' a xs := by
  rcases h with (h | ⟨o, h⟩) | h
  · exact .inl (.inl (k _ _ h n))
  · exact .inl (.inr ⟨o, k _ _ h n⟩)
  · exact .inr h
theorem noTup_eq {H : Hp} {a : Addr} {u : HO} (e : H a = some u) (h1 : ∀ xs, u ≠ .tup xs) (h2 : ∀ o xs, u ≠ .frz o (.tup xs)) : NoTup (· = a) H := fun b hb => noTup_one e hb h1 h2
section
variable {P : Program} {w : World} {K : PySem.W.Frag} {mg : Str → Option Value} {base : Heap}
abbrev s_spoilt : Stmt := top 31
theorem sc_spoilt : FnScope ["thing", "part"] ["thing"] (fnScope s_spoilt) := fnScope_by (by decide +kernel)
/-- every list within is longer by one; nothing else that was tracked changes -/
def sp_spoilt (K : PySem.W.Frag) (n : Nat) : Sp := fun vs H Q _ => ∃ (v : V) (d : Dt) (fp : List Addr) (m : Nat), vs = [v] ∧ Rep K H v d fp ∧ fp.Nodup ∧ m + 1 = n ∧ DepLe m d ∧ ∀ H', Rep K H' v (spoil d) fp → Kp (· ∈ fp) H H' → Q .non H'
theorem ok_spoilt1 {n : Nat} (D : DefB K mg "_law_spoilt" s_spoilt ["thing"]) (B : Bt mg) (C_law_spoilt : Cal P w K mg base n "_law_spoilt" (sp_spoilt K n) []) : Cal P w K mg base (n + 1) "_law_spoilt" (sp_spoilt K (n + 1)) [] := by
  have sc := sc_spoilt
  refine D.cal sc (fun vs H Q E h => ?_) (fun f cdv A outer s H vs Q E hr h => ?_)
  · obtain ⟨v, d, fp, m, rfl, _⟩ := h
    rfl
  · obtain ⟨v, d, fp, m, rfl, r, nd, hm, hd, k⟩ := h
    refine ⟨_, (pss_cons (ps_if (pt_val (pe_callB call_isiT rfl B.isinstance (by decide +kernel) (pa_cons (pv 0) (pa_cons (pe_tup (pa_cons (pe_bltn (v := .ty "list") rfl B.list (by decide +kernel) rfl) (pa_cons (pe_bltn (v := .ty "tuple") rfl B.tuple (by decide +kernel) rfl) pa_nil))) pa_nil)))) (pss_one (ps_for PassesOwn.never rfl (pi_seq (pv 0)) (pg_name (i := 1) sc.nd rfl (Or.inl rfl)) (pss_one (ps_expr (pe_c C_law_spoilt hr (by omega) rfl (pa_cons (pv 1) pa_nil)))))) pss_nil)
  (pss_one (ps_if (pt_val (pe_callB call_isi rfl B.isinstance (by decide +kernel) (pa_cons (pv 0) (pa_cons (pe_bltn (v := .ty "list") rfl B.list (by decide +kernel) rfl) pa_nil)))) (pss_one (ps_expr (pe_bm PySem.F.plainAttrs_list PySem.F.slot_list_append PySem.F.type_list_append mt_append (pv 0) (pa_cons pe_str pa_nil)))) pss_nil))), ?_⟩
    refine ⟨_, rfl, by decide, fun p hp => ⟨_, p, _, _, _, _, rfl, upd_same, cls_any ["list", "tuple"], (r.same (same_new hp _)).tyx, kit_any d ["list", "tuple"] (by decide), _, rfl, ?_⟩⟩
    have e0 := same_new hp (.tup [.ty "list", .ty "tuple"])
    have r' := r.same e0
    -- one turn
    have turn : ∀ (H2 : Hp) (xs : List V) (ds : List Dt) (fq : List Addr) (i : Nat) (x : V), fq.Nodup → sub d = some ds → xs[i]? = some x → Half K H2 xs ds fq i →
        ∀ Q2 : Hp → Prop, (∀ H3, Kp (· ∈ fq) H2 H3 → NoTup (· ∈ fq) H2 → Half K H3 xs ds fq (i + 1) → Q2 H3) → sp_spoilt K n [x] H2 (fun _ H3 => Q2 H3) C8.E0 := by
      rintro H2 xs ds fq i x ndq hsub hx ⟨xs1, xs2, ds1, ds2, f1, f2, rfl, rfl, rfl, rfl, ra, rb⟩ Q2 q
      rw [List.getElem?_append_right (Nat.le_refl _), Nat.sub_self] at hx
      cases xs2 with
      | nil => cases hx
      | cons x0 xs2 =>
        have ex : x0 = x := Option.some.inj hx
        subst ex
        have ntA : NoTup (· ∈ f1 ++ f2) H2 := (ra.app rb).nt
        cases rb with
        | @cons _ _ d0 ds0 g g' rx rr =>
          have nd2 := List.nodup_append.mp ndq
          have nd3 := List.nodup_append.mp nd2.2.1
          cases m with
          | zero => rw [show sub d = none from hd] at hsub; cases hsub
          | succ m' =>
            refine ⟨x0, d0, g, m', rfl, rx, nd3.1, by omega, (hd _ hsub).2 d0 (List.mem_append_right _ (List.mem_cons_self ..)), fun H3 r3 k3 => ?_⟩
            have nt := Rep.nt _ _ _ rx
            refine q H3 (k3.mono fun b hb => List.mem_append_right _ (List.mem_append_left _ hb)) ntA
              ⟨xs1 ++ [x0], xs2, ds1 ++ [d0], ds0, f1 ++ g, g', by simp, by simp, by simp, by simp, ?_, rr.keep k3 nt fun b hb hg => nd3.2.2 b hg b hb rfl⟩
            rw [spoils_app]
            exact (ra.keep k3 nt fun b hb hg => nd2.2.2 b hb b (List.mem_append_left _ hg) rfl).snoc r3
    refine ite_b (fun e => ?_) (fun e => ?_)
    · have e' : (kids d).isSome = true := by rw [← kids_ty, ← e]; simp
      cases d with
      | lst ds =>
        cases r with
        | @lst a xs _ fq h1 rs =>
        have rs1 := rs.same e0
        have ndq : fq.Nodup := (List.nodup_cons.mp nd).2
        refine ⟨_, rfl, _, xs, rfl, .inl ⟨sqL_same e0 (SqL.of h1), for_it walk_list (fun i σ' H2 => (∃ y, σ' = [some (.ref a), y]) ∧ Half K H2 xs ds fq i ∧ Kp (· ∈ fq) H H2 ∧ SqL K H2 a xs)
          ⟨⟨_, rfl⟩, ⟨[], xs, [], ds, [], fq, rfl, rfl, rfl, rfl, .nil, rs1⟩, Kp.of_same e0, sqL_same e0 (SqL.of h1)⟩ (fun i σ' H2 _ w => w.2.2.2) (fun i x σ' H2 H3 hi w y => ?_) (fun σ' H2 w => ?_)⟩⟩
        · obtain ⟨rfl, hx⟩ := y
          obtain ⟨⟨y0, rfl⟩, hw, kw, sw⟩ := w
          refine ⟨_, rfl, turn _ xs ds fq i x ndq rfl hx hw _ fun H4 k4 nt4 hw4 => ⟨⟨_, rfl⟩, hw4, kw.trans k4, ?_⟩⟩
          exact sqL_kp k4 (fun z => (List.nodup_cons.mp nd).1 z) sw
        · obtain ⟨⟨y0, rfl⟩, hw, kw, sw⟩ := w
          have hd0 := hw.done
          have na : a ∉ fq := (List.nodup_cons.mp nd).1
          have h2 : H2 a = some (.lst xs) := kw _ _ h1 na
          refine ⟨_, rfl, _, _, _, _, _, rfl, .ty _, .base (.lst h2), kit_is (.lst ds) "list" (by decide), _, rfl, ite_t rfl ?_⟩
          refine ⟨_, rfl, .inl ⟨rfl, _, SqL.of h2⟩, a, xs, _, rfl, rfl, h2, ?_, k _ (.lst upd_same ?_) (fun b o eb nb => ?_)⟩
          · have l1 := hd.len rfl
            have l2 := rs.len
            exact small1000 (by omega)
          · have q := (hd0.keep (kp_upd (S := (· = a)) rfl (.lst (xs ++ [.str "late"]))) (noTup_eq h2 (fun xs z => nomatch z) (fun o xs z => nomatch z)) (fun b hb z => na (z ▸ hb))).snoc (.str ("late" : Str))
            rw [List.append_nil] at q
            exact q
          · rw [upd_ne (fun z => nb (by rw [z]; exact List.mem_cons_self ..))]
            exact kw b o eb (fun z => nb (List.mem_cons_of_mem _ z))
      | tup ds =>
        cases r with
        | @tup a xs _ _ h1 rs =>
        have rs1 := rs.same e0
        have ndq := nd
        refine ⟨_, rfl, _, xs, rfl, .inr ⟨Same.sqT e0 h1, for_it walk_tup (fun i σ' H2 => (∃ y, σ' = [some (.ref a), y]) ∧ Half K H2 xs ds fp i ∧ Kp (· ∈ fp) H H2 ∧ SqT K H2 a xs)
          ⟨⟨_, rfl⟩, ⟨[], xs, [], ds, [], fp, rfl, rfl, rfl, rfl, .nil, rs1⟩, Kp.of_same e0, Same.sqT e0 h1⟩ (fun i σ' H2 _ w => w.2.2.2) (fun i x σ' H2 H3 hi w y => ?_) (fun σ' H2 w => ?_)⟩⟩
        · obtain ⟨rfl, hx⟩ := y
          obtain ⟨⟨y0, rfl⟩, hw, kw, sw⟩ := w
          refine ⟨_, rfl, turn _ xs ds fp i x ndq rfl hx hw _ fun H4 k4 nt4 hw4 => ⟨⟨_, rfl⟩, hw4, kw.trans k4, ?_⟩⟩
          exact sqT_kp k4 nt4 sw
        · obtain ⟨⟨y0, rfl⟩, hw, kw, sw⟩ := w
          have hd0 := hw.done
          refine ⟨_, rfl, _, _, _, _, _, rfl, .ty _, tyx_tup sw, kit_is (.tup ds) "list" (by decide), _, rfl, ite_f rfl ?_⟩
          exact k _ (.tup sw hd0) kw
      | non => cases e'
      | bl b => cases e'
      | int b => cases e'
      | str b => cases e'
      | emp => cases e'
    · have e' : (kids d).isSome = false := by rw [← kids_ty, ← e]; simp
      have nl : isTy d "list" = false := by
        cases d with
        | lst ds => cases e'
        | non => rfl
        | bl b => rfl
        | int b => rfl
        | str b => rfl
        | emp => rfl
        | tup ds => cases e'
      refine ⟨_, rfl, _, _, _, _, _, rfl, .ty _, r'.tyx, kit_is d "list" (by decide), _, rfl, ite_f nl ?_⟩
      have e2 : spoil d = d := by
        cases d with
        | lst ds => cases e'
        | non => rfl
        | bl b => rfl
        | int b => rfl
        | str b => rfl
        | emp => rfl
        | tup ds => cases e'
      exact k _ (by rw [e2]; exact r') (Kp.of_same e0)
theorem ok_spoilt (D : DefB K mg "_law_spoilt" s_spoilt ["thing"]) (B : Bt mg) : ∀ n, Cal P w K mg base n "_law_spoilt" (sp_spoilt K n) []
  | 0 => D.none fun vs H Q E h => by
    obtain ⟨v, d, fp, m, _, _, _, hm, _⟩ := h
    cases hm
  | n + 1 => ok_spoilt1 D B (ok_spoilt D B n)
end
end K54

set_option Elab.async false
set_option linter.all false
set_option maxRecDepth 100000
set_option maxHeartbeats 4000000
namespace K54
open PySem PySem.Spec PyProof.Rows L2 C8 RZ LiI
/-- no dict within, so deep as one looks -/
def NoE : Nat → Dt → Prop
  | 0, d => sub d = none
  | n + 1, d => d ≠ .emp ∧ ∀ ds, kids d = some ds → ds.length ≤ 1000 ∧ ∀ x ∈ ds, NoE n x
theorem NoE.ne {n : Nat} {d : Dt} (h : NoE n d) : d ≠ .emp := by
  cases n with
  | zero => intro e; rw [e] at h; cases (show sub .emp = none from h)
  | succ n => exact h.1
theorem NoE.len {n : Nat} {d : Dt} {ds : List Dt} (h : NoE n d) (e : kids d = some ds) : ds.length ≤ 1000 := by
  cases n with
  | zero =>
    have h : sub d = none := h
    cases d <;> first | (cases e; done) | (cases h; done)
  | succ n => exact (h.2 ds e).1
theorem NoE.dep : ∀ {n : Nat} {d : Dt}, NoE n d → DepLe n d
  | 0, d, h => h
  | n + 1, d, h => fun ds e => by
    have e' : kids d = some ds := by
      cases d with
      | emp => exact absurd rfl h.1
      | lst xs => exact e
      | tup xs => exact e
      | non => exact e
      | bl b => exact e
      | int b => exact e
      | str b => exact e
    exact ⟨(h.2 ds e').1, fun x hx => ((h.2 ds e').2 x hx).dep⟩
theorem NoE.mono : ∀ {n m : Nat} {d : Dt}, NoE n d → n ≤ m → NoE m d
  | 0, 0, d, h, _ => h
  | 0, m + 1, d, h, _ => ⟨NoE.ne (n := 0) h, fun ds e => by
    have h : sub d = none := h
    cases d <;> first | (cases e; done) | (cases h; done)⟩
  | n + 1, m + 1, d, h, l => ⟨h.1, fun ds e => ⟨(h.2 ds e).1, fun x hx => ((h.2 ds e).2 x hx).mono (Nat.le_of_succ_le_succ l)⟩⟩
/-- i parts are made anew: the list at L bears them -/
structure Made (K : PySem.W.Frag) (H1 H2 : Hp) (L : Addr) (ds : List Dt) : Prop where
  ex : ∃ (acc : List V) (fp : List Addr), H2 L = some (.lst acc) ∧ Reps K H2 acc ds fp ∧ Fresh H1 fp ∧ fp.Nodup ∧ L ∉ fp
theorem Made.nil {K : PySem.W.Frag} {H1 H2 : Hp} {L : Addr} (h : H2 L = some (.lst [])) : Made K H1 H2 L [] := ⟨[], [], h, .nil, fresh_nil, List.nodup_nil, fun z => nomatch z⟩
/-- one part more: v, made by a call from H2 to H4 that leaves L's list -/
theorem Made.snoc {K : PySem.W.Frag} {H1 H2 H4 : Hp} {L : Addr} {ds : List Dt} {v : V} {d : Dt} {g : List Addr} {S : Addr → Prop} (h : Made K H1 H2 L ds) (s1 : Same H1 H2 ∨ ∀ a, H2 a = none → H1 a = none) (k : Kp S H2 H4) (nt : NoTup S H2) (hL : ¬ S L) (hS : ∀ a, S a → H1 a ≠ none)
    (n : New K H2 H4 v d g) : ∃ acc, H4 L = some (.lst acc) ∧ acc.length = ds.length ∧ Made K H1 (upd H4 L (.lst (acc ++ [v]))) L (ds ++ [d]) := by
  obtain ⟨acc, fp, hl, r, fr, nd, nL⟩ := h.ex
  have h4 : H4 L = some (.lst acc) := k _ _ hl hL
  have gL : L ∉ g := fun z => by
    have q := n.fresh L z
    rw [hl] at q
    cases q
  have r4 : Reps K H4 acc ds fp := r.keep k nt fun a ha z => hS a z (fr a ha)
  have ku : Kp (· = L) H4 (upd H4 L (.lst (acc ++ [v]))) := kp_upd (S := (· = L)) rfl _
  have nt4 : NoTup (· = L) H4 := noTup_eq h4 (fun xs z => nomatch z) (fun o xs z => nomatch z)
  refine ⟨acc, h4, r.len, acc ++ [v], fp ++ g, upd_same, (r4.keep ku nt4 fun a ha z => nL (z ▸ ha)).snoc (n.rep.keep ku nt4 _ _ _ fun a ha z => gL (z ▸ ha)), ?_, nodup_app nd n.nd fun a ha z => r.trk a z (n.fresh a ha), fun z => ?_⟩
  · refine fr.app fun a ha => ?_
    rcases s1 with s1 | s1
    · exact s1.free (n.fresh a ha)
    · exact s1 a (n.fresh a ha)
  · rcases List.mem_append.mp z with z | z
    · exact nL z
    · exact gL z
section
variable {P : Program} {w : World} {K : PySem.W.Frag} {mg : Str → Option Value} {base : Heap}
abbrev s_copied : Stmt := top 32
theorem sc_copied : FnScope ["thing", "some", "key", "one"] ["thing"] (fnScope s_copied) := fnScope_by (by decide +kernel)
def sp_copied (K : PySem.W.Frag) (n : Nat) : Sp := fun vs H Q _ => ∃ (v : V) (d : Dt) (fp : List Addr) (m : Nat), vs = [v] ∧ Rep K H v d fp ∧ m + 1 = n ∧ NoE m d ∧ ∀ v' fp' H', Same H H' → New K H H' v' d fp' → Q v' H'
theorem ok_copied1 {n : Nat} (D : DefB K mg "_law_copied" s_copied ["thing"]) (B : Bt mg) (C_law_copied : Cal P w K mg base n "_law_copied" (sp_copied K n) []) : Cal P w K mg base (n + 1) "_law_copied" (sp_copied K (n + 1)) [] := by
  have sc := sc_copied
  refine D.cal sc (fun vs H Q E h => ?_) (fun f cdv A outer s H vs Q E hr h => ?_)
  · obtain ⟨v, d, fp, m, rfl, _⟩ := h
    rfl
  · obtain ⟨v, d, fp, m, rfl, r, hm, hd, k⟩ := h
    refine ⟨_, (pss_cons (ps_if (pt_val (pe_callB call_isi rfl B.isinstance (by decide +kernel) (pa_cons (pv 0) (pa_cons (pe_bltn (v := .ty "dict") rfl B.dict (by decide +kernel) rfl) pa_nil)))) (pss_one ps_never) pss_nil)
  (pss_cons (ps_set (i := 1) sc.nd rfl (Or.inl rfl) (pe_ifExp (pt_val (pe_callB call_isiT rfl B.isinstance (by decide +kernel) (pa_cons (pv 0) (pa_cons (pe_tup (pa_cons (pe_bltn (v := .ty "list") rfl B.list (by decide +kernel) rfl) (pa_cons (pe_bltn (v := .ty "tuple") rfl B.tuple (by decide +kernel) rfl) pa_nil))) pa_nil)))) (pe_lc (own := [("one", 3)]) (g := gName 3) rfl sc.nd (pi_seq (pv 0)) (blkOk_by (own := [("one", 3)]) (N := ["thing", "some", "key", "one"]) (sc := fnScope s_copied) (by decide +kernel)) (fun _ _ _ _ _ => (pg_name (i := 3) sc.nd rfl (Or.inl rfl))) (fun _ _ _ _ _ => pts_nil) (fun _ _ _ _ _ => (pe_c C_law_copied hr (by omega) rfl (pa_cons (pv 3) pa_nil)))) (pv 0)))
  (pss_one (ps_ret (pe_ifExp (pt_val (pe_callB call_isi rfl B.isinstance (by decide +kernel) (pa_cons (pv 0) (pa_cons (pe_bltn (v := .ty "tuple") rfl B.tuple (by decide +kernel) rfl) pa_nil)))) (pe_callTy call_tuple_of rfl B.tuple (by decide +kernel) (pa_cons (pv 1) pa_nil)) (pv 1)))))), ?_⟩
    have nd : isTy d "dict" = false := by
      have z := hd.ne
      cases d with
      | emp => exact absurd rfl z
      | non => rfl
      | bl b => rfl
      | int b => rfl
      | str b => rfl
      | lst b => rfl
      | tup b => rfl
    refine ⟨_, rfl, _, _, _, _, _, rfl, .ty _, r.tyx, kit_is d "dict" (by decide), _, rfl, ite_f nd ?_⟩
    refine ⟨_, rfl, by decide, fun p hp => ⟨_, p, _, _, _, _, rfl, upd_same, cls_any ["list", "tuple"], (r.same (same_new hp _)).tyx, kit_any d ["list", "tuple"] (by decide), _, rfl, ?_⟩⟩
    have e0 := same_new hp (.tup [.ty "list", .ty "tuple"])
    refine ite_b (fun e => ?_) (fun e => ?_)
    · have e' : (kids d).isSome = true := by rw [← kids_ty, ← e]; simp
      cases d with
      | lst ds =>
        cases r with
        | @lst a xs _ _ h1 rs =>
        refine ⟨_, rfl, a, xs, rfl, .inl ⟨sqL_same e0 (SqL.of h1), fun L hL => lc_it walk_list (fun i H2 => Same (upd H p (.tup [.ty "list", .ty "tuple"])) H2 ∧ Made K (upd H p (.tup [.ty "list", .ty "tuple"])) H2 L (ds.take i))
          ⟨same_new hL _, .nil upd_same⟩ (fun i H2 _ pv => sqL_same (e0.trans pv.1) (SqL.of h1)) (fun i x H2 H3 hi pv y => ?_) (fun H2 pv => ?_)⟩⟩
        · obtain ⟨rfl, hx⟩ := y
          obtain ⟨dx, fx, gx, mx, rx, _⟩ := rs.at hx
          cases m with
          | zero => exact absurd hd (by intro z; cases z)
          | succ m' =>
            refine ⟨rfl, ?_⟩
            refine ⟨_, rfl, x, dx, fx, m', rfl, rx.same (e0.trans pv.1), by omega, (hd.2 ds rfl).2 dx mx, fun v' f' H4 s4 n4 => ?_⟩
            obtain ⟨acc, q1, q2, q3⟩ := pv.2.snoc (S := fun _ => False) (.inl pv.1) (Kp.of_same s4) noTup_none id (fun _ z => z.elim) n4
            refine ⟨acc, q1, ?_, same_upd (pv.1.trans s4) hL, by rw [List.take_add_one, gx]; exact q3⟩
            rw [q2, List.length_take]
            have l1 := hd.len rfl
            exact small1000 (by omega)
        · obtain ⟨acc, f2, g1, g2, g3, g4, g5⟩ := pv.2.ex
          rw [rs.len, List.take_length] at g2
          have s2 := e0.trans pv.1
          refine ⟨_, rfl, _, _, _, _, _, rfl, .ty _, .base (.lst (s2 _ _ h1)), kit_is (.lst ds) "tuple" (by decide), _, rfl, ite_f rfl ?_⟩
          refine ⟨_, rfl, k _ _ _ s2 ⟨.lst g1 g2, fun b hb => ?_, List.nodup_cons.mpr ⟨g5, g4⟩⟩⟩
          rcases List.mem_cons.mp hb with z | z
          · rw [z]; exact e0.free hL
          · exact e0.free (g3 b z)
      | tup ds =>
        cases r with
        | @tup a xs _ _ h1 rs =>
        refine ⟨_, rfl, a, xs, rfl, .inr ⟨Same.sqT e0 h1, fun L hL => lc_it walk_tup (fun i H2 => Same (upd H p (.tup [.ty "list", .ty "tuple"])) H2 ∧ Made K (upd H p (.tup [.ty "list", .ty "tuple"])) H2 L (ds.take i))
          ⟨same_new hL _, .nil upd_same⟩ (fun i H2 _ pv => Same.sqT (e0.trans pv.1) h1) (fun i x H2 H3 hi pv y => ?_) (fun H2 pv => ?_)⟩⟩
        · obtain ⟨rfl, hx⟩ := y
          obtain ⟨dx, fx, gx, mx, rx, _⟩ := rs.at hx
          cases m with
          | zero => exact absurd hd (by intro z; cases z)
          | succ m' =>
            refine ⟨rfl, ?_⟩
            refine ⟨_, rfl, x, dx, fx, m', rfl, rx.same (e0.trans pv.1), by omega, (hd.2 ds rfl).2 dx mx, fun v' f' H4 s4 n4 => ?_⟩
            obtain ⟨acc, q1, q2, q3⟩ := pv.2.snoc (S := fun _ => False) (.inl pv.1) (Kp.of_same s4) noTup_none id (fun _ z => z.elim) n4
            refine ⟨acc, q1, ?_, same_upd (pv.1.trans s4) hL, by rw [List.take_add_one, gx]; exact q3⟩
            rw [q2, List.length_take]
            have l1 := hd.len rfl
            exact small1000 (by omega)
        · obtain ⟨acc, f2, g1, g2, g3, g4, g5⟩ := pv.2.ex
          rw [rs.len, List.take_length] at g2
          have s2 := e0.trans pv.1
          refine ⟨_, rfl, _, _, _, _, _, rfl, .ty _, tyx_tup (Same.sqT s2 h1), kit_is (.tup ds) "tuple" (by decide), _, rfl, ite_t rfl ?_⟩
          refine ⟨_, rfl, _, _, rfl, .inl ⟨SqL.of g1, fun T hT => ?_⟩⟩
          exact k _ _ _ (s2.trans (same_new hT _)) ⟨.tup (SqT.of upd_same) (g2.same (same_new hT _)), g3.back e0, g4⟩
      | non => cases e'
      | bl b => cases e'
      | int b => cases e'
      | str b => cases e'
      | emp => cases e'
    · have e' : (kids d).isSome = false := by rw [← kids_ty, ← e]; simp
      have nt : isTy d "tuple" = false := by
        cases d with
        | lst ds => cases e'
        | tup ds => cases e'
        | non => rfl
        | bl b => rfl
        | int b => rfl
        | str b => rfl
        | emp => rfl
      refine ⟨_, rfl, _, rfl, _, _, _, _, _, rfl, .ty _, (r.same e0).tyx, kit_is d "tuple" (by decide), _, rfl, ite_f nt ⟨_, rfl, k _ fp _ e0 ⟨r.same e0, ?_, ?_⟩⟩⟩
      all_goals
        have z := hd.ne
        cases r with
        | non => first | exact fresh_nil | exact List.nodup_nil
        | bl b => first | exact fresh_nil | exact List.nodup_nil
        | int b => first | exact fresh_nil | exact List.nodup_nil
        | str b => first | exact fresh_nil | exact List.nodup_nil
        | lst h r => cases e'
        | tup h r => cases e'
        | emp h => exact absurd rfl z
theorem ok_copied (D : DefB K mg "_law_copied" s_copied ["thing"]) (B : Bt mg) : ∀ n, Cal P w K mg base n "_law_copied" (sp_copied K n) []
  | 0 => D.none fun vs H Q E h => by
    obtain ⟨v, d, fp, m, _, _, hm, _⟩ := h
    cases hm
  | n + 1 => ok_copied1 D B (ok_copied D B n)
end
end K54

set_option Elab.async false
set_option linter.all false
set_option maxRecDepth 100000
set_option maxHeartbeats 4000000
namespace K54
open PySem PySem.Spec PyProof.Rows L2 C8 RZ LiI
mutual
def nodes : Dt → Nat
  | .lst xs => 1 + nodesL xs
  | .tup xs => 1 + nodesL xs
  | .non => 0
  | .bl _ => 0
  | .int _ => 0
  | .str _ => 0
  | .emp => 0
def nodesL : List Dt → Nat
  | [] => 0
  | x :: xs => nodes x + nodesL xs
end
mutual
/-- lists and tuples alike -/
def nrm : Dt → Dt
  | .lst xs => .tup (nrms xs)
  | .tup xs => .tup (nrms xs)
  | .non => .non
  | .bl b => .bl b
  | .int i => .int i
  | .str x => .str x
  | .emp => .emp
def nrms : List Dt → List Dt
  | [] => []
  | x :: xs => nrm x :: nrms xs
end
theorem nodesL_app : ∀ (xs ys : List Dt), nodesL (xs ++ ys) = nodesL xs + nodesL ys
  | [], ys => by rw [List.nil_append, nodesL, Nat.zero_add]
  | x :: xs, ys => by rw [List.cons_append, nodesL, nodesL, nodesL_app xs ys, Nat.add_assoc]
theorem nrms_app : ∀ (xs ys : List Dt), nrms (xs ++ ys) = nrms xs ++ nrms ys
  | [], ys => rfl
  | x :: xs, ys => by rw [List.cons_append, nrms, nrms, nrms_app xs ys, List.cons_append]
theorem nrms_len : ∀ xs : List Dt, (nrms xs).length = xs.length
  | [] => rfl
  | x :: xs => by rw [nrms, List.length_cons, List.length_cons, nrms_len xs]
theorem nodesL_take (xs : List Dt) (i : Nat) : nodesL (xs.take i) ≤ nodesL xs := by
  have h : nodesL (xs.take i ++ xs.drop i) = nodesL xs := by rw [List.take_append_drop]
  rw [nodesL_app] at h
  omega
theorem kp2_free {H1 H2 : Hp} {st q : Addr} {n : Nat} (k : Kp (At2 st q) H1 H2) (S : Strm H2 st q n) {a : Addr} (h : H2 a = none) : H1 a = none := by
  cases e : H1 a with
  | none => rfl
  | some o =>
    obtain ⟨cs, x1, x2, x3, h1, h2, _⟩ := S.ex
    by_cases ha : At2 st q a
    · rcases ha with z | z
      · rw [z, h1] at h; cases h
      · rw [z, h2] at h; cases h
    · rw [k a o e ha] at h; cases h
theorem Strm.trk {H : Hp} {st q : Addr} {n : Nat} (S : Strm H st q n) : ∀ a, At2 st q a → H a ≠ none := fun a ha z => by
  obtain ⟨cs, x1, x2, x3, h1, h2, _⟩ := S.ex
  rcases ha with e | e
  · rw [e, h1] at z; cases z
  · rw [e, h2] at z; cases z
theorem New.kp {K : PySem.W.Frag} {H1 H2 H3 : Hp} {S : Addr → Prop} {v : V} {d : Dt} {fp : List Addr} (n : New K H1 H2 v d fp) (k : Kp S H2 H3) (nt : NoTup S H2) (hS : ∀ a, S a → H1 a ≠ none) : New K H1 H3 v d fp :=
  ⟨n.rep.keep k nt _ _ _ fun a ha z => hS a z (n.fresh a ha), n.fresh, n.nd⟩
section
variable {P : Program} {w : World} {K : PySem.W.Frag} {mg : Str → Option Value} {base : Heap}
abbrev s_loose : Stmt := top 33
theorem sc_loose : FnScope ["stream", "thing", "some", "part"] ["stream", "thing"] (fnScope s_loose) := fnScope_by (by decide +kernel)
def sp_loose (K : PySem.W.Frag) (n : Nat) : Sp := fun vs H Q _ => ∃ (st q : Addr) (c : Nat) (v : V) (d : Dt) (fp : List Addr) (m : Nat), vs = [.ref st, v] ∧ Strm H st q c ∧ Rep K H v d fp ∧ (∀ a ∈ fp, ¬ At2 st q a) ∧ m + 1 = n ∧ NoE m d ∧ c + nodes d ≤ 2 ^ 40 ∧
  ∀ v' d' fp' H', nrm d' = nrm d → NoE m d' → Strm H' st q (c + nodes d) → Kp (At2 st q) H H' → New K H H' v' d' fp' → Q v' H'
theorem ok_loose1 {n : Nat} (D : DefB K mg "_law_loose" s_loose ["stream", "thing"]) (B : Bt mg) (C_law_draw : Cal P w K mg base 1 "_law_draw" sp_draw []) (C_law_loose : Cal P w K mg base (n + 1) "_law_loose" (sp_loose K n) []) : Cal P w K mg base (n + 2) "_law_loose" (sp_loose K (n + 1)) [] := by
  have sc := sc_loose
  refine D.cal sc (fun vs H Q E h => ?_) (fun f cdv A outer s H vs Q E hr h => ?_)
  · obtain ⟨st, q, c, v, d, fp, m, rfl, _⟩ := h
    rfl
  · obtain ⟨st, q, c, v, d, fp, m, rfl, S, r, hfp, hm, hd, hc, k⟩ := h
    refine ⟨_, (pss_cons (ps_if (pt_not (pt_val (pe_callB call_isiT rfl B.isinstance (by decide +kernel) (pa_cons (pv 1) (pa_cons (pe_tup (pa_cons (pe_bltn (v := .ty "list") rfl B.list (by decide +kernel) rfl) (pa_cons (pe_bltn (v := .ty "tuple") rfl B.tuple (by decide +kernel) rfl) pa_nil))) pa_nil))))) (pss_one (ps_ret (pv 1))) pss_nil)
  (pss_cons (ps_setLc (i := 2) (own := [("part", 3)]) (g := gName 3) rfl sc.nd rfl rfl (sw_true rfl rfl rfl (by decide +kernel)) (pi_seq (pv 1)) (blkOk_by (own := [("part", 3)]) (N := ["stream", "thing", "some", "part"]) (sc := fnScope s_loose) (by decide +kernel)) (fun _ _ _ _ _ => (pg_name (i := 3) sc.nd rfl (Or.inl rfl))) (fun _ _ _ _ _ => pts_nil) (fun _ _ _ _ _ => (pe_c C_law_loose hr (by omega) rfl (pa_cons (pv 0) (pa_cons (pv 3) pa_nil)))))
  (pss_one (ps_ret (pe_ifExp (pt_cmpR op_eq (pe_c C_law_draw hr (by omega) rfl (pa_cons (pv 0) (pa_cons pe_int pa_nil))) pe_int (nomark _)) (pe_callTy call_tuple_of rfl B.tuple (by decide +kernel) (pa_cons (pv 2) pa_nil)) (pv 2)))))), ?_⟩
    refine ⟨_, rfl, by decide, fun p hp => ⟨_, p, _, _, _, _, rfl, upd_same, cls_any ["list", "tuple"], (r.same (same_new hp _)).tyx, kit_any d ["list", "tuple"] (by decide), _, rfl, ?_⟩⟩
    have e0 := same_new hp (.tup [.ty "list", .ty "tuple"])
    refine ite_b (fun e => ?_) (fun e => ?_)
    · have e' : (kids d).isSome = false := by
        rw [← kids_ty]
        have e2 := (Bool.not_eq_true' _).mp e
        rw [← e2]; simp
      have en : nodes d = 0 := by
        cases d with
        | lst ds => cases e'
        | tup ds => cases e'
        | non => rfl
        | bl b => rfl
        | int b => rfl
        | str b => rfl
        | emp => rfl
      refine ⟨_, rfl, k v d fp _ rfl hd ((S.same e0).more (by omega)) (Kp.of_same e0) ⟨r.same e0, ?_, ?_⟩⟩
      all_goals
        have z := hd.ne
        cases r with
        | non => first | exact fresh_nil | exact List.nodup_nil
        | bl b => first | exact fresh_nil | exact List.nodup_nil
        | int b => first | exact fresh_nil | exact List.nodup_nil
        | str b => first | exact fresh_nil | exact List.nodup_nil
        | lst h r => cases e'
        | tup h r => cases e'
        | emp h => exact absurd rfl z
    · have e' : (kids d).isSome = true := by
        rw [← kids_ty]
        have e2 := (Bool.not_eq_false' _).mp e
        rw [← e2]; simp
      cases d with
      | lst ds =>
        cases r with
        | @lst a xs _ _ h1 rs =>
        have S0 := S.same e0
        have hst : ∀ b, At2 st q b → (upd H p (.tup [.ty "list", .ty "tuple"])) b ≠ none := S0.trk
        refine ⟨_, rfl, a, xs, rfl, .inl ⟨sqL_same e0 (SqL.of h1), fun L hL => ?_⟩⟩
        have nL : ¬ At2 st q L := fun z => hst L z hL
        refine lc_it walk_list (fun i H2 => Kp (At2 st q) (upd H p (.tup [.ty "list", .ty "tuple"])) H2 ∧ Strm H2 st q (c + nodesL (ds.take i)) ∧ ∃ es, nrms es = nrms (ds.take i) ∧ (∀ x ∈ es, NoE (m - 1) x) ∧ Made K (upd H p (.tup [.ty "list", .ty "tuple"])) H2 L es)
          ⟨kp_new hL _, (by simpa [nodesL] using S0.same (same_new hL _)), [], rfl, (fun x hx => nomatch hx), .nil upd_same⟩ (fun i H2 _ pv => sqL_kp pv.1 (hfp a (List.mem_cons_self ..)) (sqL_same e0 (SqL.of h1))) (fun i x H2 H3 hi pv y => ?_) (fun H2 pv => ?_)
        · obtain ⟨rfl, hx⟩ := y
          obtain ⟨k2, S2, es, q1, q2, q3⟩ := pv
          obtain ⟨dx, fx, gx, mx, rx, hx2⟩ := rs.at hx
          cases m with
          | zero => exact absurd hd (by intro z; cases z)
          | succ m' =>
            have hfx : ∀ b ∈ fx, ¬ At2 st q b := fun b hb => hfp b (List.mem_cons_of_mem _ (hx2 b hb))
            have nn : nodesL (ds.take (i + 1)) = nodesL (ds.take i) + nodes dx := by rw [List.take_add_one, gx, nodesL_app]; rfl
            have n2 := nodesL_take ds (i + 1)
            have n3 : nodes (.lst ds) = 1 + nodesL ds := rfl
            refine ⟨rfl, ?_⟩
            refine ⟨_, rfl, _, rfl, st, q, _, x, dx, fx, m', rfl, S2, (rx.same e0).keep k2 S0.noTup _ _ _ hfx, hfx, by omega, (hd.2 ds rfl).2 dx mx, by omega, fun v' d' f' H4 z1 z2 S4 k4 n4 => ?_⟩
            obtain ⟨acc, w1, w2, w3⟩ := q3.snoc (S := At2 st q) (.inr fun b hb => kp2_free k2 S2 hb) k4 S2.noTup nL hst n4
            have l0 : es.length = (ds.take i).length := by rw [← nrms_len es, q1, nrms_len]
            refine ⟨acc, w1, ?_, fun b u eb nb => ?_, ?_, es ++ [d'], ?_, ?_, w3⟩
            · rw [w2, l0, List.length_take]
              have l1 := hd.len rfl
              exact small1000 (by omega)
            · rw [upd_ne (ne_of_none eb hL)]
              exact (k2.trans k4) b u eb nb
            · have S5 : Strm (upd H4 L (.lst (acc ++ [v']))) st q (c + nodesL (ds.take i) + nodes dx) := by
                obtain ⟨cs, x1, x2, x3, h1, h2, h3⟩ := S4.ex
                exact ⟨cs, x1, x2, x3, by rw [upd_ne (fun z => nL (.inl z.symm))]; exact h1, by rw [upd_ne (fun z => nL (.inr z.symm))]; exact h2, h3⟩
              exact S5.more (by omega)
            · rw [nrms_app, q1, List.take_add_one, gx, nrms_app]
              show _ ++ [nrm d'] = _ ++ [nrm dx]
              rw [z1]
            · intro b hb
              rcases List.mem_append.mp hb with z | z
              · exact q2 b z
              · rw [List.mem_singleton.mp z]; exact z2
        · obtain ⟨k2, S2, es, q1, q2, q3⟩ := pv
          rw [rs.len, List.take_length] at q1 S2
          have n3 : nodes (.lst ds) = 1 + nodesL ds := rfl
          have l1 := hd.len rfl
          have l0 : es.length = ds.length := by rw [← nrms_len es, q1, nrms_len]
          have hes : ∀ t : List Dt → Dt, (t es ≠ .emp) → (kids (t es) = some es) → NoE m (t es) := fun t t1 t2 => by
            cases m with
            | zero => exact absurd hd (by intro z; cases z)
            | succ m' => exact ⟨t1, fun d1 e1 => by rw [t2] at e1; cases e1; exact ⟨by omega, fun x hx => (q2 x hx).mono (by omega)⟩⟩
          refine ⟨_, rfl, st, q, _, 2, rfl, S2, by omega, by decide, by decide, fun r0 H3 _ _ S3 k3 => ?_⟩
          obtain ⟨acc, f2, g1, g2, g3, g4, g5⟩ := q3.ex
          have fin : nodes (.lst ds) = nodesL ds + 1 := by omega
          have S3' : Strm H3 st q (c + nodes (.lst ds)) := S3.more (by omega)
          have g1' := k3 _ _ g1 nL
          have g2' := g2.keep k3 S2.noTup fun b hb z => hst b z (g3 b hb)
          have kk := ((Kp.of_same e0 : Kp (At2 st q) _ _).trans k2).trans k3
          refine ⟨rfl, _, rfl, ite_dec (fun _ => ?_) (fun _ => ?_)⟩
          · refine ⟨_, rfl, _, _, rfl, .inl ⟨SqL.of g1', fun T hT => ?_⟩⟩
            refine k _ (.tup es) f2 _ (by show Dt.tup (nrms es) = Dt.tup (nrms ds); rw [q1]) (hes .tup (fun z => nomatch z) rfl) (S3'.same (same_new hT _)) (kk.trans (kp_new hT _)) ⟨.tup (SqT.of upd_same) (g2'.same (same_new hT _)), g3.back e0, g4⟩
          · refine ⟨_, rfl, k _ (.lst es) (L :: f2) _ (by show Dt.tup (nrms es) = Dt.tup (nrms ds); rw [q1]) (hes .lst (fun z => nomatch z) rfl) S3' kk ⟨.lst g1' g2', fun b hb => ?_, List.nodup_cons.mpr ⟨g5, g4⟩⟩⟩
            rcases List.mem_cons.mp hb with z | z
            · rw [z]; exact e0.free hL
            · exact e0.free (g3 b z)
      | tup ds =>
        cases r with
        | @tup a xs _ _ h1 rs =>
        have S0 := S.same e0
        have hst : ∀ b, At2 st q b → (upd H p (.tup [.ty "list", .ty "tuple"])) b ≠ none := S0.trk
        refine ⟨_, rfl, a, xs, rfl, .inr ⟨Same.sqT e0 h1, fun L hL => ?_⟩⟩
        have nL : ¬ At2 st q L := fun z => hst L z hL
        refine lc_it walk_tup (fun i H2 => Kp (At2 st q) (upd H p (.tup [.ty "list", .ty "tuple"])) H2 ∧ Strm H2 st q (c + nodesL (ds.take i)) ∧ ∃ es, nrms es = nrms (ds.take i) ∧ (∀ x ∈ es, NoE (m - 1) x) ∧ Made K (upd H p (.tup [.ty "list", .ty "tuple"])) H2 L es)
          ⟨kp_new hL _, (by simpa [nodesL] using S0.same (same_new hL _)), [], rfl, (fun x hx => nomatch hx), .nil upd_same⟩ (fun i H2 _ pv => sqT_kp pv.1 S0.noTup (Same.sqT e0 h1)) (fun i x H2 H3 hi pv y => ?_) (fun H2 pv => ?_)
        · obtain ⟨rfl, hx⟩ := y
          obtain ⟨k2, S2, es, q1, q2, q3⟩ := pv
          obtain ⟨dx, fx, gx, mx, rx, hx2⟩ := rs.at hx
          cases m with
          | zero => exact absurd hd (by intro z; cases z)
          | succ m' =>
            have hfx : ∀ b ∈ fx, ¬ At2 st q b := fun b hb => hfp b (hx2 b hb)
            have nn : nodesL (ds.take (i + 1)) = nodesL (ds.take i) + nodes dx := by rw [List.take_add_one, gx, nodesL_app]; rfl
            have n2 := nodesL_take ds (i + 1)
            have n3 : nodes (.tup ds) = 1 + nodesL ds := rfl
            refine ⟨rfl, ?_⟩
            refine ⟨_, rfl, _, rfl, st, q, _, x, dx, fx, m', rfl, S2, (rx.same e0).keep k2 S0.noTup _ _ _ hfx, hfx, by omega, (hd.2 ds rfl).2 dx mx, by omega, fun v' d' f' H4 z1 z2 S4 k4 n4 => ?_⟩
            obtain ⟨acc, w1, w2, w3⟩ := q3.snoc (S := At2 st q) (.inr fun b hb => kp2_free k2 S2 hb) k4 S2.noTup nL hst n4
            have l0 : es.length = (ds.take i).length := by rw [← nrms_len es, q1, nrms_len]
            refine ⟨acc, w1, ?_, fun b u eb nb => ?_, ?_, es ++ [d'], ?_, ?_, w3⟩
            · rw [w2, l0, List.length_take]
              have l1 := hd.len rfl
              exact small1000 (by omega)
            · rw [upd_ne (ne_of_none eb hL)]
              exact (k2.trans k4) b u eb nb
            · have S5 : Strm (upd H4 L (.lst (acc ++ [v']))) st q (c + nodesL (ds.take i) + nodes dx) := by
                obtain ⟨cs, x1, x2, x3, h1, h2, h3⟩ := S4.ex
                exact ⟨cs, x1, x2, x3, by rw [upd_ne (fun z => nL (.inl z.symm))]; exact h1, by rw [upd_ne (fun z => nL (.inr z.symm))]; exact h2, h3⟩
              exact S5.more (by omega)
            · rw [nrms_app, q1, List.take_add_one, gx, nrms_app]
              show _ ++ [nrm d'] = _ ++ [nrm dx]
              rw [z1]
            · intro b hb
              rcases List.mem_append.mp hb with z | z
              · exact q2 b z
              · rw [List.mem_singleton.mp z]; exact z2
        · obtain ⟨k2, S2, es, q1, q2, q3⟩ := pv
          rw [rs.len, List.take_length] at q1 S2
          have n3 : nodes (.tup ds) = 1 + nodesL ds := rfl
          have l1 := hd.len rfl
          have l0 : es.length = ds.length := by rw [← nrms_len es, q1, nrms_len]
          have hes : ∀ t : List Dt → Dt, (t es ≠ .emp) → (kids (t es) = some es) → NoE m (t es) := fun t t1 t2 => by
            cases m with
            | zero => exact absurd hd (by intro z; cases z)
            | succ m' => exact ⟨t1, fun d1 e1 => by rw [t2] at e1; cases e1; exact ⟨by omega, fun x hx => (q2 x hx).mono (by omega)⟩⟩
          refine ⟨_, rfl, st, q, _, 2, rfl, S2, by omega, by decide, by decide, fun r0 H3 _ _ S3 k3 => ?_⟩
          obtain ⟨acc, f2, g1, g2, g3, g4, g5⟩ := q3.ex
          have fin : nodes (.tup ds) = nodesL ds + 1 := by omega
          have S3' : Strm H3 st q (c + nodes (.tup ds)) := S3.more (by omega)
          have g1' := k3 _ _ g1 nL
          have g2' := g2.keep k3 S2.noTup fun b hb z => hst b z (g3 b hb)
          have kk := ((Kp.of_same e0 : Kp (At2 st q) _ _).trans k2).trans k3
          refine ⟨rfl, _, rfl, ite_dec (fun _ => ?_) (fun _ => ?_)⟩
          · refine ⟨_, rfl, _, _, rfl, .inl ⟨SqL.of g1', fun T hT => ?_⟩⟩
            refine k _ (.tup es) f2 _ (by show Dt.tup (nrms es) = Dt.tup (nrms ds); rw [q1]) (hes .tup (fun z => nomatch z) rfl) (S3'.same (same_new hT _)) (kk.trans (kp_new hT _)) ⟨.tup (SqT.of upd_same) (g2'.same (same_new hT _)), g3.back e0, g4⟩
          · refine ⟨_, rfl, k _ (.lst es) (L :: f2) _ (by show Dt.tup (nrms es) = Dt.tup (nrms ds); rw [q1]) (hes .lst (fun z => nomatch z) rfl) S3' kk ⟨.lst g1' g2', fun b hb => ?_, List.nodup_cons.mpr ⟨g5, g4⟩⟩⟩
            rcases List.mem_cons.mp hb with z | z
            · rw [z]; exact e0.free hL
            · exact e0.free (g3 b z)
      | non => cases e'
      | bl b => cases e'
      | int b => cases e'
      | str b => cases e'
      | emp => cases e'
theorem ok_loose (D : DefB K mg "_law_loose" s_loose ["stream", "thing"]) (B : Bt mg) (C_law_draw : Cal P w K mg base 1 "_law_draw" sp_draw []) : ∀ n, Cal P w K mg base (n + 1) "_law_loose" (sp_loose K n) []
  | 0 => by
    have no : ∀ vs H Q E, ¬ sp_loose K 0 vs H Q E := fun vs H Q E h => by
      obtain ⟨st, q, c, v, d, fp, m, _, _, _, _, hm, _⟩ := h
      cases hm
    obtain ⟨f, fd, F, b⟩ := D.ex
    exact ⟨f, fd, _, [], ⟨fun vs H Q E z => absurd z (no vs H Q E), fun A outer s H args us vs Q E _ _ _ _ z => absurd z (no vs H Q E)⟩, F.mgf, F.kp, b, .nil⟩
  | n + 1 => ok_loose1 D B C_law_draw (ok_loose D B C_law_draw n)
end
end K54

set_option Elab.async false
set_option linter.all false
set_option maxRecDepth 100000
set_option maxHeartbeats 4000000
namespace K54
open PySem PySem.Spec PyProof.Rows L2 C8 RZ LiI SX
def words : List Str := ["module", "use", "data", "class", "under", "instance", "with", "fun", "let", "in", "case", "of", "if", "then", "else", "print", "int"]
def LET : Str := "abcdefghijklmnopqrstuvwxyz"
def GRE : Str := "ABCDEFGHIJKLMNOPQRSTUVWXYZ"
def FIG : Str := "0123456789"
def isL (c : Nat) : Bool := decide (97 ≤ c) && decide (c ≤ 122)
def isG (c : Nat) : Bool := decide (65 ≤ c) && decide (c ≤ 90)
def isF (c : Nat) : Bool := decide (48 ≤ c) && decide (c ≤ 57)
def aln (c : Nat) : Bool := isL c || (isG c || isF c)
theorem mem_run (a n c : Nat) : decide (c ∈ (List.range n).map (· + a)) = (decide (a ≤ c) && decide (c < a + n)) := by
  have h : c ∈ (List.range n).map (· + a) ↔ a ≤ c ∧ c < a + n := by
    rw [List.mem_map]
    constructor
    · rintro ⟨x, hx, rfl⟩
      have := List.mem_range.mp hx
      omega
    · intro h
      exact ⟨c - a, List.mem_range.mpr (by omega), by omega⟩
  by_cases hc : a ≤ c ∧ c < a + n
  · rw [decide_eq_true (h.mpr hc), decide_eq_true hc.1, decide_eq_true hc.2]; rfl
  · rw [decide_eq_false (fun z => hc (h.mp z))]
    by_cases h1 : a ≤ c
    · rw [decide_eq_true h1, decide_eq_false (fun z => hc ⟨h1, z⟩)]; rfl
    · rw [decide_eq_false h1]; rfl
theorem in_LET (c : Nat) : decide (c ∈ LET.cps.toList) = isL c := by
  rw [show LET.cps.toList = (List.range 26).map (· + 97) by decide +kernel, mem_run]
  unfold isL
  congr 1
  exact decide_eq_decide.mpr (by omega)
theorem in_GRE (c : Nat) : decide (c ∈ GRE.cps.toList) = isG c := by
  rw [show GRE.cps.toList = (List.range 26).map (· + 65) by decide +kernel, mem_run]
  unfold isG
  congr 1
  exact decide_eq_decide.mpr (by omega)
theorem in_FIG (c : Nat) : decide (c ∈ FIG.cps.toList) = isF c := by
  rw [show FIG.cps.toList = (List.range 10).map (· + 48) by decide +kernel, mem_run]
  unfold isF
  congr 1
  exact decide_eq_decide.mpr (by omega)
/-- what the top's names hold -/
structure Tx (K : PySem.W.Frag) (mg : Str → Option Value) (aW aN : Addr) : Prop where
  gWORDS : ∃ u, mg "WORDS" = some u ∧ RelV (.ref aW) u
  gINT_NAME : ∃ u, mg "INT_NAME" = some u ∧ RelV (.ref aN) u
  gLETTERS : ∃ u, mg "LETTERS" = some u ∧ RelV (.str LET) u
  gGREATS : ∃ u, mg "GREATS" = some u ∧ RelV (.str GRE) u
  gFIGURES : ∃ u, mg "FIGURES" = some u ∧ RelV (.str FIG) u
  tW : ∀ H, SqT K H aW (words.map V.str)
  tN : ∀ H, SqT K H aN [.str "", .str "int"]
section
variable {P : Program} {w : World} {K : PySem.W.Frag} {mg : Str → Option Value} {base : Heap} {aW aN : Addr}
theorem inV_str (x : Str) : ∀ ws : List Str, inV (.str x) (ws.map V.str) = ws.contains x := by
  intro ws
  induction ws with
  | nil => rfl
  | cons w ws ih =>
    rw [List.map_cons, List.contains_cons]
    show (eqV (.str w) (.str x) || inV (.str x) (ws.map V.str)) = _
    rw [ih]
    congr 1
    show decide (w = x) = (x == w)
    by_cases h : w = x
    · subst h; simp
    · rw [decide_eq_false h]
      exact (beq_eq_false_iff_ne.mpr (Ne.symm h)).symm
theorem flat_strs (ws : List Str) : (ws.map V.str).all flatV = true := by
  induction ws with
  | nil => rfl
  | cons w ws ih => exact ih
/-- a name's signs -/
def signB (l : List Nat) (fs : Str) : Bool := decide (1 ≤ l.length) && decide (l.length ≤ 8) && !words.contains (S l) && decide (l.headD 0 ∈ fs.cps.toList) && l.all aln
def isSign (d : Dt) (fs : Str) : Bool := match d with
  | .str x => signB x.cps.toList fs
  | _ => false
/-- texts are short -/
def StrOk (d : Dt) : Prop := ∀ x, d = .str x → x.length ≤ 100000
abbrev s_is_sign_row : Stmt := top 15
theorem sc_is_sign_row : FnScope ["thing", "firsts", "sign"] ["thing", "firsts"] (fnScope s_is_sign_row) := fnScope_by (by decide +kernel)
def sp_sign (K : PySem.W.Frag) : Sp := fun vs H Q _ => ∃ v d fp fs, vs = [v, .str fs] ∧ Rep K H v d fp ∧ StrOk d ∧ ∀ H', Same H H' → Q (.bl (isSign d fs)) H'
theorem ok_is_sign_row (D : DefB K mg "is_sign_row" s_is_sign_row ["thing", "firsts"]) (B : Bt mg) (T : Tx K mg aW aN) : Cal P w K mg base 1 "is_sign_row" (sp_sign K) [] := by
  have sc := sc_is_sign_row
  refine D.cal sc (fun vs H Q E h => ?_) (fun f cdv A outer s H vs Q E hr h => ?_)
  · obtain ⟨v, d, fp, fs, rfl, _⟩ := h
    rfl
  · obtain ⟨v, d, fp, fs, rfl, r, hs, k⟩ := h
    refine ⟨_, (pss_cons (ps_if (PW.pt (pw_or (pt_cmpR op_isNotTy (pe_callTy call_type1 rfl B.type (by decide +kernel) (pa_cons (pv 0) pa_nil)) (pe_bltn (v := .ty "str") rfl B.str (by decide +kernel) rfl) (nomark _)) (pw_or (pt_not (pt_chain op_le op_le pe_int (pe_callB call_len_str rfl B.len (by decide +kernel) (pa_cons (pv 0) pa_nil)) pe_int)) (pw_or (pt_cmpR op_in_seq (pv 0) (pe_gc rfl T.gWORDS) rfl) (pw_or1 (pt_cmpR op_notIn_sign (pe_ix ix_str (pv 0) pe_int (fun _ _ => rfl)) (pv 1) rfl)))))) (pss_one (ps_ret pe_bl)) pss_nil)
  (pss_one (ps_ret (pe_callB (cr_all rfl) rfl B.all (by decide +kernel) (pa_cons (pe_lc (own := [("sign", 2)]) (g := gName 2) rfl sc.nd (pi_str (pv 0)) (blkOk_by (own := [("sign", 2)]) (N := ["thing", "firsts", "sign"]) (sc := fnScope s_is_sign_row) (by decide +kernel)) (fun _ _ _ _ _ => (pg_name (i := 2) sc.nd rfl (Or.inl rfl))) (fun _ _ _ _ _ => pts_nil) (fun _ _ _ _ _ => (pe_or (pe_cmpR op_in_sign (pv 2) (pe_gc rfl T.gLETTERS) rfl) (pe_or (pe_cmpR op_in_sign (pv 2) (pe_gc rfl T.gGREATS) rfl) (pe_one (pe_cmpR op_in_sign (pv 2) (pe_gc rfl T.gFIGURES) rfl)))))) pa_nil))))), ?_⟩
    have bad : isSign d fs = false → Q (.bl false) H := fun e => by
      have q := k H (Same.refl H)
      rw [e] at q
      exact q
    refine ⟨_, rfl, _, _, rfl, r.tyb, _, _, rfl, rfl, _, rfl, ?_⟩
    cases r with
    | non => exact ite_t (by decide) (ite_t rfl (bad rfl))
    | bl b => exact ite_t (by simp [tyName]) (ite_t rfl (bad rfl))
    | int b => exact ite_t (by simp [tyName]) (ite_t rfl (bad rfl))
    | emp h => exact ite_t (by decide) (ite_t rfl (bad rfl))
    | lst h r => exact ite_t (by simp [tyName]) (ite_t rfl (bad rfl))
    | tup h r => exact ite_t (by simp [tyName]) (ite_t rfl (bad rfl))
    | str x =>
    have hx : x.length ≤ sizeLine := Nat.le_trans (hs x rfl) (by decide)
    have hl : x.length = x.cps.toList.length := by simp [Str.length]
    refine ite_f (by simp [tyName]) ?_
    have bad' : signB x.cps.toList fs = false → Q (.bl false) H := bad
    refine ⟨_, rfl, x, rfl, hx, _, _, rfl, rfl, _, rfl, ite_dec (fun h1 => ?_) (fun h1 => ?_)⟩
    rotate_left
    · refine ⟨_, rfl, ite_t rfl (ite_t rfl (bad' ?_))⟩
      unfold signB
      rw [decide_eq_false (show ¬ 1 ≤ x.cps.toList.length by omega)]
      rfl
    refine ⟨_, _, rfl, rfl, _, rfl, ?_⟩
    by_cases h2 : (x.length : Int) ≤ 8
    rotate_left
    · rw [decide_eq_false h2]
      refine ite_t rfl (ite_t rfl (bad' ?_))
      unfold signB
      rw [decide_eq_false (show ¬ x.cps.toList.length ≤ 8 by omega), Bool.and_false]
      rfl
    rw [decide_eq_true h2]
    refine ite_f rfl ?_
    refine ⟨_, rfl, aW, _, rfl, .inr (T.tW _), rfl, flat_strs _, _, rfl, ?_⟩
    rw [show (if false = true then !inV (.str x) (words.map V.str) else inV (.str x) (words.map V.str)) = words.contains x from (if_neg Bool.false_ne_true).trans (inV_str x words)]
    refine ite_b (fun h3 => ?_) (fun h3 => ?_)
    · refine ite_t rfl (bad' ?_)
      unfold signB
      rw [S_tl, h3, Bool.not_true, Bool.and_false]
      rfl
    obtain ⟨c, hc⟩ : ∃ c, x.cps.toList[0]? = some c := ⟨x.cps.toList[0]'(by omega), by simp [show 0 < x.cps.toList.length by omega]⟩
    have hc' : x.cps.toList.headD 0 = c := by
      cases e : x.cps.toList with
      | nil => rw [e] at hc; cases hc
      | cons a b => rw [e] at hc; simpa using hc
    refine ⟨_, rfl, x, 0, c, rfl, rfl, hx, atI_nat (j := 0) hc, _, rfl, c, fs, rfl, rfl, _, rfl, ?_⟩
    refine ite_b (fun h4 => ?_) (fun h4 => ?_)
    · refine bad' ?_
      unfold signB
      rw [hc', (Bool.not_eq_true' _).mp h4, Bool.and_false]
      rfl
    -- all([..])
    have h4' : decide (c ∈ fs.cps.toList) = true := (Bool.not_eq_false' _).mp h4
    refine ⟨_, rfl, x, rfl, fun L hL => lc_it walk_str (fun i H2 => Same H H2 ∧ H2 L = some (.lst ((x.cps.toList.take i).map fun c => V.bl (aln c)))) ⟨same_new hL _, upd_same⟩ (fun _ _ _ _ => trivial) (fun i y H2 H3 hi pv w => ?_) (fun H2 pv => ?_)⟩
    · obtain ⟨rfl, c, hc, rfl⟩ := w
      refine ⟨rfl, ?_⟩
      have hc2 : x.cps.toList[i]? = some c := by simpa using hc
      have fin : ∀ b : Bool, b = aln c → (∃ acc, H3 L = some (.lst acc) ∧ acc.length < sizeLine ∧ Same H (upd H3 L (.lst (acc ++ [V.bl b]))) ∧ (upd H3 L (.lst (acc ++ [V.bl b]))) L = some (.lst ((x.cps.toList.take (i + 1)).map fun c => V.bl (aln c)))) := fun b hb => by
        refine ⟨_, pv.2, ?_, same_upd pv.1 hL, ?_⟩
        · rw [List.length_map, List.length_take]
          exact Nat.lt_of_le_of_lt (by omega : _ ≤ 8) (by decide)
        · rw [upd_same, List.take_add_one, hc2, hb, List.map_append] <;> rfl
      refine ⟨_, rfl, c, LET, rfl, rfl, _, rfl, ?_⟩
      rw [in_LET]
      refine ite_b (fun z => fin true (by unfold aln; rw [z]; rfl)) (fun z1 => ?_)
      refine ⟨_, rfl, c, GRE, rfl, rfl, _, rfl, ?_⟩
      rw [in_GRE]
      refine ite_b (fun z => fin true (by unfold aln; rw [z, z1]; rfl)) (fun z2 => ?_)
      refine ⟨_, rfl, c, FIG, rfl, rfl, ?_⟩
      rw [in_FIG]
      exact fin _ (by unfold aln; rw [z1, z2]; rfl)
    · refine ⟨L, x.cps.toList.map aln, rfl, SqL.of ?_, ?_⟩
      · rw [List.map_map]
        have e : x.cps.toList.take x.cps.size = x.cps.toList := List.take_of_length_le (by simp)
        rw [pv.2, e]
        rfl
      · have q := k H2 pv.1
        have e : isSign (.str x) fs = (x.cps.toList.map aln).all id := by
          show signB x.cps.toList fs = _
          unfold signB
          rw [decide_eq_true (show 1 ≤ x.cps.toList.length by omega), decide_eq_true (show x.cps.toList.length ≤ 8 by omega), S_tl, h3, hc', h4', List.all_map]
          rfl
        rw [e] at q
        exact q
abbrev s_is_small : Stmt := top 16
theorem sc_is_small : FnScope ["thing"] ["thing"] (fnScope s_is_small) := fnScope_by (by decide +kernel)
def sp_sgn (K : PySem.W.Frag) (fs : Str) : Sp := fun vs H Q _ => ∃ v d fp, vs = [v] ∧ Rep K H v d fp ∧ StrOk d ∧ ∀ H', Same H H' → Q (.bl (isSign d fs)) H'
theorem ok_is_small (D : DefB K mg "is_small" s_is_small ["thing"]) (T : Tx K mg aW aN) (C_is_sign_row : Cal P w K mg base 1 "is_sign_row" (sp_sign K) []) : Cal P w K mg base 2 "is_small" (sp_sgn K LET) [] := by
  have sc := sc_is_small
  refine D.cal sc (fun vs H Q E h => ?_) (fun f cdv A outer s H vs Q E hr h => ?_)
  · obtain ⟨v, d, fp, rfl, _⟩ := h
    rfl
  · obtain ⟨v, d, fp, rfl, r, hs, k⟩ := h
    refine ⟨_, (pss_one (ps_ret (pe_c C_is_sign_row hr (by omega) rfl (pa_cons (pv 0) (pa_cons (pe_gc rfl T.gLETTERS) pa_nil))))), ?_⟩
    exact ⟨_, rfl, v, d, fp, LET, rfl, r, hs, k⟩
abbrev s_is_great : Stmt := top 17
theorem sc_is_great : FnScope ["thing"] ["thing"] (fnScope s_is_great) := fnScope_by (by decide +kernel)
theorem ok_is_great (D : DefB K mg "is_great" s_is_great ["thing"]) (T : Tx K mg aW aN) (C_is_sign_row : Cal P w K mg base 1 "is_sign_row" (sp_sign K) []) : Cal P w K mg base 2 "is_great" (sp_sgn K GRE) [] := by
  have sc := sc_is_great
  refine D.cal sc (fun vs H Q E h => ?_) (fun f cdv A outer s H vs Q E hr h => ?_)
  · obtain ⟨v, d, fp, rfl, _⟩ := h
    rfl
  · obtain ⟨v, d, fp, rfl, r, hs, k⟩ := h
    refine ⟨_, (pss_one (ps_ret (pe_c C_is_sign_row hr (by omega) rfl (pa_cons (pv 0) (pa_cons (pe_gc rfl T.gGREATS) pa_nil))))), ?_⟩
    exact ⟨_, rfl, v, d, fp, GRE, rfl, r, hs, k⟩
/-- a NAME with a great name -/
def isGN (d : Dt) : Bool := match kids d with
  | some [a, b] => isSign a LET && isSign b GRE
  | _ => false
/-- all parts are short texts or no texts -/
def PartsOk (d : Dt) : Prop := ∀ ds, kids d = some ds → ∀ x ∈ ds, StrOk x
abbrev s_is_great_name : Stmt := top 18
theorem sc_is_great_name : FnScope ["thing"] ["thing"] (fnScope s_is_great_name) := fnScope_by (by decide +kernel)
def sp_gn (K : PySem.W.Frag) : Sp := fun vs H Q _ => ∃ v d fp, vs = [v] ∧ Rep K H v d fp ∧ PartsOk d ∧ ∀ H', Same H H' → Q (.bl (isGN d)) H'
/-- the i-th part of a list or tuple, read -/
theorem seq_at {H : Hp} {a : Addr} {xs : List V} {v : V} {Q : VK} (i : Nat) (h : SqL K H a xs ∨ SqT K H a xs) (e : xs[i]? = some v) (q : Q v H) : rIx K (.ref a) (.int (i : Int)) H Q := by
  rcases h with h | h
  · exact .inl ⟨a, xs, _, v, rfl, rfl, h, atI_nat e, q⟩
  · exact .inr (.inl ⟨a, xs, _, v, rfl, rfl, h, atI_nat e, q⟩)
theorem seq_same {H H' : Hp} {a : Addr} {xs : List V} (e : Same H H') (h : SqL K H a xs ∨ SqT K H a xs) : SqL K H' a xs ∨ SqT K H' a xs := h.elim (fun z => .inl (sqL_same e z)) fun z => .inr (Same.sqT e z)
theorem ok_is_great_name (D : DefB K mg "is_great_name" s_is_great_name ["thing"]) (C_is_row : Cal P w K mg base 2 "is_row" (sp_is_row K) []) (C_is_small : Cal P w K mg base 2 "is_small" (sp_sgn K LET) []) (C_is_great : Cal P w K mg base 2 "is_great" (sp_sgn K GRE) []) :
    Cal P w K mg base 3 "is_great_name" (sp_gn K) [] := by
  have sc := sc_is_great_name
  refine D.cal sc (fun vs H Q E h => ?_) (fun f cdv A outer s H vs Q E hr h => ?_)
  · obtain ⟨v, d, fp, rfl, _⟩ := h
    rfl
  · obtain ⟨v, d, fp, rfl, r, hs, k⟩ := h
    refine ⟨_, (pss_one (ps_ret (pe_and (pe_c C_is_row hr (by omega) rfl (pa_cons (pv 0) (pa_cons pe_int pa_nil))) (pe_and (pe_c C_is_small hr (by omega) rfl (pa_cons (pe_ix ix_seq (pv 0) pe_int (fun _ _ => rfl)) pa_nil)) (pe_one (pe_c C_is_great hr (by omega) rfl (pa_cons (pe_ix ix_seq (pv 0) pe_int (fun _ _ => rfl)) pa_nil))))))), ?_⟩
    refine ⟨_, rfl, v, d, fp, 2, rfl, r, fun H1 e1 => ⟨_, rfl, ?_⟩⟩
    cases hk : kids d with
    | none =>
      refine ite_f (by unfold isRow; rw [hk]) ?_
      have q := k H1 e1
      unfold isGN at q
      rw [hk] at q
      exact q
    | some ds =>
      by_cases hl : (ds.length : Int) = 2
      rotate_left
      · refine ite_f (by unfold isRow; rw [hk]; exact decide_eq_false hl) ?_
        have q := k H1 e1
        unfold isGN at q
        rw [hk] at q
        match ds, hl, q with
        | [], _, q => exact q
        | [_], _, q => exact q
        | [_, _], hl, _ => exact absurd rfl hl
        | _ :: _ :: _ :: _, _, q => exact q
      refine ite_t (by unfold isRow; rw [hk]; exact decide_eq_true hl) ?_
      match ds, hl, hk with
      | [a, b], _, hk =>
        obtain ⟨p, xs, fp', rfl, hq, rs, _⟩ := (r.same e1).seq hk
        cases rs with
        | @cons va _ _ _ fa _ ra rs =>
        cases rs with
        | @cons vb _ _ _ fb _ rb rs =>
        cases rs
        have eG : isGN d = (isSign a LET && isSign b GRE) := by unfold isGN; rw [hk]
        refine ⟨_, rfl, seq_at 0 hq rfl ?_⟩
        refine ⟨va, a, fa, rfl, ra, hs _ hk a (by simp), fun H2 e2 => ⟨_, rfl, ite_b (fun z => ?_) (fun z => ?_)⟩⟩
        · rw [z, Bool.true_and] at eG
          rw [eG] at k
          exact ⟨_, rfl, seq_at 1 (seq_same e2 hq) rfl ⟨vb, b, fb, rfl, rb.same e2, hs _ hk b (by simp), fun H3 e3 => k H3 ((e1.trans e2).trans e3)⟩⟩
        · rw [z, Bool.false_and] at eG
          rw [eG] at k
          exact k H2 (e1.trans e2)
      | [], hl, _ => cases hl
      | [_], hl, _ => cases hl
      | _ :: _ :: _ :: _, hl, _ => exact absurd hl (by simp; omega)
end
end K54

set_option Elab.async false
set_option linter.all false
set_option maxRecDepth 100000
set_option maxHeartbeats 4000000
namespace K54
open PySem PySem.Spec PyProof.Rows L2 C8 RZ LiI SX
def flatD : Dt → Bool
  | .non => true
  | .bl _ => true
  | .int _ => true
  | .str _ => true
  | _ => false
def isS (d : Dt) (s : Str) : Bool := match d with
  | .str x => decide (x = s)
  | _ => false
def isIN (d : Dt) : Bool := match kids d with
  | some [a, b] => isS a "" && isS b "int"
  | _ => false
def FlatP (d : Dt) : Prop := ∀ ds, kids d = some ds → ∀ x ∈ ds, flatD x = true
theorem flat_eq {K : PySem.W.Frag} {H : Hp} {v : V} {d : Dt} {fp : List Addr} (r : Rep K H v d fp) (h : flatD d = true) (s : Str) : scal v (.str s) = true ∧ decide (v = .str s) = isS d s := by
  cases r with
  | non => exact ⟨rfl, rfl⟩
  | bl b => exact ⟨rfl, by simp [isS]⟩
  | int i => exact ⟨rfl, by simp [isS]⟩
  | str x => exact ⟨rfl, by simp [isS]⟩
  | lst _ _ => cases h
  | tup _ _ => cases h
  | emp _ => cases h
theorem isS_ty {d : Dt} {s : Str} (h : isS d s = true) : tyName d = "str" := by
  cases d <;> first | rfl | cases h
mutual
/-- the sizes -/
def szD : Dt → Nat
  | .lst xs => 1 + szL xs
  | .tup xs => 1 + szL xs
  | .non => 1
  | .bl _ => 1
  | .int _ => 1
  | .str _ => 1
  | .emp => 1
def szL : List Dt → Nat
  | [] => 0
  | x :: xs => szD x + szL xs
end
theorem szD_pos (d : Dt) : 1 ≤ szD d := by
  cases d <;> simp [szD]
theorem szL_app : ∀ xs ys : List Dt, szL (xs ++ ys) = szL xs + szL ys
  | [], ys => by rw [List.nil_append, szL, Nat.zero_add]
  | x :: xs, ys => by rw [List.cons_append, szL, szL, szL_app xs ys, Nat.add_assoc]
theorem szL_len : ∀ xs : List Dt, xs.length ≤ szL xs
  | [] => Nat.le_refl _
  | x :: xs => by
    have h1 := szL_len xs
    have h2 := szD_pos x
    rw [szL, List.length_cons]
    omega
theorem sz_kids {d : Dt} {ds : List Dt} (h : kids d = some ds) : szD d = 1 + szL ds := by
  cases d <;> first | (cases h; done) | (cases h; rfl)
def okNode (d : Dt) : Bool := match kids d with
  | some [a, b, c, e] => isS a "by" && isGN b && (isGN c || isIN c) && (kids e).isSome
  | _ => false
def partsOf (d : Dt) : List Dt := match kids d with
  | some [_, _, _, e] => (kids e).getD []
  | _ => []
inductive GoodB : Dt → Prop
  | mk {d : Dt} (h : okNode d = true) (r : ∀ p ∈ partsOf d, GoodB p) : GoodB d
/-- what may be asked -/
inductive AskB : Dt → Prop
  | mk {d : Dt} (h : ∀ a b c e, kids d = some [a, b, c, e] → flatD a = true ∧ PartsOk b ∧ PartsOk c ∧ FlatP c) (r : ∀ p ∈ partsOf d, AskB p) : AskB d
theorem parts_sz {d : Dt} : szL (partsOf d) < szD d := by
  unfold partsOf
  cases h : kids d with
  | none => exact szD_pos d
  | some ds =>
    have hs := sz_kids h
    match ds, hs with
    | [a, b, c, e], hs =>
      show szL ((kids e).getD []) < szD d
      rw [hs]
      have h3 : szL [a, b, c, e] = szD a + (szD b + (szD c + (szD e + 0))) := by simp [szL]
      cases h2 : kids e with
      | none => show 0 < _; omega
      | some es =>
        have := sz_kids h2
        show szL es < _
        omega
    | [], hs => exact szD_pos d
    | [_], hs => exact szD_pos d
    | [_, _], hs => exact szD_pos d
    | [_, _, _], hs => exact szD_pos d
    | _ :: _ :: _ :: _ :: _ :: _, hs => exact szD_pos d
section
variable {P : Program} {w : World} {K : PySem.W.Frag} {mg : Str → Option Value} {base : Heap} {aW aN : Addr}
theorem Reps.unsnoc {H : Hp} {v : V} : ∀ {us : List V} {ds : List Dt} {fp : List Addr}, Reps K H (us ++ [v]) ds fp → ∃ ds1 d f1 f2, ds = ds1 ++ [d] ∧ Reps K H us ds1 f1 ∧ Rep K H v d f2
  | [], ds, fp, h => by
    cases h with
    | cons r t => cases t; exact ⟨[], _, [], _, rfl, .nil, r⟩
  | u :: us, ds, fp, h => by
    cases h with
    | cons r t =>
      obtain ⟨ds1, d, f1, f2, e, r1, r2⟩ := t.unsnoc
      exact ⟨_ :: ds1, d, _, f2, by rw [e]; rfl, .cons r r1, r2⟩
abbrev s_is_int_name : Stmt := top 19
theorem sc_is_int_name : FnScope ["thing"] ["thing"] (fnScope s_is_int_name) := fnScope_by (by decide +kernel)
def sp_in (K : PySem.W.Frag) : Sp := fun vs H Q _ => ∃ v d fp, vs = [v] ∧ Rep K H v d fp ∧ FlatP d ∧ ∀ H', Same H H' → Q (.bl (isIN d)) H'
theorem ok_is_int_name (D : DefB K mg "is_int_name" s_is_int_name ["thing"]) (B : Bt mg) (C_is_row : Cal P w K mg base 2 "is_row" (sp_is_row K) []) : Cal P w K mg base 3 "is_int_name" (sp_in K) [] := by
  have sc := sc_is_int_name
  refine D.cal sc (fun vs H Q E h => ?_) (fun f cdv A outer s H vs Q E hr h => ?_)
  · obtain ⟨v, d, fp, rfl, _⟩ := h
    rfl
  · obtain ⟨v, d, fp, rfl, r, hs, k⟩ := h
    refine ⟨_, (pss_one (ps_ret (pe_and (pe_c C_is_row hr (by omega) rfl (pa_cons (pv 0) (pa_cons pe_int pa_nil))) (pe_and (pe_cmpR op_eq (pe_ix ix_seq (pv 0) pe_int (fun _ _ => rfl)) pe_str (nomark _)) (pe_and (pe_cmpR op_eq (pe_ix ix_seq (pv 0) pe_int (fun _ _ => rfl)) pe_str (nomark _)) (pe_and (pe_cmpR op_isTy (pe_callTy call_type1 rfl B.type (by decide +kernel) (pa_cons (pe_ix ix_seq (pv 0) pe_int (fun _ _ => rfl)) pa_nil)) (pe_bltn (v := .ty "str") rfl B.str (by decide +kernel) rfl) (nomark _)) (pe_one (pe_cmpR op_isTy (pe_callTy call_type1 rfl B.type (by decide +kernel) (pa_cons (pe_ix ix_seq (pv 0) pe_int (fun _ _ => rfl)) pa_nil)) (pe_bltn (v := .ty "str") rfl B.str (by decide +kernel) rfl) (nomark _))))))))), ?_⟩
    refine ⟨_, rfl, v, d, fp, 2, rfl, r, fun H1 e1 => ⟨_, rfl, ?_⟩⟩
    cases hk : kids d with
    | none =>
      have eG : isIN d = false := by unfold isIN; rw [hk]
      rw [eG] at k
      exact ite_f (by unfold isRow; rw [hk]) (k H1 e1)
    | some ds =>
      by_cases hl : (ds.length : Int) = 2
      rotate_left
      · have eG : isIN d = false := by
          unfold isIN
          rw [hk]
          match ds, hl with
          | [], _ => rfl
          | [_], _ => rfl
          | [_, _], hl => exact absurd rfl hl
          | _ :: _ :: _ :: _, _ => rfl
        rw [eG] at k
        exact ite_f (by unfold isRow; rw [hk]; exact decide_eq_false hl) (k H1 e1)
      refine ite_t (by unfold isRow; rw [hk]; exact decide_eq_true hl) ?_
      match ds, hl, hk with
      | [a, b], _, hk =>
        obtain ⟨p, xs, fp', rfl, hq, rs, _⟩ := (r.same e1).seq hk
        cases rs with
        | @cons va _ _ _ fa _ ra rs =>
        cases rs with
        | @cons vb _ _ _ fb _ rb rs =>
        cases rs
        have eG : isIN d = (isS a "" && isS b "int") := by unfold isIN; rw [hk]
        obtain ⟨s1, t1⟩ := flat_eq ra (hs _ hk a (by simp)) ""
        obtain ⟨s2, t2⟩ := flat_eq rb (hs _ hk b (by simp)) "int"
        refine ⟨_, rfl, seq_at 0 hq rfl ⟨s1, _, rfl, ?_⟩⟩
        rw [t1]
        refine ite_b (fun z1 => ?_) (fun z => by rw [z, Bool.false_and] at eG; rw [eG] at k; exact k H1 e1)
        refine ⟨_, rfl, seq_at 1 hq rfl ⟨s2, _, rfl, ?_⟩⟩
        rw [t2]
        refine ite_b (fun z2 => ?_) (fun z => by rw [z, Bool.and_false] at eG; rw [eG] at k; exact k H1 e1)
        rw [z1, z2] at eG
        rw [eG] at k
        refine ⟨_, rfl, seq_at 0 hq rfl ⟨_, _, rfl, ra.tyb, _, _, rfl, rfl, _, rfl, ite_t (by rw [isS_ty z1]; rfl) ?_⟩⟩
        refine ⟨_, rfl, seq_at 1 hq rfl ⟨_, _, rfl, rb.tyb, _, _, rfl, rfl, ?_⟩⟩
        rw [isS_ty z2]
        exact k H1 e1
      | [], hl, _ => cases hl
      | [_], hl, _ => cases hl
      | _ :: _ :: _ :: _, hl, _ => exact absurd hl (by simp; omega)
abbrev s_is_book_shape : Stmt := top 21
theorem sc_is_book_shape : FnScope ["thing", "left", "one"] ["thing"] (fnScope s_is_book_shape) := fnScope_by (by decide +kernel)
def sp_shape (K : PySem.W.Frag) : Sp := fun vs H Q _ => ∃ v d fp, vs = [v] ∧ Rep K H v d fp ∧ AskB d ∧ szD d ≤ 100000 ∧ ∀ b H', (b = true ↔ GoodB d) → Same H H' → Q (.bl b) H'
theorem ok_is_book_shape (D : DefB K mg "is_book_shape" s_is_book_shape ["thing"]) (B : Bt mg) (C_is_row : Cal P w K mg base 2 "is_row" (sp_is_row K) []) (C_is_great_name : Cal P w K mg base 3 "is_great_name" (sp_gn K) [])
    (C_is_int_name : Cal P w K mg base 3 "is_int_name" (sp_in K) []) : Cal P w K mg base 4 "is_book_shape" (sp_shape K) [] := by
  have sc := sc_is_book_shape
  refine D.cal sc (fun vs H Q E h => ?_) (fun f cdv A outer s H vs Q E hr h => ?_)
  · obtain ⟨v, d, fp, rfl, _⟩ := h
    rfl
  · obtain ⟨v, d, fp, rfl, r, ha, hz, k⟩ := h
    refine ⟨_, (pss_cons (ps_set (i := 1) sc.nd rfl (Or.inl rfl) (pe_lst (pa_cons (pv 0) pa_nil)))
  (pss_cut (ps_while PassesOwn.never (pt_truth (pv 1) (by intro _; rfl)) (pss_cons (ps_set (i := 2) sc.nd rfl (Or.inl rfl) (pe_bm0 PySem.F.plainAttrs_list PySem.F.slot_list_pop PySem.F.type_list_pop mt_pop (pv 1)))
  (pss_cons (ps_if (PW.pt (pw_or (pt_not (pt_val (pe_c C_is_row hr (by omega) rfl (pa_cons (pv 2) (pa_cons pe_int pa_nil))))) (pw_or (pt_cmpR op_isNotTy (pe_callTy call_type1 rfl B.type (by decide +kernel) (pa_cons (pe_ix ix_seq (pv 2) pe_int (fun _ _ => rfl)) pa_nil)) (pe_bltn (v := .ty "str") rfl B.str (by decide +kernel) rfl) (nomark _)) (pw_or (pt_cmpR op_ne (pe_ix ix_seq (pv 2) pe_int (fun _ _ => rfl)) pe_str (nomark _)) (pw_or1 (pt_not (pt_val (pe_c C_is_great_name hr (by omega) rfl (pa_cons (pe_ix ix_seq (pv 2) pe_int (fun _ _ => rfl)) pa_nil))))))))) (pss_one (ps_ret pe_bl)) pss_nil)
  (pss_cons (ps_if (PW.pt (pw_or (PW.pt (pw_and (pt_not (pt_val (pe_c C_is_great_name hr (by omega) rfl (pa_cons (pe_ix ix_seq (pv 2) pe_int (fun _ _ => rfl)) pa_nil)))) (pw_and1 (pt_not (pt_val (pe_c C_is_int_name hr (by omega) rfl (pa_cons (pe_ix ix_seq (pv 2) pe_int (fun _ _ => rfl)) pa_nil))))))) (pw_or1 (pt_not (pt_val (pe_callB call_isiT rfl B.isinstance (by decide +kernel) (pa_cons (pe_ix ix_seq (pv 2) pe_int (fun _ _ => rfl)) (pa_cons (pe_tup (pa_cons (pe_bltn (v := .ty "list") rfl B.list (by decide +kernel) rfl) (pa_cons (pe_bltn (v := .ty "tuple") rfl B.tuple (by decide +kernel) rfl) pa_nil))) pa_nil)))))))) (pss_one (ps_ret pe_bl)) pss_nil)
  (pss_one (ps_expr (pe_bm PySem.F.plainAttrs_list PySem.F.slot_list_extend PySem.F.type_list_extend mt_extA (pv 1) (pa_cons (pe_ix ix_seq (pv 2) pe_int (fun _ _ => rfl)) pa_nil))))))))
  (pss_one (ps_ret pe_bl)))), ?_⟩
    refine ⟨_, rfl, (by show 1 ≤ sizeLine; decide), fun L hL => ?_⟩
    refine ⟨fun σ' H' => GoodB d ∧ Same H H', ?_, fun σ' H' w => k true H' ⟨fun _ => w.1, fun _ => rfl⟩ w.2⟩
    refine ⟨fun m σ' H' => ∃ vs ds fps o, σ' = [some v, some (.ref L), o] ∧ H' L = some (.lst vs) ∧ Reps K H vs ds fps ∧ (∀ x ∈ ds, AskB x) ∧ m = szL ds ∧ szL ds ≤ szD d ∧ ((∀ x ∈ ds, GoodB x) ↔ GoodB d) ∧ Same H H',
      ⟨szL [d], [v], [d], _, none, rfl, upd_same, .one r, (by simpa using ha), rfl, (by simp [szL]), (by simp), same_new hL _⟩, ?_⟩
    rintro m σ' H' ⟨vs, ds, fps, o, rfl, g1, g2, g3, rfl, g5, g6, g7⟩
    refine ⟨_, rfl, _, .inl ⟨vs, SqL.of g1, rfl⟩, ?_⟩
    rcases List.eq_nil_or_concat vs with e | ⟨init, last, e⟩
    · subst e
      cases g2
      exact iteF ⟨g6.mp (fun x hx => nomatch hx), g7⟩
    · rw [List.concat_eq_append] at e
      subst e
      refine ite_t (by simp) ?_
      obtain ⟨ds1, dl, f1, f2, rfl, ra1, rl⟩ := g2.unsnoc
      refine ⟨fun σ2 H2 => ∃ m', m' < szL (ds1 ++ [dl]) ∧ ∃ vs ds fps o, σ2 = [some v, some (.ref L), o] ∧ H2 L = some (.lst vs) ∧ Reps K H vs ds fps ∧ (∀ x ∈ ds, AskB x) ∧ m' = szL ds ∧ szL ds ≤ szD d ∧ ((∀ x ∈ ds, GoodB x) ↔ GoodB d) ∧ Same H H2, fun _ _ z => z, ?_⟩
      refine ⟨_, rfl, .inl ⟨rfl, _, SqL.of g1⟩, L, _, last, rfl, rfl, g1, (by simp), ?_⟩
      rw [List.dropLast_concat]
      have al : AskB dl := g3 dl (by simp)
      have g7' := same_upd (o := .lst init) g7 hL
      have bad : ∀ H3, Same H H3 → okNode dl = false → Q (.bl false) H3 := fun H3 e3 e => k false H3 ⟨(fun z => nomatch z), fun z => by
        have q := g6.mpr z dl (by simp)
        cases q with
        | mk h _ => rw [e] at h; cases h⟩ e3
      refine ⟨_, rfl, last, dl, f2, 4, rfl, rl.same g7', fun H1 e1 => ⟨_, rfl, ?_⟩⟩
      have s1 := g7'.trans e1
      have four : ∀ ds', kids dl = some ds' → (ds'.length : Int) ≠ 4 → okNode dl = false := fun ds' hk hl => by
        unfold okNode
        rw [hk]
        match ds', hl with
        | [], _ => rfl
        | [_], _ => rfl
        | [_, _], _ => rfl
        | [_, _, _], _ => rfl
        | [_, _, _, _], hl => exact absurd rfl hl
        | _ :: _ :: _ :: _ :: _ :: _, _ => rfl
      cases hk : kids dl with
      | none => exact ite_t (by unfold isRow; rw [hk]; rfl) (ite_t rfl (bad H1 s1 (by unfold okNode; rw [hk])))
      | some ds' =>
        by_cases hl : (ds'.length : Int) = 4
        rotate_left
        · exact ite_t (by unfold isRow; rw [hk]; exact congrArg (!·) (decide_eq_false hl)) (ite_t rfl (bad H1 s1 (four ds' hk hl)))
        refine ite_f (by unfold isRow; rw [hk]; exact congrArg (!·) (decide_eq_true hl)) ?_
        match ds', hl, hk with
        | [], hl, _ => cases hl
        | [_], hl, _ => cases hl
        | [_, _], hl, _ => cases hl
        | [_, _, _], hl, _ => cases hl
        | _ :: _ :: _ :: _ :: _ :: _, hl, _ => exact absurd hl (by simp; omega)
        | [a, b, c, e], _, hk =>
          obtain ⟨p, xs, fp', rfl, hq0, rs, _⟩ := rl.seq hk
          have hq := seq_same s1 hq0
          cases rs with
          | @cons va _ _ _ fa _ ra rs =>
          cases rs with
          | @cons vb _ _ _ fb _ rb rs =>
          cases rs with
          | @cons vc _ _ _ fc _ rc rs =>
          cases rs with
          | @cons ve _ _ _ fe _ re rs =>
          cases rs
          have re9 := re
          have ra := ra.same s1
          have rb := rb.same s1
          have rc := rc.same s1
          have re := re.same s1
          cases al with
          | mk al1 al2 =>
          obtain ⟨fla, pob, poc, flc⟩ := al1 a b c e hk
          have eO : okNode dl = (isS a "by" && isGN b && (isGN c || isIN c) && (kids e).isSome) := by unfold okNode; rw [hk]
          have eP : partsOf dl = (kids e).getD [] := by unfold partsOf; rw [hk]
          obtain ⟨sa, ta⟩ := flat_eq ra fla "by"
          -- type(one[0]) is not str
          refine ⟨_, rfl, seq_at 0 hq rfl ⟨_, _, rfl, ra.tyb, _, _, rfl, rfl, _, rfl, ?_⟩⟩
          by_cases h1 : tyName a = "str"
          rotate_left
          · have z : isS a "by" = false := by
              cases z : isS a "by" with
              | false => rfl
              | true => exact absurd (isS_ty z) h1
            exact ite_t (by rw [decide_eq_false h1]; rfl) (ite_t rfl (bad H1 s1 (by rw [eO, z]; rfl)))
          refine ite_f (by rw [decide_eq_true h1]; rfl) ?_
          -- one[0] != "by"
          refine ⟨_, rfl, seq_at 0 hq rfl ⟨sa, _, rfl, ?_⟩⟩
          rw [ta]
          refine ite_b (fun z => ite_t rfl (bad H1 s1 (by rw [eO, (Bool.not_eq_true' _).mp z]; rfl))) (fun z1 => ?_)
          have z1 : isS a "by" = true := (Bool.not_eq_false' _).mp z1
          -- not is_great_name(one[1])
          refine ⟨_, rfl, seq_at 1 hq rfl ⟨vb, b, fb, rfl, rb, pob, fun H2 e2 => ⟨_, rfl, ?_⟩⟩⟩
          have s2 := s1.trans e2
          refine ite_b (fun z => bad H2 s2 (by rw [eO, (Bool.not_eq_true' _).mp z, Bool.and_false]; rfl)) (fun z2 => ?_)
          have z2 : isGN b = true := (Bool.not_eq_false' _).mp z2
          have hq2 := seq_same e2 hq
          -- the second test
          -- the second test
          have test2 : ∀ QQ : Bool → Hp → Prop, (∀ H5, Same H2 H5 → QQ (!((isGN c || isIN c) && (kids e).isSome)) H5) →
              tOr (tAnd (tNot (tB (tCall (sp_gn K) [] C8.E0 (tCons (tOp (rIx K) (tVar 2) (tC (.int 2))) tNil)))) (tNot (tB (tCall (sp_in K) [] C8.E0 (tCons (tOp (rIx K) (tVar 2) (tC (.int 2))) tNil)))))
                (tNot (tB (tCB (rIsiT K) (tCons (tOp (rIx K) (tVar 2) (tC (.int 3))) (tCons (tTup (tCons (tC (.ty "list")) (tCons (tC (.ty "tuple")) tNil))) tNil))))) [some v, some (.ref L), some (.ref p)] H2 QQ := fun QQ q => by
            have isi : ∀ H3, Same H2 H3 → (isGN c || isIN c) = true →
                tNot (tB (tCB (rIsiT K) (tCons (tOp (rIx K) (tVar 2) (tC (.int 3))) (tCons (tTup (tCons (tC (.ty "list")) (tCons (tC (.ty "tuple")) tNil))) tNil)))) [some v, some (.ref L), some (.ref p)] H3 QQ := fun H3 e3 hc => by
              refine ⟨_, rfl, seq_at 3 (seq_same e3 hq2) rfl ⟨by decide, fun T hT => ⟨_, T, _, _, _, _, rfl, upd_same, cls_any ["list", "tuple"], (((re.same e2).same e3).same (same_new hT _)).tyx, kit_any e ["list", "tuple"] (by decide), _, rfl, ?_⟩⟩⟩
              have q2 := q _ (e3.trans (same_new hT (.tup [.ty "list", .ty "tuple"])))
              rw [hc, Bool.true_and, ← kids_ty] at q2
              rw [show ["list", "tuple"].any (isTy e) = (isTy e "list" || isTy e "tuple") by simp]
              exact q2
            refine ⟨_, rfl, seq_at 2 hq2 rfl ⟨vc, c, fc, rfl, rc.same e2, poc, fun H3 e3 => ⟨_, rfl, ?_⟩⟩⟩
            refine ite_b (fun zc => ?_) (fun zc => ?_)
            · have zc : isGN c = false := (Bool.not_eq_true' _).mp zc
              refine ⟨_, rfl, seq_at 2 (seq_same e3 hq2) rfl ⟨vc, c, fc, rfl, (rc.same e2).same e3, flc, fun H4 e4 => ⟨_, rfl, ?_⟩⟩⟩
              refine ite_b (fun zi => ?_) (fun zi => ?_)
              · have q2 := q H4 (e3.trans e4)
                rw [zc, (Bool.not_eq_true' _).mp zi] at q2
                exact q2
              · exact isi H4 (e3.trans e4) (by rw [(Bool.not_eq_false' _).mp zi, Bool.or_true])
            · exact ite_f rfl (isi H3 e3 (by rw [(Bool.not_eq_false' _).mp zc, Bool.true_or]))
          refine test2 _ (fun H5 e5 => ?_)
          have s5 := s2.trans e5
          refine ite_b (fun z => bad H5 s5 (by rw [eO, z1, z2, Bool.true_and, Bool.true_and]; exact (Bool.not_eq_true' _).mp z)) (fun z => ?_)
          have z3 : ((isGN c || isIN c) && (kids e).isSome) = true := (Bool.not_eq_false' _).mp z
          have ok1 : okNode dl = true := by rw [eO, z1, z2, Bool.true_and, Bool.true_and]; exact z3
          -- left.extend(one[3])
          obtain ⟨es, hke⟩ : ∃ es, kids e = some es := by
            cases h2 : kids e with
            | some es => exact ⟨es, rfl⟩
            | none => rw [h2, Option.isSome_none, Bool.and_false] at z3; cases z3
          have eP' : partsOf dl = es := by rw [eP, hke]; rfl
          have h5 : H5 L = some (.lst init) := e5 _ _ (e2 _ _ (e1 _ _ upd_same))
          have rl0 := rl
          obtain ⟨pe, xe, fe', hve, hxe, re0, _⟩ : ∃ pe xe fe', ve = .ref pe ∧ (H5 pe = some (.lst xe) ∨ SqT K H5 pe xe) ∧ Reps K H xe es fe' ∧ True := by
            clear re
            cases re9 with
            | lst h r => cases hke; exact ⟨_, _, _, rfl, .inl (s5 _ _ h), r, trivial⟩
            | tup h r => cases hke; exact ⟨_, _, _, rfl, .inr (Same.sqT s5 h), r, trivial⟩
            | non => cases hke
            | bl b => cases hke
            | int i => cases hke
            | str x => cases hke
            | emp h => cases hke
          subst hve
          have hsz := parts_sz (d := dl)
          rw [eP'] at hsz
          have hs0 : szL (ds1 ++ [dl]) = szL ds1 + (szD dl + 0) := by rw [szL_app]; simp [szL]
          have hlen1 := ra1.len
          have hlen2 := re0.len
          have hl1 := szL_len ds1
          have hl2 := szL_len es
          refine ⟨_, rfl, .inl ⟨rfl, _, SqL.of h5⟩, _, rfl, seq_at 3 (seq_same e5 hq2) rfl ⟨L, pe, init, xe, rfl, rfl, h5, hxe, ?_, ?_⟩⟩
          · exact Nat.le_trans (by omega : init.length + xe.length ≤ 100000) (by decide)
          · refine ⟨szL (ds1 ++ es), by rw [szL_app, hs0]; omega, init ++ xe, ds1 ++ es, f1 ++ fe', some (.ref p), rfl, upd_same, ra1.app re0, ?_, rfl, by rw [szL_app]; omega, ?_, same_upd s5 hL⟩
            · intro x hx
              rcases List.mem_append.mp hx with hx | hx
              · exact g3 x (List.mem_append_left _ hx)
              · exact al2 x (by rw [eP']; exact hx)
            · rw [← g6]
              constructor
              · intro h x hx
                rcases List.mem_append.mp hx with hx | hx
                · exact h x (List.mem_append_left _ hx)
                · rw [List.mem_singleton.mp hx]
                  exact ⟨ok1, fun y hy => h y (List.mem_append_right _ (by rw [← eP']; exact hy))⟩
              · intro h x hx
                rcases List.mem_append.mp hx with hx | hx
                · exact h x (List.mem_append_left _ hx)
                · have q := h dl (by simp)
                  cases q with
                  | mk _ h2 => exact h2 x (by rw [eP']; exact hx)
end
end K54

set_option Elab.async false
set_option linter.all false
set_option maxRecDepth 100000
set_option maxHeartbeats 4000000
namespace K54
open PySem PySem.Spec PyProof.Rows L2 C8 RZ LiI SX
/-- a book: class m.e of the data hm.ht, its books -/
inductive Bk where
  | mk (m e hm ht : List Nat) (ps : List Bk)
abbrev cInt : List Nat := [105, 110, 116]
abbrev isI (hm ht : List Nat) : Bool := decide (hm = []) && decide (ht = cInt)
def headT (hm ht : List Nat) : List Nat := if isI hm ht = true then cInt else hm ++ 46 :: ht
def joinT : List (List Nat) → List Nat
  | [] => []
  | [x] => x
  | x :: y :: r => x ++ 44 :: 32 :: joinT (y :: r)
mutual
def txt : Bk → List Nat
  | .mk m e hm ht ps => m ++ 46 :: (e ++ 32 :: (headT hm ht ++ (match ps with
    | [] => []
    | _ :: _ => 40 :: (joinT (txts ps) ++ [41]))))
def txts : List Bk → List (List Nat)
  | [] => []
  | p :: ps => txt p :: txts ps
end
mutual
def dOf : Bk → Dt
  | .mk m e hm ht ps => .tup [.str "by", .tup [.str (S m), .str (S e)], .tup [.str (S hm), .str (S ht)], .lst (dOfs ps)]
def dOfs : List Bk → List Dt
  | [] => []
  | p :: ps => dOf p :: dOfs ps
end
theorem txts_map : ∀ ps : List Bk, txts ps = ps.map txt
  | [] => rfl
  | p :: ps => by rw [txts, txts_map ps]; rfl
theorem dOfs_map : ∀ ps : List Bk, dOfs ps = ps.map dOf
  | [] => rfl
  | p :: ps => by rw [dOfs, dOfs_map ps]; rfl
theorem joinT_joinL : ∀ ys : List (List Nat), joinT ys = TL.joinL [44, 32] ys
  | [] => rfl
  | [x] => rfl
  | x :: y :: r => by
    show x ++ 44 :: 32 :: joinT (y :: r) = x ++ ([44, 32] ++ TL.joinL [44, 32] (y :: r))
    rw [joinT_joinL (y :: r)]
    rfl
theorem joinT_mem : ∀ {ys : List (List Nat)} {x : List Nat}, x ∈ ys → x.length ≤ (joinT ys).length ∧ ∀ c ∈ x, c ∈ joinT ys
  | [y], x, h => by
    rw [List.mem_singleton.mp h]
    exact ⟨Nat.le_refl _, fun c hc => hc⟩
  | y :: z :: r, x, h => by
    show x.length ≤ (y ++ 44 :: 32 :: joinT (z :: r)).length ∧ ∀ c ∈ x, c ∈ y ++ 44 :: 32 :: joinT (z :: r)
    rw [List.length_append, List.length_cons, List.length_cons]
    rcases List.mem_cons.mp h with e | h
    · rw [e]
      exact ⟨by omega, fun c hc => List.mem_append_left _ hc⟩
    · obtain ⟨h1, h2⟩ := joinT_mem h
      exact ⟨by omega, fun c hc => List.mem_append_right _ (List.mem_cons_of_mem _ (List.mem_cons_of_mem _ (h2 c hc)))⟩
theorem joinT_sum : ∀ ys : List (List Nat), (ys.map List.length).sum ≤ (joinT ys).length ∧ 2 * ys.length ≤ (joinT ys).length + 2
  | [] => ⟨Nat.le_refl _, by simp⟩
  | [x] => ⟨by simp [joinT], by simp⟩
  | x :: y :: r => by
    obtain ⟨h1, h2⟩ := joinT_sum (y :: r)
    rw [List.map_cons, List.sum_cons, List.length_cons]
    show _ ≤ (x ++ 44 :: 32 :: joinT (y :: r)).length ∧ _ ≤ (x ++ 44 :: 32 :: joinT (y :: r)).length + 2
    rw [List.length_append, List.length_cons, List.length_cons]
    exact ⟨by omega, by omega⟩
def partT (ps : List Bk) : List Nat := match ps with
  | [] => []
  | _ :: _ => 40 :: (joinT (txts ps) ++ [41])
theorem txt_eq (m e hm ht : List Nat) (ps : List Bk) : txt (.mk m e hm ht ps) = m ++ 46 :: (e ++ 32 :: (headT hm ht ++ partT ps)) := rfl
/-- so deep at most -/
def BDep : Nat → Bk → Prop
  | 0, _ => False
  | n + 1, .mk _ _ _ _ ps => ∀ p ∈ ps, BDep n p
theorem nrm_str {d : Dt} {x : Str} (h : nrm d = .str x) : d = .str x := by
  cases d with
  | str y => exact h
  | lst xs => cases h
  | tup xs => cases h
  | non => cases h
  | bl b => cases h
  | int i => cases h
  | emp => cases h
theorem nrm_tup {d : Dt} {ys : List Dt} (h : nrm d = .tup ys) : ∃ ds, kids d = some ds ∧ nrms ds = ys := by
  cases d with
  | str y => cases h
  | lst xs => exact ⟨xs, rfl, Dt.tup.inj h⟩
  | tup xs => exact ⟨xs, rfl, Dt.tup.inj h⟩
  | non => cases h
  | bl b => cases h
  | int i => cases h
  | emp => cases h
theorem nrms_map : ∀ ds : List Dt, nrms ds = ds.map nrm
  | [] => rfl
  | d :: ds => by rw [nrms, nrms_map ds]; rfl
/-- what stands within a book's data, lists and tuples alike -/
theorem bk_kids {d : Dt} {m e hm ht : List Nat} {ps : List Bk} (h : nrm d = nrm (dOf (.mk m e hm ht ps))) : ∃ d1 d2 d3 qs, kids d = some [.str "by", d1, d2, d3] ∧ kids d1 = some [.str (S m), .str (S e)] ∧ kids d2 = some [.str (S hm), .str (S ht)] ∧ kids d3 = some qs ∧ qs.map nrm = ps.map (fun p => nrm (dOf p)) := by
  have two : ∀ {d : Dt} {x y : Str}, nrm d = .tup [.str x, .str y] → kids d = some [.str x, .str y] := fun {d x y} h => by
    obtain ⟨ds, hk, hn⟩ := nrm_tup h
    rw [nrms_map] at hn
    match ds, hn with
    | [a, b], hn =>
      have h1 : nrm a = .str x := by have := List.cons.inj hn; exact this.1
      have h2 : nrm b = .str y := by have := List.cons.inj (List.cons.inj hn).2; exact this.1
      rw [hk, nrm_str h1, nrm_str h2]
    | [], hn => exact absurd (congrArg List.length hn) (by simp)
    | [_], hn => exact absurd (congrArg List.length hn) (by simp)
    | _ :: _ :: _ :: _, hn => exact absurd (congrArg List.length hn) (by simp)
  have h' : nrm d = .tup [.str "by", .tup [.str (S m), .str (S e)], .tup [.str (S hm), .str (S ht)], .tup (nrms (dOfs ps))] := h
  obtain ⟨ds, hk, hn⟩ := nrm_tup h'
  rw [nrms_map] at hn
  match ds, hn with
  | [a, b, c, f], hn =>
    have i1 := List.cons.inj hn
    have i2 := List.cons.inj i1.2
    have i3 := List.cons.inj i2.2
    have i4 := List.cons.inj i3.2
    have e1 := nrm_str i1.1
    subst e1
    obtain ⟨qs, hq, hn2⟩ := nrm_tup i4.1
    refine ⟨b, c, f, qs, hk, two i2.1, two i3.1, hq, ?_⟩
    rw [← nrms_map, hn2, nrms_map, dOfs_map, List.map_map]
    rfl
  | [], hn => exact absurd (congrArg List.length hn) (by simp)
  | [_], hn => exact absurd (congrArg List.length hn) (by simp)
  | [_, _], hn => exact absurd (congrArg List.length hn) (by simp)
  | [_, _, _], hn => exact absurd (congrArg List.length hn) (by simp)
  | _ :: _ :: _ :: _ :: _ :: _, hn => exact absurd (congrArg List.length hn) (by simp)
section
variable {P : Program} {w : World} {K : PySem.W.Frag} {mg : Str → Option Value} {base : Heap} {aW aN : Addr}
/-- a pair of texts -/
theorem Rep.two {H : Hp} {v : V} {d : Dt} {fp : List Addr} {x y : Str} (r : Rep K H v d fp) (h : kids d = some [.str x, .str y]) : ∃ a, v = .ref a ∧ (H a = some (.lst [.str x, .str y]) ∨ SqT K H a [.str x, .str y]) := by
  cases r with
  | lst e r =>
    cases h
    cases r with
    | cons r1 r =>
    cases r with
    | cons r2 r =>
    cases r
    cases r1
    cases r2
    exact ⟨_, rfl, .inl e⟩
  | tup e r =>
    cases h
    cases r with
    | cons r1 r =>
    cases r with
    | cons r2 r =>
    cases r
    cases r1
    cases r2
    exact ⟨_, rfl, .inr e⟩
  | non => cases h
  | bl b => cases h
  | int i => cases h
  | str x => cases h
  | emp _ => cases h
abbrev s_text_of : Stmt := top 22
theorem sc_text_of : FnScope ["book", "head", "parts", "one"] ["book"] (fnScope s_text_of) := fnScope_by (by decide +kernel)
def sp_text (K : PySem.W.Frag) (n : Nat) : Sp := fun vs H Q _ => ∃ v d fp b, vs = [v] ∧ Rep K H v d fp ∧ nrm d = nrm (dOf b) ∧ BDep n b ∧ (txt b).length ≤ 10000 ∧ (txt b).all (fun c => decide (c < 1114112)) = true ∧ ∀ H', Same H H' → Q (.str (S (txt b))) H'
theorem ok_text_of1 {n : Nat} (D : DefB K mg "text_of" s_text_of ["book"]) (B : Bt mg) (T : Tx K mg aW aN) (C_text_of : Cal P w K mg base n "text_of" (sp_text K n) []) : Cal P w K mg base (n + 1) "text_of" (sp_text K (n + 1)) [] := by
  have sc := sc_text_of
  refine D.cal sc (fun vs H Q E h => ?_) (fun f cdv A outer s H vs Q E hr h => ?_)
  · obtain ⟨v, d, fp, b, rfl, _⟩ := h
    rfl
  · obtain ⟨v, d, fp, b, rfl, r, hn, hb, hz, hc, k⟩ := h
    refine ⟨_, (pss_cut (ps_set (i := 1) sc.nd rfl (Or.inl rfl) (pe_ifExp (pt_cmpR (op_eqD hr.units) (pe_callTy call_tuple_of rfl B.tuple (by decide +kernel) (pa_cons (pe_ix ix_seq (pv 0) pe_int (fun _ _ => rfl)) pa_nil)) (pe_gc rfl T.gINT_NAME) (nomark _)) pe_str (pe_join pe_str (pe_ix ix_seq (pv 0) pe_int (fun _ _ => rfl)))))
  (pss_cut (ps_set (i := 2) sc.nd rfl (Or.inl rfl) (pe_ifExp (pt_cmpR op_gt (pe_callB call_len_seq rfl B.len (by decide +kernel) (pa_cons (pe_ix ix_seq (pv 0) pe_int (fun _ _ => rfl)) pa_nil)) pe_int (nomark _)) (pe_op op_add_str (pe_op op_add_str pe_str (pe_join pe_str (pe_lc (own := [("one", 3)]) (g := gName 3) rfl sc.nd (pi_seq (pe_ix ix_seq (pv 0) pe_int (fun _ _ => rfl))) (blkOk_by (own := [("one", 3)]) (N := ["book", "head", "parts", "one"]) (sc := fnScope s_text_of) (by decide +kernel)) (fun _ _ _ _ _ => (pg_name (i := 3) sc.nd rfl (Or.inl rfl))) (fun _ _ _ _ _ => pts_nil) (fun _ _ _ _ _ => (pe_c C_text_of hr (by omega) rfl (pa_cons (pv 3) pa_nil)))))) pe_str) pe_str))
  (pss_one (ps_ret (pe_op op_add_str (pe_op op_add_str (pe_op op_add_str (pe_join pe_str (pe_ix ix_seq (pv 0) pe_int (fun _ _ => rfl))) pe_str) (pv 1)) (pv 2)))))), ?_⟩
    obtain ⟨m, e, hm, ht, ps⟩ := b
    obtain ⟨d1, d2, d3, qs, k0, k1, k2, k3, hqs⟩ := bk_kids hn
    obtain ⟨p, xs, fp', rfl, hq, rs, _⟩ := r.seq k0
    cases rs with
    | @cons v0 _ _ _ f0 _ r0 rs =>
    cases rs with
    | @cons v1 _ _ _ f1 _ r1 rs =>
    cases rs with
    | @cons v2 _ _ _ f2 _ r2 rs =>
    cases rs with
    | @cons v3 _ _ _ f3 _ r3 rs =>
    cases rs
    obtain ⟨a1, rfl, s1⟩ := r1.two k1
    obtain ⟨a2, rfl, s2⟩ := r2.two k2
    have hall : ∀ c ∈ txt (.mk m e hm ht ps), c < 1114112 := fun c hcm => of_decide_eq_true (List.all_eq_true.mp hc c hcm)
    have hz' := hz
    rw [txt_eq, List.length_append, List.length_cons, List.length_append, List.length_cons, List.length_append] at hz'
    rw [txt_eq] at hall k
    have hhead : (headT hm ht).length ≤ 10000 := by omega
    have okc : PyData.strOk (S hm) = true ∧ PyData.strOk (S ht) = true := by
      have q : ∀ l : List Nat, (∀ c ∈ l, c < 1114112) → PyData.strOk (S l) = true := fun l hl => by
        show (S l).cps.all (fun x => decide (x < 1114112)) = true
        rw [← Array.all_toList]
        exact List.all_eq_true.mpr fun c hcm => decide_eq_true (hl c hcm)
      by_cases hI : isI hm ht = true
      · have hI' := hI
        rw [Bool.and_eq_true, decide_eq_true_eq, decide_eq_true_eq] at hI'
        rw [hI'.1, hI'.2]
        exact ⟨by decide +kernel, by decide +kernel⟩
      · have eh : headT hm ht = hm ++ 46 :: ht := if_neg hI
        rw [eh] at hall
        exact ⟨q _ fun c hcm => hall c (by simp [hcm]), q _ fun c hcm => hall c (by simp [hcm])⟩
    have shp : SeqAt.shaped (.tuple [.str (S hm), .str (S ht)]) = true := by
      show ((PyData.strOk (S hm) && (PyData.strOk (S ht) && true)) && decide (max 0 (max 0 0) + 1 ≤ 64)) = true
      rw [okc.1, okc.2]
      rfl
    have ev : PyData.eqv (.tuple [.str (S hm), .str (S ht)]) (.tuple [.str "", .str "int"]) = isI hm ht := by
      show (S hm == ("" : Str) && (S ht == ("int" : Str) && true)) = isI hm ht
      rw [show ("" : Str) = S [] from rfl, show ("int" : Str) = S cInt by decide +kernel, S_beq_eq, S_beq_eq, Bool.and_true]
    -- head, from any heap behind
    have hcmp : ∀ (T2 : Addr) (H2 : Hp), Same H H2 → SqT K H2 T2 [.str (S hm), .str (S ht)] → ∀ QQ : VK, (∀ H3, Same H H3 → QQ (.str (S (headT hm ht))) H3) →
        rEqD K (.ref T2) (.ref aN) H2 (fun x H' => ∃ k, x = .bl k ∧ (if k = true then QQ (.str "int") H' else (tM1 (fun x xs H Q => ∃ a p, ∃ ys : List Str, x = .str a ∧ xs = [.ref p] ∧ (SqL K H p (ys.map V.str) ∨ SqT K H p (ys.map V.str)) ∧ (ys.map (·.length)).sum + ys.length * a.length ≤ 16777216 ∧ Q (.str (Txt.join a ys)) H) (tC (.str ".")) (tOp (rIx K) (tVar 0) (tC (.int 2)))) [some (.ref p), none, none, none] H' QQ)) := fun T2 H2 e2 hT QQ q => by
      refine ⟨_, _, .tup hT (.cons (.str _) (.cons (.str _) .nil)), .tup (T.tN _) (.cons (.str _) (.cons (.str _) .nil)), shp, by decide +kernel, _, rfl, ?_⟩
      rw [ev]
      refine ite_b (fun hI => ?_) (fun hI => ?_)
      · have q2 := q H2 e2
        rw [show headT hm ht = cInt from if_pos hI] at q2
        rw [show ("int" : Str) = S cInt by decide +kernel]
        exact q2
      · have eh : headT hm ht = hm ++ 46 :: ht := if_neg (by rw [hI]; exact Bool.false_ne_true)
        refine ⟨⟨_, rfl⟩, _, rfl, seq_at 2 (seq_same e2 hq) rfl ⟨".", a2, [S hm, S ht], rfl, rfl, ?_, ?_, ?_⟩⟩
        · rcases s2 with s2 | s2
          · exact .inl (sqL_same e2 (SqL.of s2))
          · exact .inr (Same.sqT e2 s2)
        · rw [eh, List.length_append, List.length_cons] at hhead
          show (S hm).length + ((S ht).length + 0) + 2 * 1 ≤ 16777216
          rw [S_len, S_len]
          omega
        · have q2 := q H2 e2
          rw [eh] at q2
          rw [show ("." : Str) = S [46] by decide +kernel, show [S hm, S ht] = [hm, ht].map S from rfl, join_S]
          exact q2
    refine ⟨fun σ' H' => σ' = [some (.ref p), some (.str (S (headT hm ht))), none, none] ∧ Same H H', ?_, ?_⟩
    · refine ⟨_, rfl, seq_at 2 hq rfl ⟨a2, [.str (S hm), .str (S ht)], rfl, ?_⟩⟩
      rcases s2 with z2 | z2
      · exact .inl ⟨SqL.of z2, fun T2 hT => hcmp T2 _ (same_new hT _) (SqT.of upd_same) _ fun H3 e3 => ⟨rfl, e3⟩⟩
      · exact .inr ⟨z2, hcmp a2 H (Same.refl H) z2 _ fun H3 e3 => ⟨rfl, e3⟩⟩
    rintro σ' H3 ⟨rfl, e3⟩
    refine ⟨fun σ' H' => σ' = [some (.ref p), some (.str (S (headT hm ht))), some (.str (S (partT ps))), none] ∧ Same H H', ?_, ?_⟩
    · obtain ⟨a3, xs3, f3', rfl, h30, rs3, _⟩ := r3.seq k3
      have hlen3 : xs3.length = ps.length := by
        rw [rs3.len, ← List.length_map (f := nrm), hqs, List.length_map]
      refine ⟨_, rfl, seq_at 3 (seq_same e3 hq) rfl ⟨a3, xs3, rfl, seq_same e3 h30, _, _, rfl, rfl, _, rfl, ite_dec (fun h => ?_) (fun h => ?_)⟩⟩
      rotate_left
      · have ep : ps = [] := List.length_eq_zero_iff.mp (by omega)
        rw [ep]
        exact ⟨rfl, e3⟩
      have pT : partT ps = [40] ++ joinT (txts ps) ++ [41] := by
        cases ps with
        | nil => rw [hlen3] at h; exact absurd h (by decide)
        | cons q ps => rfl
      have jn : Txt.join ", " (ps.map fun p => S (txt p)) = S (joinT (txts ps)) := by
        rw [show (", " : Str) = S [44, 32] by decide +kernel, show (ps.map fun p => S (txt p)) = (txts ps).map S by rw [txts_map, List.map_map]; rfl, join_S, joinT_joinL]
      have lT : (joinT (txts ps)).length + 2 ≤ 10000 := by
        have q : (partT ps).length = (joinT (txts ps)).length + 2 := by rw [pT, List.length_append, List.length_append]; show 1 + _ + 1 = _; omega
        omega
      have hpc : ∀ c ∈ joinT (txts ps), c < 1114112 := fun c hcm => hall c (by rw [pT]; simp [hcm])
      have l5 : ps.length ≤ 6000 := by
        have j2 := (joinT_sum (txts ps)).2
        have j3 : (txts ps).length = ps.length := by rw [txts_map, List.length_map]
        omega
      have parts_at : ∀ {i : Nat} {dx : Dt}, qs[i]? = some dx → ∃ px, ps[i]? = some px ∧ nrm dx = nrm (dOf px) := fun {i dx} g => by
        have q : (qs.map nrm)[i]? = some (nrm dx) := by rw [List.getElem?_map, g]; rfl
        rw [hqs, List.getElem?_map] at q
        cases e : ps[i]? with
        | none => rw [e] at q; cases q
        | some px => rw [e] at q; exact ⟨px, rfl, (Option.some.inj q).symm⟩
      rcases h30 with h30 | h30
      · refine ⟨⟨_, rfl⟩, _, rfl, seq_at 3 (seq_same e3 hq) rfl ⟨a3, xs3, rfl, .inl ⟨sqL_same e3 h30, fun L hL => lc_it walk_list (fun i H4 => Same H H4 ∧ H4 L = some (.lst ((ps.take i).map fun p => V.str (S (txt p))))) ⟨e3.trans (same_new hL _), upd_same⟩ (fun i H4 _ pv => sqL_same pv.1 h30) (fun i x H4 H5 hi pv y => ?_) (fun H4 pv => ?_)⟩⟩⟩
        · obtain ⟨rfl, hx⟩ := y
          obtain ⟨dx, fx, gx, mx, rx, _⟩ := rs3.at hx
          obtain ⟨px, gp, np⟩ := parts_at gx
          have hpm : px ∈ ps := List.mem_of_getElem? gp
          have hpt : txt px ∈ txts ps := by rw [txts_map]; exact List.mem_map_of_mem hpm
          obtain ⟨l1, l2⟩ := joinT_mem hpt
          refine ⟨rfl, ?_⟩
          refine ⟨_, rfl, x, dx, fx, px, rfl, rx.same pv.1, np, hb px hpm, by omega, ?_, fun H6 e6 => ⟨_, e6 _ _ pv.2, ?_, ?_, ?_⟩⟩
          · exact List.all_eq_true.mpr fun c hcm => decide_eq_true (hpc c (l2 c hcm))
          · rw [List.length_map, List.length_take]
            exact Nat.lt_of_le_of_lt (by omega : _ ≤ 6000) (by decide)
          · exact same_upd (pv.1.trans e6) (e3.free hL)
          · rw [upd_same, List.take_add_one, gp, List.map_append]
            rfl
        · have e4 := pv.1
          have hl4 : H4 L = some (.lst ((ps.map fun p => S (txt p)).map V.str)) := by
            rw [pv.2, hlen3, List.take_length, List.map_map]
            rfl
          refine ⟨", ", L, _, rfl, rfl, .inl (SqL.of hl4), ?_, _, _, rfl, rfl, ?_, _, _, rfl, rfl, ?_, ?_⟩
          · have j1 := (joinT_sum (txts ps)).1
            have j3 : ((ps.map fun p => S (txt p)).map (fun x => x.length)).sum = ((txts ps).map List.length).sum := by
              rw [txts_map, List.map_map, List.map_map]
              congr 1
            rw [j3, List.length_map]
            show _ + ps.length * 2 ≤ _
            omega
          · rw [jn, show ("(" : Str) = S [40] by decide +kernel, S_len, S_len]
            exact Nat.le_trans (by show 1 + _ ≤ 100000; omega) (by decide)
          · rw [jn, show ("(" : Str) = S [40] by decide +kernel, S_cat, S_len]
            exact Nat.le_trans (by show ([40] ++ _).length + 1 ≤ 100000; rw [List.length_append, List.length_singleton]; omega) (by decide)
          · rw [jn, show ("(" : Str) = S [40] by decide +kernel, show (")" : Str) = S [41] by decide +kernel, S_cat, S_cat, ← pT]
            exact ⟨rfl, e4⟩
      · refine ⟨⟨_, rfl⟩, _, rfl, seq_at 3 (seq_same e3 hq) rfl ⟨a3, xs3, rfl, .inr ⟨Same.sqT e3 h30, fun L hL => lc_it walk_tup (fun i H4 => Same H H4 ∧ H4 L = some (.lst ((ps.take i).map fun p => V.str (S (txt p))))) ⟨e3.trans (same_new hL _), upd_same⟩ (fun i H4 _ pv => Same.sqT pv.1 h30) (fun i x H4 H5 hi pv y => ?_) (fun H4 pv => ?_)⟩⟩⟩
        · obtain ⟨rfl, hx⟩ := y
          obtain ⟨dx, fx, gx, mx, rx, _⟩ := rs3.at hx
          obtain ⟨px, gp, np⟩ := parts_at gx
          have hpm : px ∈ ps := List.mem_of_getElem? gp
          have hpt : txt px ∈ txts ps := by rw [txts_map]; exact List.mem_map_of_mem hpm
          obtain ⟨l1, l2⟩ := joinT_mem hpt
          refine ⟨rfl, ?_⟩
          refine ⟨_, rfl, x, dx, fx, px, rfl, rx.same pv.1, np, hb px hpm, by omega, ?_, fun H6 e6 => ⟨_, e6 _ _ pv.2, ?_, ?_, ?_⟩⟩
          · exact List.all_eq_true.mpr fun c hcm => decide_eq_true (hpc c (l2 c hcm))
          · rw [List.length_map, List.length_take]
            exact Nat.lt_of_le_of_lt (by omega : _ ≤ 6000) (by decide)
          · exact same_upd (pv.1.trans e6) (e3.free hL)
          · rw [upd_same, List.take_add_one, gp, List.map_append]
            rfl
        · have e4 := pv.1
          have hl4 : H4 L = some (.lst ((ps.map fun p => S (txt p)).map V.str)) := by
            rw [pv.2, hlen3, List.take_length, List.map_map]
            rfl
          refine ⟨", ", L, _, rfl, rfl, .inl (SqL.of hl4), ?_, _, _, rfl, rfl, ?_, _, _, rfl, rfl, ?_, ?_⟩
          · have j1 := (joinT_sum (txts ps)).1
            have j3 : ((ps.map fun p => S (txt p)).map (fun x => x.length)).sum = ((txts ps).map List.length).sum := by
              rw [txts_map, List.map_map, List.map_map]
              congr 1
            rw [j3, List.length_map]
            show _ + ps.length * 2 ≤ _
            omega
          · rw [jn, show ("(" : Str) = S [40] by decide +kernel, S_len, S_len]
            exact Nat.le_trans (by show 1 + _ ≤ 100000; omega) (by decide)
          · rw [jn, show ("(" : Str) = S [40] by decide +kernel, S_cat, S_len]
            exact Nat.le_trans (by show ([40] ++ _).length + 1 ≤ 100000; rw [List.length_append, List.length_singleton]; omega) (by decide)
          · rw [jn, show ("(" : Str) = S [40] by decide +kernel, show (")" : Str) = S [41] by decide +kernel, S_cat, S_cat, ← pT]
            exact ⟨rfl, e4⟩
    rintro σ' H4 ⟨rfl, e4⟩
    refine ⟨⟨_, rfl⟩, _, rfl, seq_at 1 (seq_same e4 hq) rfl ⟨".", a1, [S m, S e], rfl, rfl, ?_, ?_, ?_⟩⟩
    · rcases s1 with z | z
      · exact .inl (sqL_same e4 (SqL.of z))
      · exact .inr (Same.sqT e4 z)
    · show (S m).length + ((S e).length + 0) + 2 * 1 ≤ 16777216
      rw [S_len, S_len]
      omega
    · have j : Txt.join "." [S m, S e] = S (m ++ 46 :: e) := by
        rw [show (("." : Str)) = S [46] by decide +kernel, show [S m, S e] = [m, e].map S from rfl, join_S]
        rfl
      rw [j]
      refine ⟨_, _, rfl, rfl, ?_, _, rfl, _, _, rfl, rfl, ?_, _, rfl, _, _, rfl, rfl, ?_, ?_⟩
      · rw [show ((" " : Str)) = S [32] by decide +kernel, S_len, S_len]
        exact Nat.le_trans (by rw [List.length_append, List.length_cons]; show _ + 1 ≤ 100000; omega) (by decide)
      · rw [show ((" " : Str)) = S [32] by decide +kernel, S_cat, S_len, S_len]
        exact Nat.le_trans (by rw [List.length_append, List.length_append, List.length_cons]; show _ + 1 + _ ≤ 100000; omega) (by decide)
      · rw [show ((" " : Str)) = S [32] by decide +kernel, S_cat, S_cat, S_len, S_len]
        exact Nat.le_trans (by rw [List.length_append, List.length_append, List.length_append, List.length_cons]; show _ + 1 + _ + _ ≤ 100000; omega) (by decide)
      · rw [show ((" " : Str)) = S [32] by decide +kernel, S_cat, S_cat, S_cat]
        have q := k H4 e4
        rw [show m ++ 46 :: e ++ [32] ++ headT hm ht ++ partT ps = m ++ 46 :: (e ++ 32 :: (headT hm ht ++ partT ps)) by simp]
        exact q
theorem ok_text_of (D : DefB K mg "text_of" s_text_of ["book"]) (B : Bt mg) (T : Tx K mg aW aN) : ∀ n, Cal P w K mg base n "text_of" (sp_text K n) []
  | 0 => D.none fun vs H Q E h => by
    obtain ⟨v, d, fp, b, _, _, _, hb, _⟩ := h
    exact hb
  | n + 1 => ok_text_of1 D B T (ok_text_of D B T n)
end
end K54

set_option Elab.async false
set_option linter.all false
set_option maxRecDepth 100000
set_option maxHeartbeats 4000000
namespace K54
open PySem PySem.Spec PyProof.Rows L2 C8 RZ LiI SX
/-- the __init__ of an own error: self.f = y -/
def sp_einit (C : Addr) (f : Str) : Sp := fun vs H Q _ => ∃ (a : Addr) (y : V), vs = [.ref a, y] ∧ H a = some (exo a C none) ∧ ∀ dx, H dx = none → dx ≠ a → Q .non (upd (upd H dx (exd dx [(f, y)])) a (exo a C (some dx)))
/-- an own error class under its name -/
structure Exq (P : Program) (w : World) (K : PySem.W.Frag) (mg : Str → Option Value) (base : Heap) (k : Nat) (x : Str) (C : Addr) (f : Str) : Prop where
  ex : ∃ (fI : Addr) (fd : FuncData) (ps : List Str), OexC K C ∧ PySem.W.findIn K (.ref C) "__init__" = some (some (.ref fI)) ∧ PySem.W.typeIn K (.ref fI) = some (.type "function") ∧ FnOk P w K mg base C8.CX0 k fI fd ps (sp_einit C f) ∧ Binds K fd ps [] ∧ mg x = some (.ref C)
/-- a def that may raise, under its name -/
structure CalX (P : Program) (w : World) (K : PySem.W.Frag) (mg : Str → Option Value) (base : Heap) (k : Nat) (x : Str) (ps : List Str) (sp : Sp) : Prop where
  ex : ∃ (f : Addr) (fd : FuncData), FnOk P w K mg base (L2.CX P w) k f fd ps sp ∧ mg x = some (.ref f) ∧ PySem.W.keepIn K (.ref f) = true ∧ Binds K fd ps [] ∧ ∀ n : Str, ps = [n] → ∀ (s : Shared) (u : Value), K.In s.heap → BindsTo s fd ⟨[], [(n, u)]⟩ [(n, u)]
section
variable {X : Cx} {k j : Nat} {C : Addr} {x f : Str} {sp : Sp} {p pos : Pos} {e : Expr} {es : List Expr} {t : TA}
theorem pmk_q (c : Exq X.prog X.w X.K X.mg X.base k x C f) (hr : Room j X.A) (hk : k + 1 ≤ j) (hg : Gl X x) (ha : PA X (e :: es) t)
    (hdb : (x == ("__debug__" : Str)) = false := by decide) (he : starEach (e :: es) X.env = (false, eval e X.env) :: starEach es X.env := by rfl) (hpl : (backTo pos (starEach es X.env)).any (·.1) = false := by rfl) :
    PMk X (.Call (.Name x p) (e :: es) [] pos) (tMkO C (sp_einit C f) [] t) := by
  obtain ⟨fI, fd, ps, T, i1, i2, F, b, m⟩ := c.ex
  exact pmk_oex T i1 i2 F (hr.mono hk) b .nil C8.pass0 hg m ha hdb he hpl
theorem pe_cX {ps : List Str} (c : CalX X.prog X.w X.K X.mg X.base k x ps sp) (hr : Room j X.A) (hk : k ≤ j) (hg : Gl X x) (ha : PA X (e :: es) t)
    (hdb : (x == ("__debug__" : Str)) = false := by decide) (he : starEach (e :: es) X.env = (false, eval e X.env) :: starEach es X.env := by rfl) (hpl : (backTo pos (starEach es X.env)).any (·.1) = false := by rfl) :
    PE X (.Call (.Name x p) (e :: es) [] pos) (tCall sp [] L2.E0 t) := by
  obtain ⟨g, fd, F, hm, kp, b, _⟩ := c.ex
  exact pe_call F (hr.mono hk) hg hm kp b .nil passL ha hdb he hpl
theorem pe_cS {E : L2.St → XK} {ps : List Str} (c : CalX X.prog X.w X.K X.mg X.base k x ps sp) (hr : Room j X.A) (hk : k ≤ j) (hg : Gl X x) (hx : ∀ σ, PassesAt (L2.CX X.prog X.w) X σ (E σ)) (ha : PA X (e :: es) t)
    (hdb : (x == ("__debug__" : Str)) = false := by decide) (he : starEach (e :: es) X.env = (false, eval e X.env) :: starEach es X.env := by rfl) (hpl : (backTo pos (starEach es X.env)).any (·.1) = false := by rfl) :
    PE X (.Call (.Name x p) (e :: es) [] pos) (tCallS sp E t) := by
  obtain ⟨g, fd, F, hm, kp, b, _⟩ := c.ex
  exact pe_callS F (hr.mono hk) hg hm kp b hx ha hdb he hpl
end
/-- the reading of raise C(v) -/
theorem raise_rd {C : Addr} {f : Str} {i : Nat} {σ : L2.St} {H : Hp} {v : V} {W : XK} (hv : σ[i]? = some (some v)) (q : ∀ dx H', H dx = none → Same H H' → H' dx = some (.xd [(f, v)]) → W (.ref C) (some dx) H') : tMkO C (sp_einit C f) [] (tCons (tVar i) tNil) σ H W := by
  refine ⟨v, hv, (by show 1 ≤ 1000; decide), fun a ha => ⟨a, v, rfl, upd_same, fun dx hd ne => ⟨rfl, dx, _, upd_same, ?_, ?_, q dx _ ?_ ?_ upd_same⟩⟩⟩
  · rw [upd_ne ne, upd_same]
  · rw [upd_ne ne] at hd; exact hd
  · rw [upd_ne ne] at hd; exact hd
  · rw [upd_ne ne] at hd
    intro b o eb
    have n1 := ne_of_none eb ha
    have n2 := ne_of_none eb hd
    rw [upd_ne n2, del_ne n1, upd_ne n1, upd_ne n2, upd_ne n1]
    exact eb
section
variable {P : Program} {w : World} {K : PySem.W.Frag} {mg : Str → Option Value} {base : Heap} {aW aN : Addr}
theorem DefB.calX {x : Str} {st : Stmt} {N ps : List Str} {k : Nat} {sp : Sp} (D : DefB K mg x st ps) (S : FnScope N ps (fnScope st)) (len : ∀ vs H Q E, sp vs H Q E → vs.length = ps.length)
    (hbody : ∀ (f : Addr) (cdv : Value) (A : Around) (outer : List Env) (s : Shared) (H : Hp) (vs : List V) (Q : VK) (E : XK), Room k (A.deeper (envOfC x (fnScope st) s.heap.objs.size f cdv)) → sp vs H Q E →
      ∃ t, PSs (cxOf (L2.CX P w) P w K mg base N x (fnScope st) f cdv A outer s H E) (fnBody st) t ∧ t { nx := fun _ H' => Q .non H', rt := Q } (start N vs) H) : CalX P w K mg base (k + 1) x ps sp := by
  obtain ⟨f, fd, F, b⟩ := D.ex
  have kw := D.kw f fd F
  obtain ⟨oc, od, dV, kV, doc, pm, an, cdv, ct, osl, e, lk, hcd⟩ := F.fn.ex
  subst e
  exact ⟨f, _, fn_of lk hcd S len fun A outer s H vs Q E hr h => hbody f cdv A outer s H vs Q E hr h, F.mgf, F.kp, b, kw⟩
/-! ### the errors' __init__ -/
abbrev s_eText : Stmt := inClass (top 5) 0
abbrev s_eBook : Stmt := inClass (top 6) 0
theorem sc_eText : FnScope ["self", "text"] ["self", "text"] (fnScope s_eText) := fnScope_by (by decide +kernel)
theorem sc_eBook : FnScope ["self", "book"] ["self", "book"] (fnScope s_eBook) := fnScope_by (by decide +kernel)
theorem ok_eText {fI C : Addr} {fd : FuncData} (F : C8.Fun K "__init__" "BadText.__init__" s_eText fI fd) (T : OexC K C) (hno : PySem.W.findIn K (.ref C) "text" = some none) : FnOk P w K mg base C8.CX0 1 fI fd ["self", "text"] (sp_einit C "text") := by
  refine fn0 F sc_eText (fun vs H Q E h => ?_) (fun cdv A outer s H vs Q E hr h => ?_)
  · obtain ⟨a, y, rfl, _⟩ := h
    rfl
  · obtain ⟨a, y, rfl, ha, k⟩ := h
    exact ⟨_, pss_one (ps_ost (pv 0) (pv 1)), _, rfl, _, rfl, a, C, rfl, T, hno, .inl ⟨ha, fun dx h1 h2 => k dx h1 h2⟩⟩
theorem ok_eBook {fI C : Addr} {fd : FuncData} (F : C8.Fun K "__init__" "BadBook.__init__" s_eBook fI fd) (T : OexC K C) (hno : PySem.W.findIn K (.ref C) "book" = some none) : FnOk P w K mg base C8.CX0 1 fI fd ["self", "book"] (sp_einit C "book") := by
  refine fn0 F sc_eBook (fun vs H Q E h => ?_) (fun cdv A outer s H vs Q E hr h => ?_)
  · obtain ⟨a, y, rfl, _⟩ := h
    rfl
  · obtain ⟨a, y, rfl, ha, k⟩ := h
    exact ⟨_, pss_one (ps_ost (pv 0) (pv 1)), _, rfl, _, rfl, a, C, rfl, T, hno, .inl ⟨ha, fun dx h1 h2 => k dx h1 h2⟩⟩
/-! ### need_text, written_book -/
abbrev s_need_text : Stmt := top 12
theorem sc_need_text : FnScope ["text"] ["text"] (fnScope s_need_text) := fnScope_by (by decide +kernel)
def sp_need (K : PySem.W.Frag) (CT : Addr) : Sp := fun vs H Q E => ∃ v d fp, vs = [v] ∧ Rep K H v d fp ∧ (tyName d = "str" → Q .non H) ∧
  (tyName d ≠ "str" → ∀ dx H', H dx = none → Same H H' → H' dx = some (.xd [("text", v)]) → E (.ref CT) (some dx) H')
theorem ok_need_text {CT : Addr} (D : DefB K mg "need_text" s_need_text ["text"]) (B : Bt mg) (C_BadText : Exq P w K mg base 1 "BadText" CT "text") : CalX P w K mg base 3 "need_text" ["text"] (sp_need K CT) := by
  have sc := sc_need_text
  refine D.calX sc (fun vs H Q E h => ?_) (fun f cdv A outer s H vs Q E hr h => ?_)
  · obtain ⟨v, d, fp, rfl, _⟩ := h
    rfl
  · obtain ⟨v, d, fp, rfl, r, k1, k2⟩ := h
    refine ⟨_, (pss_one (ps_if (pt_cmpR op_isNotTy (pe_callTy call_type1 rfl B.type (by decide +kernel) (pa_cons (pv 0) pa_nil)) (pe_bltn (v := .ty "str") rfl B.str (by decide +kernel) rfl) (nomark _)) (pss_one (ps_raise rfl (takes_of rfl rfl rfl rfl) (pmk_q C_BadText hr (by omega) rfl (pa_cons (pv 0) pa_nil)))) pss_nil)), ?_⟩
    refine ⟨_, rfl, _, _, rfl, r.tyb, _, _, rfl, rfl, _, rfl, ?_⟩
    by_cases h : tyName d = "str"
    · rw [decide_eq_true h]
      exact ite_f rfl (k1 h)
    · rw [decide_eq_false h]
      exact ite_t rfl (raise_rd rfl fun dx H' h1 h2 h3 => k2 h dx H' h1 h2 h3)
abbrev s_written_book : Stmt := top 23
theorem sc_written_book : FnScope ["book"] ["book"] (fnScope s_written_book) := fnScope_by (by decide +kernel)
def sp_written (K : PySem.W.Frag) (CB : Addr) (n : Nat) : Sp := fun vs H Q E => ∃ v d fp, vs = [v] ∧ Rep K H v d fp ∧ AskB d ∧ szD d ≤ 100000 ∧
  (GoodB d → ∃ b, nrm d = nrm (dOf b) ∧ BDep n b ∧ (txt b).length ≤ 10000 ∧ (txt b).all (fun c => decide (c < 1114112)) = true ∧ ∀ H', Same H H' → Q (.str (S (txt b))) H') ∧
  (¬ GoodB d → ∀ dx H', H dx = none → Same H H' → H' dx = some (.xd [("book", v)]) → E (.ref CB) (some dx) H')
theorem ok_written_book {CB : Addr} {n : Nat} (D : DefB K mg "written_book" s_written_book ["book"]) (C_BadBook : Exq P w K mg base 1 "BadBook" CB "book") (C_is_book_shape : Cal P w K mg base 4 "is_book_shape" (sp_shape K) [])
    (C_text_of : Cal P w K mg base n "text_of" (sp_text K n) []) : CalX P w K mg base (n + 5) "written_book" ["book"] (sp_written K CB n) := by
  have sc := sc_written_book
  refine D.calX sc (fun vs H Q E h => ?_) (fun f cdv A outer s H vs Q E hr h => ?_)
  · obtain ⟨v, d, fp, rfl, _⟩ := h
    rfl
  · obtain ⟨v, d, fp, rfl, r, ha, hz, k1, k2⟩ := h
    refine ⟨_, (pss_cons (ps_if (pt_not (pt_val (pe_c C_is_book_shape hr (by omega) rfl (pa_cons (pv 0) pa_nil)))) (pss_one (ps_raise rfl (takes_of rfl rfl rfl rfl) (pmk_q C_BadBook hr (by omega) rfl (pa_cons (pv 0) pa_nil)))) pss_nil)
  (pss_one (ps_ret (pe_c C_text_of hr (by omega) rfl (pa_cons (pv 0) pa_nil))))), ?_⟩
    refine ⟨_, rfl, v, d, fp, rfl, r, ha, hz, fun b H1 hb e1 => ⟨_, rfl, ?_⟩⟩
    cases b with
    | true =>
      refine ite_f rfl ?_
      obtain ⟨b, q1, q2, q3, q4, q5⟩ := k1 (hb.mp rfl)
      exact ⟨_, rfl, v, d, fp, b, rfl, r.same e1, q1, q2, q3, q4, fun H' e' => q5 H' (e1.trans e')⟩
    | false =>
      refine ite_t rfl ?_
      exact raise_rd rfl fun dx H' h1 h2 h3 => k2 (fun g => nomatch hb.mpr g) dx H' (e1.free h1) (e1.trans h2) h3
end
end K54

set_option Elab.async false
set_option linter.all false
set_option maxRecDepth 100000
set_option maxHeartbeats 4000000
/-! K11: the reader in plain Lean. -/
namespace K54
open PySem PySem.Spec PyProof.Rows L2 C8 SX
/-- how many signs of names stand from k on -/
def run (z : List Nat) (k : Nat) : Nat := ((z.drop k).takeWhile aln).length
def rdNeed (c : Nat) (z : List Nat) (k : Nat) (b : Bool) : Nat × Bool := if b = false ∧ z[k]? = some c then (k + 1, false) else (k, true)
/-- the first sign stands among fs -/
def begins (fs : Str) (z : List Nat) (k : Nat) : Bool := match z[k]? with
  | some c => decide (c ∈ fs.cps.toList)
  | none => false
def wd (z : List Nat) (k : Nat) : List Nat := (z.drop k).take (min (run z k) 8)
def rdWord (fs : Str) (z : List Nat) (k : Nat) (b : Bool) : Nat × Bool × List Nat :=
  if b = false ∧ begins fs z k = true then
    (if min (run z k) 8 = 8 ∧ words.contains (S (wd z k)) = true then (k + 7, true, wd z k) else (k + min (run z k) 8, decide (9 ≤ run z k), wd z k))
  else (k, true, [])
def rdName (z : List Nat) (k : Nat) (b : Bool) : Nat × Bool × List Nat × List Nat :=
  let r1 := rdWord LET z k b
  let r2 := rdNeed 46 z r1.1 (r1.2.1 || words.contains (S r1.2.2))
  let r3 := rdWord GRE z r2.1 r2.2
  (r3.1, r3.2.1, r1.2.2, r3.2.2)
def rdHead (z : List Nat) (k : Nat) (b : Bool) : Nat × Bool × List Nat × List Nat :=
  if (rdWord LET z k b).2.2 = cInt then ((rdWord LET z k b).1, (rdWord LET z k b).2.1, [], cInt) else rdName z k b
mutual
inductive ROne (z : List Nat) : Nat → Bool → Nat → Bool → Bk → Prop
  | leaf {k : Nat} {b : Bool} {k1 : Nat} {b1 : Bool} {nm : List Nat × List Nat} {k2 : Nat} {b2 : Bool} {k3 : Nat} {b3 : Bool} {hd : List Nat × List Nat} (h1 : rdName z k b = (k1, b1, nm)) (h2 : rdNeed 32 z k1 b1 = (k2, b2)) (h3 : rdHead z k2 b2 = (k3, b3, hd))
      (h4 : b3 = true ∨ z[k3]? ≠ some 40) : ROne z k b k3 b3 (.mk nm.1 nm.2 hd.1 hd.2 [])
  | node {k : Nat} {b : Bool} {k1 : Nat} {b1 : Bool} {nm : List Nat × List Nat} {k2 : Nat} {b2 : Bool} {k3 : Nat} {hd : List Nat × List Nat} {k5 : Nat} {b5 : Bool} {p : Bk} {k6 : Nat} {b6 : Bool} {ps : List Bk} {k7 : Nat} {b7 : Bool} (h1 : rdName z k b = (k1, b1, nm)) (h2 : rdNeed 32 z k1 b1 = (k2, b2)) (h3 : rdHead z k2 b2 = (k3, false, hd))
      (h4 : z[k3]? = some 40) (h5 : ROne z (k3 + 1) false k5 b5 p) (h6 : RMore z k5 b5 k6 b6 ps) (h7 : rdNeed 41 z k6 b6 = (k7, b7)) : ROne z k b k7 b7 (.mk nm.1 nm.2 hd.1 hd.2 (p :: ps))
inductive RMore (z : List Nat) : Nat → Bool → Nat → Bool → List Bk → Prop
  | stop {k : Nat} {b : Bool} (h : b = true ∨ z[k]? ≠ some 44) : RMore z k b k b []
  | go {k : Nat} {k2 : Nat} {b2 : Bool} {k3 : Nat} {b3 : Bool} {p : Bk} {k4 : Nat} {b4 : Bool} {ps : List Bk} (h1 : z[k]? = some 44) (h2 : rdNeed 32 z (k + 1) false = (k2, b2)) (h3 : ROne z k2 b2 k3 b3 p) (h4 : RMore z k3 b3 k4 b4 ps) : RMore z k false k4 b4 (p :: ps)
end
theorem rdNeed_stuck (c : Nat) (z : List Nat) (k : Nat) : rdNeed c z k true = (k, true) := by
  unfold rdNeed
  rw [if_neg (by simp)]
theorem rdWord_stuck (fs : Str) (z : List Nat) (k : Nat) : rdWord fs z k true = (k, true, []) := by
  unfold rdWord
  rw [if_neg (by simp)]
theorem rdName_stuck (z : List Nat) (k : Nat) : rdName z k true = (k, true, [], []) := by
  unfold rdName
  simp only [rdWord_stuck, Bool.true_or, rdNeed_stuck]
theorem rdHead_stuck (z : List Nat) (k : Nat) : rdHead z k true = (k, true, [], []) := by
  unfold rdHead
  rw [rdWord_stuck, rdName_stuck]
  exact if_neg (fun h => nomatch (show ([] : List Nat) = cInt from h))
theorem ROne.stuck {z : List Nat} {k k' : Nat} {b' : Bool} {p : Bk} (h : ROne z k true k' b' p) : k' = k ∧ b' = true := by
  cases h with
  | leaf h1 h2 h3 h4 =>
    rw [rdName_stuck] at h1
    cases h1
    rw [rdNeed_stuck] at h2
    cases h2
    rw [rdHead_stuck] at h3
    cases h3
    exact ⟨rfl, rfl⟩
  | node h1 h2 h3 h4 h5 h6 h7 =>
    rw [rdName_stuck] at h1
    cases h1
    rw [rdNeed_stuck] at h2
    cases h2
    rw [rdHead_stuck] at h3
    cases h3
theorem RMore.stuck {z : List Nat} {k k' : Nat} {b' : Bool} {ps : List Bk} (h : RMore z k true k' b' ps) : k' = k ∧ b' = true := by
  cases h with
  | stop h => exact ⟨rfl, rfl⟩
/-- how far one gets where nothing goes wrong -/
theorem rdNeed_ok {c : Nat} {z : List Nat} {k k' : Nat} {b : Bool} (h : rdNeed c z k b = (k', false)) : b = false ∧ z[k]? = some c ∧ k' = k + 1 := by
  unfold rdNeed at h
  by_cases q : b = false ∧ z[k]? = some c
  · rw [if_pos q] at h
    cases h
    exact ⟨q.1, q.2, rfl⟩
  · rw [if_neg q] at h
    cases h
theorem rdWord_ok {fs : Str} {z : List Nat} {k k' : Nat} {b : Bool} {w : List Nat} (h : rdWord fs z k b = (k', false, w)) :
    b = false ∧ begins fs z k = true ∧ run z k ≤ 8 ∧ k' = k + run z k ∧ w = (z.drop k).take (run z k) := by
  unfold rdWord at h
  by_cases q : b = false ∧ begins fs z k = true
  · rw [if_pos q] at h
    by_cases r : min (run z k) 8 = 8 ∧ words.contains (S (wd z k)) = true
    · rw [if_pos r] at h
      cases h
    · rw [if_neg r] at h
      have h1 : k + min (run z k) 8 = k' := congrArg (·.1) h
      have h2 := congrArg (fun x => x.2.1) h
      have h3 : wd z k = w := congrArg (fun x => x.2.2) h
      have l : ¬ 9 ≤ run z k := of_decide_eq_false h2
      have l2 : min (run z k) 8 = run z k := by omega
      refine ⟨q.1, q.2, by omega, ?_, ?_⟩
      · rw [← h1, l2]
      · rw [← h3]; unfold wd; rw [l2]
  · rw [if_neg q] at h
    cases h
theorem take_run (z : List Nat) (k : Nat) : (z.drop k).take (run z k) = (z.drop k).takeWhile aln := by
  unfold run
  have h : (z.drop k).takeWhile aln ++ (z.drop k).dropWhile aln = z.drop k := List.takeWhile_append_dropWhile
  generalize (z.drop k).takeWhile aln = a at h ⊢
  rw [← h, List.take_left]
theorem all_takeWhile (p : Nat → Bool) : ∀ l : List Nat, (l.takeWhile p).all p = true
  | [] => rfl
  | c :: l => by
    rw [List.takeWhile_cons]
    split
    · rename_i h
      rw [List.all_cons, h, all_takeWhile p l]
      rfl
    · rfl
theorem drop_split (z : List Nat) (k n : Nat) : z.drop k = (z.drop k).take n ++ z.drop (k + n) := by
  rw [← List.drop_drop, List.take_append_drop]
theorem get_drop (z : List Nat) (k : Nat) : z[k]? = (z.drop k).head? := by
  rw [List.head?_drop]
theorem begins_iff {fs : Str} {z : List Nat} {k : Nat} : begins fs z k = true ↔ ∃ c, z[k]? = some c ∧ decide (c ∈ fs.cps.toList) = true := by
  unfold begins
  cases z[k]? with
  | none => simp
  | some c => simp
theorem words_low : ∀ w ∈ words, isL (w.cps.toList.headD 0) = true := by decide +kernel
theorem not_word {l : List Nat} (h : isL (l.headD 0) = false) : words.contains (S l) = false := by
  cases e : words.contains (S l) with
  | false => rfl
  | true =>
    have q := words_low (S l) (List.contains_iff_mem.mp e)
    have q2 : isL (l.headD 0) = true := by simpa using q
    rw [h] at q2
    cases q2
theorem isG_notL {c : Nat} (h : isG c = true) : isL c = false := by
  unfold isG at h
  unfold isL
  rw [Bool.and_eq_true, decide_eq_true_eq, decide_eq_true_eq] at h
  rw [decide_eq_false (show ¬ 97 ≤ c by omega)]
  rfl
theorem isL_aln {c : Nat} (h : isL c = true) : aln c = true := by unfold aln; rw [h]; rfl
theorem isG_aln {c : Nat} (h : isG c = true) : aln c = true := by unfold aln; rw [h, Bool.true_or, Bool.or_true]
/-- firsts are signs of names -/
def Fst (fs : Str) : Prop := ∀ c, decide (c ∈ fs.cps.toList) = true → aln c = true
theorem fst_LET : Fst LET := fun c h => isL_aln (by rw [← in_LET]; exact h)
theorem fst_GRE : Fst GRE := fun c h => isG_aln (by rw [← in_GRE]; exact h)
theorem run_pos {fs : Str} (hf : Fst fs) {z : List Nat} {k : Nat} (h : begins fs z k = true) : 1 ≤ run z k := by
  obtain ⟨c, h1, h2⟩ := begins_iff.mp h
  unfold run
  rw [get_drop] at h1
  cases e : z.drop k with
  | nil => rw [e] at h1; cases h1
  | cons a l =>
    rw [e] at h1
    have ea : a = c := Option.some.inj h1
    rw [List.takeWhile_cons, ea, hf c h2]
    simp
/-- a word that is read: a name but for the words -/
theorem word_sound {fs : Str} (hf : Fst fs) {z : List Nat} {k k' : Nat} {b : Bool} {w : List Nat} (h : rdWord fs z k b = (k', false, w)) :
    b = false ∧ z.drop k = w ++ z.drop k' ∧ k < k' ∧ (words.contains (S w) = false → signB w fs = true) ∧ decide (w.headD 0 ∈ fs.cps.toList) = true := by
  obtain ⟨h1, h2, h3, h4, h5⟩ := rdWord_ok h
  have hp := run_pos hf h2
  have hlen : w.length = run z k := by
    rw [h5, take_run]
    rfl
  have hh : decide (w.headD 0 ∈ fs.cps.toList) = true := by
    obtain ⟨c, c1, c2⟩ := begins_iff.mp h2
    rw [get_drop] at c1
    rw [h5]
    cases e : z.drop k with
    | nil => rw [e] at c1; cases c1
    | cons a l =>
      rw [e] at c1
      have ea : a = c := Option.some.inj c1
      cases r : run z k with
      | zero => omega
      | succ n => rw [List.take_succ_cons, ea]; exact c2
  refine ⟨h1, by rw [h4, h5]; exact drop_split z k _, by omega, fun hw => ?_, hh⟩
  unfold signB
  rw [decide_eq_true (show 1 ≤ w.length by omega), decide_eq_true (show w.length ≤ 8 by omega), hw, hh, h5, take_run, all_takeWhile]
  rfl
inductive Valid : Bk → Prop
  | mk {m e hm ht : List Nat} {ps : List Bk} (h1 : signB m LET = true) (h2 : signB e GRE = true) (h3 : isI hm ht = true ∨ (signB hm LET = true ∧ signB ht GRE = true)) (h4 : ∀ p ∈ ps, Valid p) : Valid (.mk m e hm ht ps)
theorem name_sound {z : List Nat} {k k' : Nat} {b : Bool} {m e : List Nat} (h : rdName z k b = (k', false, m, e)) : b = false ∧ z.drop k = (m ++ 46 :: e) ++ z.drop k' ∧ k + 3 ≤ k' ∧ signB m LET = true ∧ signB e GRE = true := by
  unfold rdName at h
  dsimp only at h
  have e1 : ∃ x1 y1 w1, rdWord LET z k b = (x1, y1, w1) := ⟨_, _, _, rfl⟩
  obtain ⟨x1, y1, w1, e1⟩ := e1
  rw [e1] at h
  dsimp only at h
  obtain ⟨x2, y2, e2⟩ : ∃ x2 y2, rdNeed 46 z x1 (y1 || words.contains (S w1)) = (x2, y2) := ⟨_, _, rfl⟩
  rw [e2] at h
  dsimp only at h
  obtain ⟨x3, y3, w3, e3⟩ : ∃ x3 y3 w3, rdWord GRE z x2 y2 = (x3, y3, w3) := ⟨_, _, _, rfl⟩
  rw [e3] at h
  dsimp only at h
  cases h
  obtain ⟨f1, f2, f3, f4, f5⟩ := word_sound fst_GRE e3
  subst f1
  obtain ⟨g1, g2, g3⟩ := rdNeed_ok e2
  obtain ⟨g4, g5⟩ := Bool.or_eq_false_iff.mp g1
  subst g4
  obtain ⟨p1, p2, p3, p4, p5⟩ := word_sound fst_LET e1
  refine ⟨p1, ?_, by omega, p4 g5, f4 ?_⟩
  · rw [p2]
    have q : z.drop x1 = 46 :: z.drop x2 := by
      rw [g3]
      rw [get_drop] at g2
      cases r : z.drop x1 with
      | nil => rw [r] at g2; cases g2
      | cons a l =>
        rw [r] at g2
        have ea : a = 46 := Option.some.inj g2
        have el : z.drop (x1 + 1) = l := by rw [← List.drop_drop, r]; rfl
        rw [ea, el]
    rw [q, f2]
    simp
  · refine not_word (isG_notL ?_)
    rw [← in_GRE]
    exact f5
theorem need_drop {c : Nat} {z : List Nat} {k : Nat} (h : z[k]? = some c) : z.drop k = c :: z.drop (k + 1) := by
  rw [get_drop] at h
  cases r : z.drop k with
  | nil => rw [r] at h; cases h
  | cons a l =>
    rw [r] at h
    have ea : a = c := Option.some.inj h
    have el : z.drop (k + 1) = l := by rw [← List.drop_drop, r]; rfl
    rw [ea, el]
theorem head_sound {z : List Nat} {k k' : Nat} {b : Bool} {hm ht : List Nat} (h : rdHead z k b = (k', false, hm, ht)) : b = false ∧ z.drop k = headT hm ht ++ z.drop k' ∧ k < k' ∧ (isI hm ht = true ∨ (signB hm LET = true ∧ signB ht GRE = true)) := by
  unfold rdHead at h
  by_cases q : (rdWord LET z k b).2.2 = cInt
  · rw [if_pos q] at h
    obtain ⟨x1, y1, w1, e1⟩ : ∃ x1 y1 w1, rdWord LET z k b = (x1, y1, w1) := ⟨_, _, _, rfl⟩
    rw [e1] at h q
    dsimp only at h q
    cases h
    subst q
    obtain ⟨p1, p2, p3, p4, p5⟩ := word_sound fst_LET e1
    exact ⟨p1, p2, p3, .inl rfl⟩
  · rw [if_neg q] at h
    obtain ⟨p1, p2, p3, p4, p5⟩ := name_sound h
    have ni : isI hm ht = false := by
      have l : hm ≠ [] := fun z => by
        rw [z] at p4
        cases p4
      unfold isI
      rw [decide_eq_false l]
      rfl
    refine ⟨p1, ?_, by omega, .inr ⟨p4, p5⟩⟩
    rw [p2]
    unfold headT
    rw [if_neg (by rw [ni]; exact Bool.false_ne_true)]
/-- what is read without a stop is the text of a book in shape -/
def moreT : List Bk → List Nat
  | [] => []
  | p :: ps => 44 :: 32 :: (txt p ++ moreT ps)
theorem joinT_more : ∀ (p : Bk) (ps : List Bk), joinT (txts (p :: ps)) = txt p ++ moreT ps
  | p, [] => by show txt p = txt p ++ []; rw [List.append_nil]
  | p, q :: ps => by
    show txt p ++ 44 :: 32 :: joinT (txts (q :: ps)) = txt p ++ (44 :: 32 :: (txt q ++ moreT ps))
    rw [joinT_more q ps]
theorem ROne.isF {z : List Nat} {k k' : Nat} {b : Bool} {p : Bk} (h : ROne z k b k' false p) : b = false := by
  cases b with
  | false => rfl
  | true => exact absurd h.stuck.2 (by simp)
theorem RMore.isF {z : List Nat} {k k' : Nat} {b : Bool} {p : List Bk} (h : RMore z k b k' false p) : b = false := by
  cases b with
  | false => rfl
  | true => exact absurd h.stuck.2 (by simp)
theorem ROne.sound {z : List Nat} {k k' : Nat} {b b' : Bool} {p : Bk} (h : ROne z k b k' b' p) : b' = false → z.drop k = txt p ++ z.drop k' ∧ Valid p := by
  refine ROne.rec (motive_1 := fun k _ k' b' p _ => b' = false → z.drop k = txt p ++ z.drop k' ∧ Valid p) (motive_2 := fun k _ k' b' ps _ => b' = false → z.drop k = moreT ps ++ z.drop k' ∧ ∀ p ∈ ps, Valid p) ?_ ?_ ?_ ?_ h
  · intro k b k1 b1 nm k2 b2 k3 b3 hd h1 h2 h3 h4 e
    subst e
    obtain ⟨m, e⟩ := nm
    obtain ⟨hm, ht⟩ := hd
    obtain ⟨e2, q3, _, v3⟩ := head_sound h3
    subst e2
    obtain ⟨e1, g, rfl⟩ := rdNeed_ok h2
    subst e1
    obtain ⟨_, q1, _, v1, v2⟩ := name_sound h1
    refine ⟨?_, .mk v1 v2 v3 fun p hp => nomatch hp⟩
    rw [q1, need_drop g, q3, txt_eq]
    simp [partT]
  · intro k b k1 b1 nm k2 b2 k3 hd k5 b5 p k6 b6 ps k7 b7 h1 h2 h3 h4 h5 h6 h7 i5 i6 e
    subst e
    obtain ⟨m, e⟩ := nm
    obtain ⟨hm, ht⟩ := hd
    obtain ⟨e6, g7, rfl⟩ := rdNeed_ok h7
    subst e6
    obtain ⟨q6, v6⟩ := i6 rfl
    obtain ⟨q5, v5⟩ := i5 h6.isF
    obtain ⟨e2, q3, _, v3⟩ := head_sound h3
    subst e2
    obtain ⟨e1, g, rfl⟩ := rdNeed_ok h2
    subst e1
    obtain ⟨_, q1, _, v1, v2⟩ := name_sound h1
    refine ⟨?_, .mk v1 v2 v3 fun x hx => ?_⟩
    · rw [q1, need_drop g, q3, need_drop h4, q5, q6, need_drop g7, txt_eq]
      show _ = (m ++ 46 :: (e ++ 32 :: (headT hm ht ++ 40 :: (joinT (txts (p :: ps)) ++ [41])))) ++ _
      rw [joinT_more]
      simp
    · rcases List.mem_cons.mp hx with z | z
      · rw [z]; exact v5
      · exact v6 x z
  · intro k b h _
    exact ⟨rfl, fun p hp => nomatch hp⟩
  · intro k k2 b2 k3 b3 p k4 b4 ps h1 h2 h3 h4 i3 i4 e
    subst e
    obtain ⟨q4, v4⟩ := i4 rfl
    obtain ⟨q3, v3⟩ := i3 h4.isF
    have e2 := ROne.isF (by rw [h4.isF] at h3; exact h3)
    subst e2
    obtain ⟨_, g, rfl⟩ := rdNeed_ok h2
    refine ⟨?_, fun x hx => ?_⟩
    · rw [need_drop h1, need_drop g, q3, q4]
      simp [moreT]
    · rcases List.mem_cons.mp hx with z | z
      · rw [z]; exact v3
      · exact v4 x z
/-- one thing alone is read -/
theorem ROne.det {z : List Nat} {k k' : Nat} {b b' : Bool} {p : Bk} (h : ROne z k b k' b' p) : ∀ {k2 b2 p2}, ROne z k b k2 b2 p2 → k2 = k' ∧ b2 = b' ∧ p2 = p := by
  refine ROne.rec (motive_1 := fun k b k' b' p _ => ∀ {k2 b2 p2}, ROne z k b k2 b2 p2 → k2 = k' ∧ b2 = b' ∧ p2 = p) (motive_2 := fun k b k' b' ps _ => ∀ {k2 b2 ps2}, RMore z k b k2 b2 ps2 → k2 = k' ∧ b2 = b' ∧ ps2 = ps) ?_ ?_ ?_ ?_ h
  · intro k b k1 b1 nm k2 b2 k3 b3 hd h1 h2 h3 h4 x1 x2 x3 g
    cases g with
    | leaf g1 g2 g3 g4 =>
      rw [h1] at g1
      cases g1
      rw [h2] at g2
      cases g2
      rw [h3] at g3
      cases g3
      exact ⟨rfl, rfl, rfl⟩
    | node g1 g2 g3 g4 g5 g6 g7 =>
      rw [h1] at g1
      cases g1
      rw [h2] at g2
      cases g2
      rw [h3] at g3
      cases g3
      rcases h4 with h4 | h4
      · cases h4
      · exact absurd g4 h4
  · intro k b k1 b1 nm k2 b2 k3 hd k5 b5 p k6 b6 ps k7 b7 h1 h2 h3 h4 h5 h6 h7 i5 i6 x1 x2 x3 g
    cases g with
    | leaf g1 g2 g3 g4 =>
      rw [h1] at g1
      cases g1
      rw [h2] at g2
      cases g2
      rw [h3] at g3
      cases g3
      rcases g4 with g4 | g4
      · cases g4
      · exact absurd h4 g4
    | node g1 g2 g3 g4 g5 g6 g7 =>
      rw [h1] at g1
      cases g1
      rw [h2] at g2
      cases g2
      rw [h3] at g3
      cases g3
      obtain ⟨rfl, rfl, rfl⟩ := i5 g5
      obtain ⟨rfl, rfl, rfl⟩ := i6 g6
      rw [h7] at g7
      cases g7
      exact ⟨rfl, rfl, rfl⟩
  · intro k b h x1 x2 x3 g
    cases g with
    | stop _ => exact ⟨rfl, rfl, rfl⟩
    | go g1 _ _ _ =>
      rcases h with h | h
      · cases h
      · exact absurd g1 h
  · intro k k2 b2 k3 b3 p k4 b4 ps h1 h2 h3 h4 i3 i4 x1 x2 x3 g
    cases g with
    | stop g =>
      rcases g with g | g
      · cases g
      · exact absurd h1 g
    | go g1 g2 g3 g4 =>
      rw [h2] at g2
      cases g2
      obtain ⟨rfl, rfl, rfl⟩ := i3 g3
      obtain ⟨rfl, rfl, rfl⟩ := i4 g4
      exact ⟨rfl, rfl, rfl⟩
/-- behind a book's text -/
def Bd (r : List Nat) : Prop := ∀ c, r.head? = some c → aln c = false ∧ c ≠ 40
theorem takeWhile_app {w r : List Nat} (h : w.all aln = true) (hr : ∀ c, r.head? = some c → aln c = false) : (w ++ r).takeWhile aln = w := by
  induction w with
  | nil =>
    cases r with
    | nil => rfl
    | cons c r => rw [List.nil_append, List.takeWhile_cons, hr c rfl]; rfl
  | cons a w ih =>
    rw [List.all_cons, Bool.and_eq_true] at h
    rw [List.cons_append, List.takeWhile_cons, h.1, ih h.2]
    rfl
theorem word_complete {fs : Str} {z : List Nat} {k : Nat} {w r : List Nat} (hz : z.drop k = w ++ r) (hr : ∀ c, r.head? = some c → aln c = false) (h1 : 1 ≤ w.length) (h2 : w.length ≤ 8) (h3 : decide (w.headD 0 ∈ fs.cps.toList) = true) (h4 : w.all aln = true)
    (h5 : w.length = 8 → words.contains (S w) = false) : rdWord fs z k false = (k + w.length, false, w) := by
  have hrun : run z k = w.length := by unfold run; rw [hz, takeWhile_app h4 hr]
  have hb : begins fs z k = true := begins_iff.mpr ⟨w.headD 0, by
    rw [get_drop, hz]
    cases w with
    | nil => simp at h1
    | cons a w => rfl, h3⟩
  have hw : wd z k = w := by
    unfold wd
    rw [hrun, Nat.min_eq_left h2, hz, List.take_left]
  unfold rdWord
  rw [if_pos ⟨rfl, hb⟩, hw, hrun, Nat.min_eq_left h2, if_neg (fun q => by rw [h5 q.1] at q; cases q.2), decide_eq_false (by omega)]
theorem sign_parts {w : List Nat} {fs : Str} (h : signB w fs = true) : 1 ≤ w.length ∧ w.length ≤ 8 ∧ words.contains (S w) = false ∧ decide (w.headD 0 ∈ fs.cps.toList) = true ∧ w.all aln = true := by
  unfold signB at h
  simp only [Bool.and_eq_true, decide_eq_true_eq, Bool.not_eq_true'] at h
  obtain ⟨⟨⟨⟨h1, h2⟩, h3⟩, h4⟩, h5⟩ := h
  exact ⟨h1, h2, h3, decide_eq_true h4, h5⟩
theorem drop_app {z w r : List Nat} {k : Nat} (h : z.drop k = w ++ r) : z.drop (k + w.length) = r := by
  rw [← List.drop_drop, h, List.drop_left]
theorem need_complete {c : Nat} {z r : List Nat} {k : Nat} (h : z.drop k = c :: r) : rdNeed c z k false = (k + 1, false) := by
  unfold rdNeed
  rw [if_pos ⟨rfl, by rw [get_drop, h]; rfl⟩]
theorem name_complete {z : List Nat} {k : Nat} {m e r : List Nat} (hz : z.drop k = m ++ 46 :: (e ++ r)) (hr : ∀ c, r.head? = some c → aln c = false) (hm : signB m LET = true) (he : signB e GRE = true) :
    rdName z k false = (k + m.length + 1 + e.length, false, m, e) := by
  obtain ⟨m1, m2, m3, m4, m5⟩ := sign_parts hm
  obtain ⟨e1, e2, e3, e4, e5⟩ := sign_parts he
  have w1 := word_complete hz (fun c hc => by have q : 46 = c := Option.some.inj hc; rw [← q]; decide) m1 m2 m4 m5 (fun _ => m3)
  have z1 := drop_app hz
  have z2 : z.drop (k + m.length + 1) = e ++ r := by rw [← List.drop_drop, z1]; rfl
  have w2 := word_complete z2 hr e1 e2 e4 e5 (fun _ => e3)
  unfold rdName
  simp only [w1, m3, Bool.or_self, need_complete z1, w2]
theorem head_complete {z : List Nat} {k : Nat} {hm ht r : List Nat} (hz : z.drop k = headT hm ht ++ r) (hr : ∀ c, r.head? = some c → aln c = false) (hv : isI hm ht = true ∨ (signB hm LET = true ∧ signB ht GRE = true)) :
    rdHead z k false = (k + (headT hm ht).length, false, hm, ht) := by
  by_cases hI : isI hm ht = true
  · have e : headT hm ht = cInt := if_pos hI
    rw [e] at hz ⊢
    have hI' := hI
    rw [Bool.and_eq_true, decide_eq_true_eq, decide_eq_true_eq] at hI'
    have w1 := word_complete (fs := LET) hz hr (by decide) (by decide) (by decide +kernel) (by decide) (fun h => absurd h (by decide))
    unfold rdHead
    rw [w1, hI'.1, hI'.2]
    rfl
  · have e : headT hm ht = hm ++ 46 :: ht := if_neg hI
    rw [e] at hz ⊢
    obtain ⟨v1, v2⟩ := hv.resolve_left hI
    have hz' : z.drop k = hm ++ 46 :: (ht ++ r) := by rw [hz]; simp
    have n1 := name_complete hz' hr v1 v2
    obtain ⟨m1, m2, m3, m4, m5⟩ := sign_parts v1
    have w1 := word_complete hz' (fun c hc => by have q : 46 = c := Option.some.inj hc; rw [← q]; decide) m1 m2 m4 m5 (fun _ => m3)
    unfold rdHead
    rw [w1, if_neg (show ¬ hm = cInt from fun h => by rw [h] at m3; exact absurd m3 (by decide +kernel)), n1]
    rw [List.length_append, List.length_cons]
    congr 1
    omega
theorem more_complete {z : List Nat} : ∀ (ps : List Bk), (∀ p ∈ ps, ∀ k r, z.drop k = txt p ++ r → Bd r → ROne z k false (k + (txt p).length) false p) → ∀ k r, z.drop k = moreT ps ++ r → Bd r → r.head? ≠ some 44 → RMore z k false (k + (moreT ps).length) false ps
  | [], _, k, r, hz, _, h44 => .stop (.inr (by rw [get_drop, hz]; exact h44))
  | p :: ps, ih, k, r, hz, hr, h44 => by
    have hz0 : z.drop k = 44 :: 32 :: (txt p ++ (moreT ps ++ r)) := by rw [hz]; simp [moreT]
    have z1 : z.drop (k + 1) = 32 :: (txt p ++ (moreT ps ++ r)) := by rw [← List.drop_drop, hz0]; rfl
    have z2 : z.drop (k + 1 + 1) = txt p ++ (moreT ps ++ r) := by rw [← List.drop_drop, z1]; rfl
    have b2 : Bd (moreT ps ++ r) := fun c hc => by
      cases ps with
      | nil => exact hr c hc
      | cons q ps => have e : 44 = c := Option.some.inj hc; rw [← e]; decide
    have o := ih p (List.mem_cons_self ..) _ _ z2 b2
    have z3 := drop_app z2
    have mm := more_complete ps (fun q hq => ih q (List.mem_cons_of_mem _ hq)) _ _ z3 hr h44
    have e : k + (moreT (p :: ps)).length = k + 1 + 1 + (txt p).length + (moreT ps).length := by
      show k + (44 :: 32 :: (txt p ++ moreT ps)).length = _
      rw [List.length_cons, List.length_cons, List.length_append]
      omega
    rw [e]
    exact .go (by rw [get_drop, hz0]; rfl) (need_complete z1) o mm
theorem one_complete {z : List Nat} {p : Bk} (hv : Valid p) : ∀ k r, z.drop k = txt p ++ r → Bd r → ROne z k false (k + (txt p).length) false p := by
  induction hv with
  | @mk m e hm ht ps h1 h2 h3 h4 ih =>
    intro k r hz hr
    rw [txt_eq] at hz
    have hz0 : z.drop k = m ++ 46 :: (e ++ (32 :: (headT hm ht ++ (partT ps ++ r)))) := by rw [hz]; simp
    have n1 := name_complete hz0 (fun c hc => by have q : 32 = c := Option.some.inj hc; rw [← q]; decide) h1 h2
    have z1 : z.drop (k + m.length + 1 + e.length) = 32 :: (headT hm ht ++ (partT ps ++ r)) := by
      have a1 := drop_app hz0
      have a2 : z.drop (k + m.length + 1) = e ++ (32 :: (headT hm ht ++ (partT ps ++ r))) := by rw [← List.drop_drop, a1]; rfl
      exact drop_app a2
    have z2 : z.drop (k + m.length + 1 + e.length + 1) = headT hm ht ++ (partT ps ++ r) := by rw [← List.drop_drop, z1]; rfl
    have hh : ∀ c, (partT ps ++ r).head? = some c → aln c = false := fun c hc => by
      cases ps with
      | nil => exact (hr c hc).1
      | cons q ps => have e : 40 = c := Option.some.inj hc; rw [← e]; decide
    have n3 := head_complete z2 hh h3
    have z3 := drop_app z2
    have lt : (txt (.mk m e hm ht ps)).length = m.length + 1 + e.length + 1 + (headT hm ht).length + (partT ps).length := by
      rw [txt_eq, List.length_append, List.length_cons, List.length_append, List.length_cons, List.length_append]
      omega
    cases ps with
    | nil =>
      have q := ROne.leaf n1 (need_complete z1) n3 (.inr (by rw [get_drop, z3]; exact fun h => (hr 40 h).2 rfl))
      have e : k + (txt (.mk m e hm ht [])).length = k + m.length + 1 + e.length + 1 + (headT hm ht).length := by rw [lt, show (partT []).length = 0 from rfl]; omega
      rw [e]
      exact q
    | cons p ps =>
      have z4 : z.drop (k + m.length + 1 + e.length + 1 + (headT hm ht).length) = 40 :: (txt p ++ (moreT ps ++ (41 :: r))) := by
        rw [z3]
        show (40 :: (joinT (txts (p :: ps)) ++ [41])) ++ r = _
        rw [joinT_more]
        simp
      have z5 : z.drop (k + m.length + 1 + e.length + 1 + (headT hm ht).length + 1) = txt p ++ (moreT ps ++ (41 :: r)) := by rw [← List.drop_drop, z4]; rfl
      have b5 : Bd (moreT ps ++ (41 :: r)) := fun c hc => by
        cases ps with
        | nil => have e : 41 = c := Option.some.inj hc; rw [← e]; decide
        | cons q ps => have e : 44 = c := Option.some.inj hc; rw [← e]; decide
      have o := ih p (List.mem_cons_self ..) _ _ z5 b5
      have z6 := drop_app z5
      have mm := more_complete ps (fun q hq => ih q (List.mem_cons_of_mem _ hq)) _ _ z6 (fun c hc => by have e : 41 = c := Option.some.inj hc; rw [← e]; decide) (by simp)
      have z7 := drop_app z6
      have q := ROne.node n1 (need_complete z1) n3 (by rw [get_drop, z4]; rfl) o mm (need_complete z7)
      have e : k + (txt (.mk m e hm ht (p :: ps))).length = k + m.length + 1 + e.length + 1 + (headT hm ht).length + 1 + (txt p).length + (moreT ps).length + 1 := by
        have l2 : (partT (p :: ps)).length = (txt p).length + (moreT ps).length + 2 := by
          show (40 :: (joinT (txts (p :: ps)) ++ [41])).length = _
          rw [joinT_more, List.length_cons, List.length_append, List.length_append]
          rfl
        rw [lt, l2]
        omega
      rw [e]
      exact q
end K54

set_option Elab.async false
set_option linter.all false
set_option maxRecDepth 100000
set_option maxHeartbeats 4000000
namespace K54
open PySem PySem.Spec PyProof.Rows L2 C8 RZ LiI SX
/-! ### slices -/
theorem cutS_nat (z : List Nat) (a b : Nat) : cutS (S z) (some (a : Int)) (some (b : Int)) = S ((z.drop a).take (b - a)) := by
  have hl : (S z).length = z.length := rfl
  unfold cutS
  rw [HT.sIx_nat, HT.sIx_nat, hl]
  show S ((z.drop (min a z.length)).take (min b z.length - min a z.length)) = _
  congr 1
  by_cases h : a ≤ z.length
  · rw [Nat.min_eq_left h]
    by_cases h2 : b ≤ z.length
    · rw [Nat.min_eq_left h2]
    · rw [Nat.min_eq_right (by omega), List.take_of_length_le (by rw [List.length_drop]; omega), List.take_of_length_le (by rw [List.length_drop]; omega)]
  · have e : min a z.length = z.length := by omega
    rw [e, List.drop_of_length_le (Nat.le_refl _), List.drop_of_length_le (by omega), List.take_nil, List.take_nil]
theorem cutS_to (z : List Nat) (b : Nat) : cutS (S z) none (some (b : Int)) = S (z.take b) := by
  have hl : (S z).length = z.length := rfl
  unfold cutS
  rw [HT.sIx_nat, HT.sIx_none, hl]
  show S ((z.drop 0).take (min b z.length - 0)) = _
  congr 1
  rw [List.drop_zero, Nat.sub_zero]
  by_cases h2 : b ≤ z.length
  · rw [Nat.min_eq_left h2]
  · rw [Nat.min_eq_right (by omega), List.take_of_length_le (Nat.le_refl _), List.take_of_length_le (by omega)]
theorem cutS_from (z : List Nat) (a : Nat) : cutS (S z) (some (a : Int)) none = S (z.drop a) := by
  have hl : (S z).length = z.length := rfl
  unfold cutS
  rw [HT.sIx_nat, HT.sIx_none, hl]
  show S ((z.drop (min a z.length)).take (z.length - min a z.length)) = _
  congr 1
  by_cases h : a ≤ z.length
  · rw [Nat.min_eq_left h, List.take_of_length_le (by rw [List.length_drop]; omega)]
  · rw [Nat.min_eq_right (by omega), List.drop_of_length_le (Nat.le_refl _), List.drop_of_length_le (by omega), List.take_nil]
/-- the sign at k, nothing at the end -/
def sgV (z : List Nat) (k : Nat) : Str := S ((z.drop k).take 1)
theorem sgV_none {z : List Nat} {k : Nat} (h : z[k]? = none) : sgV z k = "" := by
  have e : z.drop k = [] := List.drop_of_length_le (List.getElem?_eq_none_iff.mp h)
  unfold sgV
  rw [e]
  rfl
theorem sgV_some {z : List Nat} {k c : Nat} (h : z[k]? = some c) : sgV z k = ⟨#[c]⟩ := by
  unfold sgV
  rw [need_drop h]
  rfl
theorem sgV_is {z : List Nat} {k c : Nat} : decide (V.str (sgV z k) = V.str ⟨#[c]⟩) = decide (z[k]? = some c) := by
  refine decide_eq_decide.mpr ?_
  cases h : z[k]? with
  | none =>
    rw [sgV_none h]
    constructor
    · intro e
      have e2 : ("" : Str).cps.size = 1 := by
        rw [V.str.inj e]
        rfl
      exact absurd e2 (by decide +kernel)
    · intro e
      cases e
  | some d =>
    rw [sgV_some h]
    constructor
    · intro e
      injection e with e
      injection e with e
      have e2 := congrArg Array.toList e
      injection e2 with e3
      rw [e3]
    · intro e
      cases e
      rfl
/-! ### the reader -/
theorem nk1 : ¬ (("line" : Str) = "at") := by decide +kernel
theorem nk2 : ¬ (("line" : Str) = "is_stuck") := by decide +kernel
theorem nk3 : ¬ (("at" : Str) = "is_stuck") := by decide +kernel
/-- the reader's fields -/
def rdF (z : List Nat) (k : Nat) (b : Bool) : List (Str × V) := [(("line" : Str), V.str (S z)), (("at" : Str), V.int (k : Int)), (("is_stuck" : Str), V.bl b)]
theorem rdF_0 (z : List Nat) : putF "is_stuck" (.bl false) (putF "at" (.int 0) (putF "line" (.str (S z)) [])) = rdF z 0 false := by
  show putF "is_stuck" (.bl false) (if ("line" : Str) = "at" then _ else _ :: putF "at" _ []) = _
  rw [if_neg nk1]
  show (if ("line" : Str) = "is_stuck" then _ else _ :: (if ("at" : Str) = "is_stuck" then _ else _)) = _
  rw [if_neg nk2, if_neg nk3]
  rfl
theorem rdF_l2 (x y : V) : (putF ("at" : Str) y [(("line" : Str), x)]).length = 2 := by
  show (if ("line" : Str) = "at" then _ else _ :: putF "at" _ []).length = 2
  rw [if_neg nk1]
  rfl
theorem rdF_at {m : Int} (z : List Nat) (k k' : Nat) (b : Bool) (hm : m = (k' : Int)) : putF "at" (.int m) (rdF z k b) = rdF z k' b := by
  subst hm
  show (if ("line" : Str) = "at" then _ else _ :: (if ("at" : Str) = "at" then _ else _)) = _
  rw [if_neg nk1, if_pos rfl]
  rfl
theorem rdF_stuck (z : List Nat) (k : Nat) (b b' : Bool) : putF "is_stuck" (.bl b') (rdF z k b) = rdF z k b' := by
  show (if ("line" : Str) = "is_stuck" then _ else _ :: (if ("at" : Str) = "is_stuck" then _ else _ :: (if ("is_stuck" : Str) = "is_stuck" then _ else _))) = _
  rw [if_neg nk2, if_neg nk3, if_pos rfl]
  rfl
theorem lk_line (z : List Nat) (k : Nat) (b : Bool) : (rdF z k b).lookup ("line" : Str) = some (V.str (S z)) := rfl
theorem lk_at (z : List Nat) (k : Nat) (b : Bool) : (rdF z k b).lookup ("at" : Str) = some (V.int (k : Int)) := by
  unfold rdF
  rw [List.lookup, show (("at" : Str) == "line") = false by decide +kernel, List.lookup, show (("at" : Str) == "at") = true by decide +kernel]
theorem lk_stuck (z : List Nat) (k : Nat) (b : Bool) : (rdF z k b).lookup ("is_stuck" : Str) = some (V.bl b) := by
  unfold rdF
  rw [List.lookup, show (("is_stuck" : Str) == "line") = false by decide +kernel, List.lookup, show (("is_stuck" : Str) == "at") = false by decide +kernel, List.lookup, show (("is_stuck" : Str) == "is_stuck") = true by decide +kernel]
theorem lk_no (z : List Nat) (k : Nat) (b : Bool) (m : Str) (h1 : (m == ("line" : Str)) = false) (h2 : (m == ("at" : Str)) = false) (h3 : (m == ("is_stuck" : Str)) = false) : (rdF z k b).lookup m = none := by
  unfold rdF
  rw [List.lookup, h1, List.lookup, h2, List.lookup, h3]
  rfl
structure RdC (K : PySem.W.Frag) (C : Addr) : Prop where
  cls : Cls K C
  fl : NoAttr K C "line"
  fa : NoAttr K C "at"
  fs : NoAttr K C "is_stuck"
/-- the reader at rd -/
structure Rd (H : Hp) (C rd : Addr) (z : List Nat) (k : Nat) (b : Bool) : Prop where
  ex : ∃ dx, H rd = some (.ins C dx (rdF z k b))
section
variable {P : Program} {w : World} {K : PySem.W.Frag} {mg : Str → Option Value} {base : Heap} {aW aN C : Addr}
theorem Rd.kp {H H' : Hp} {S : Addr → Prop} {rd : Addr} {z : List Nat} {k : Nat} {b : Bool} (r : Rd H C rd z k b) (e : Kp S H H') (n : ¬ S rd) : Rd H' C rd z k b := let ⟨dx, h⟩ := r.ex; ⟨dx, e _ _ h n⟩
theorem Rd.same {H H' : Hp} {rd : Addr} {z : List Nat} {k : Nat} {b : Bool} (r : Rd H C rd z k b) (e : Same H H') : Rd H' C rd z k b := let ⟨dx, h⟩ := r.ex; ⟨dx, e _ _ h⟩
theorem Rd.nt {H : Hp} {rd : Addr} {z : List Nat} {k : Nat} {b : Bool} (r : Rd H C rd z k b) : NoTup (· = rd) H := fun a ha => by
  obtain ⟨dx, h⟩ := r.ex
  exact noTup_one h ha (fun xs q => nomatch q) (fun o xs q => nomatch q)
theorem Rd.trk {H : Hp} {rd : Addr} {z : List Nat} {k : Nat} {b : Bool} (r : Rd H C rd z k b) : ∀ a, a = rd → H a ≠ none := fun a ha e => by
  obtain ⟨dx, h⟩ := r.ex
  rw [ha, h] at e
  cases e
theorem kp_at {H : Hp} (p : Addr) (o : HO) : Kp (· = p) H (upd H p o) := kp_upd (S := (· = p)) rfl o
theorem sgV_non {z : List Nat} {k : Nat} : decide (V.str (sgV z k) = V.str "") = (z[k]?).isNone := by
  cases h : z[k]? with
  | none => rw [sgV_none h]; exact decide_eq_true rfl
  | some c =>
    rw [sgV_some h]
    refine decide_eq_false fun e => ?_
    have e2 : ("" : Str).cps.size = 1 := by
      rw [← V.str.inj e]
      rfl
    exact absurd e2 (by decide +kernel)
/-- a method of the class -/
structure MetD (K : PySem.W.Frag) (C : Addr) (m qual : Str) (st : Stmt) (ps : List Str) : Prop where
  ex : ∃ (f : Addr) (fd : FuncData), Cls K C ∧ Meth K C m f ∧ C8.Fun K m qual st f fd ∧ Binds K fd ps []
theorem MetD.met {m qual : Str} {st : Stmt} {N ps : List Str} {k : Nat} {sp : Sp} (D : MetD K C m qual st ps) (S : FnScope N ps (fnScope st)) (len : ∀ vs H Q E, sp vs H Q E → vs.length = ps.length)
    (hbody : ∀ (f : Addr) (cdv : Value) (A : Around) (outer : List Env) (s : Shared) (H : Hp) (vs : List V) (Q : VK) (E : XK), Room k (A.deeper (envOfC qual (fnScope st) s.heap.objs.size f cdv)) → sp vs H Q E →
      ∃ t, PSs (cxOf C8.CX0 P w K mg base N qual (fnScope st) f cdv A outer s H E).nox (fnBody st) t ∧ t { nx := fun _ H' => Q .non H', rt := Q } (start N vs) H) : Met P w K mg base (k + 1) C m sp [] := by
  obtain ⟨f, fd, c, me, F, b⟩ := D.ex
  exact met0 c me F b S len fun cdv A outer s H vs Q E hr h => hbody f cdv A outer s H vs Q E hr h
/-! ### __init__, sign, need -/
abbrev s_rinit : Stmt := inClass (top 24) 0
abbrev s_BookReader___init__ : Stmt := s_rinit
theorem sc_rinit : FnScope ["self", "text"] ["self", "text"] (fnScope s_rinit) := fnScope_by (by decide +kernel)
def sp_rinit (C : Addr) : Sp := fun vs H Q _ => ∃ a dx z, vs = [.ref a, .str (S z)] ∧ H a = some (.ins C dx []) ∧ ∀ H', Kp (· = a) H H' → Rd H' C a z 0 false → Q .non H'
structure MakD (K : PySem.W.Frag) (mg : Str → Option Value) (x : Str) (C : Addr) (qual : Str) (st : Stmt) (ps : List Str) : Prop where
  ex : ∃ (f : Addr) (fd : FuncData), Mk K C f ∧ mg x = some (.ref C) ∧ C8.Fun K "__init__" qual st f fd ∧ Binds K fd ps []
theorem ok_rinit (D : MakD K mg "BookReader" C "BookReader.__init__" s_rinit ["self", "text"]) (c : RdC K C) : Mak P w K mg base 1 "BookReader" C (sp_rinit C) [] := by
  have sc := sc_rinit
  obtain ⟨f, fd, M, hm, F, b⟩ := D.ex
  refine mak0 M hm F b .nil sc (fun vs H Q E h => ?_) (fun cdv A outer s H vs Q E hr h => ?_)
  · obtain ⟨a, dx, z, rfl, _⟩ := h
    rfl
  · obtain ⟨a, dx, z, rfl, ha, k⟩ := h
    refine ⟨_, (pss_one (ps_asg (pe_tup (pa_cons (pv 1) (pa_cons pe_int (pa_cons pe_bl pa_nil)))) (pg_tup rfl (pgs_cons (pg_fld (pv 0)) (pgs_cons (pg_fld (pv 0)) (pgs_cons (pg_fld (pv 0)) pgs_nil)))))), ?_⟩
    refine ⟨_, rfl, (by show 3 ≤ sizeLine; decide), fun p hp => ?_⟩
    have np : p ≠ a := (ne_of_none ha hp).symm
    refine ⟨p, _, rfl, SqT.of upd_same, rfl, ?_⟩
    have e0 : (upd H p (.tup [V.str (S z), V.int 0, V.bl false])) a = some (.ins C dx []) := (upd_ne np.symm).trans ha
    refine ⟨_, _, rfl, _, rfl, a, C, dx, _, rfl, e0, c.cls, c.fl, (by show 0 < 1000; decide), ?_⟩
    refine ⟨_, _, rfl, _, rfl, a, C, dx, _, rfl, upd_same, c.cls, c.fa, (by show 1 < 1000; decide), ?_⟩
    refine ⟨_, _, rfl, _, rfl, a, C, dx, _, rfl, upd_same, c.cls, c.fs, (by show (putF ("at" : Str) (V.int 0) [(("line" : Str), V.str (S z))]).length < 1000; rw [rdF_l2]; decide), ?_⟩
    refine ⟨rfl, ?_⟩
    refine k _ ((((kp_new hp _).trans (kp_at a _)).trans (kp_at a _)).trans (kp_at a _)) ⟨dx, ?_⟩
    rw [upd_same]
    exact congrArg (fun x => some (HO.ins C dx x)) (rdF_0 z)
abbrev s_BookReader_sign : Stmt := inClass (top 24) 1
theorem sc_BookReader_sign : FnScope ["self"] ["self"] (fnScope s_BookReader_sign) := fnScope_by (by decide +kernel)
def sp_rsign (C : Addr) : Sp := fun vs H Q _ => ∃ rd z k b, vs = [.ref rd] ∧ Rd H C rd z k b ∧ z.length ≤ 10000 ∧ Q (.str (sgV z k)) H
theorem ok_rsign (D : MetD K C "sign" "BookReader.sign" s_BookReader_sign ["self"]) (c : RdC K C) : Met P w K mg base 1 C "sign" (sp_rsign C) [] := by
  have sc := sc_BookReader_sign
  refine D.met sc (fun vs H Q E h => ?_) (fun f cdv A outer s H vs Q E hr h => ?_)
  · obtain ⟨rd, z, k, b, rfl, _⟩ := h
    rfl
  · obtain ⟨rd, z, k, b, rfl, r, hz, q⟩ := h
    refine ⟨_, (pss_one (ps_ret (pe_slice sl_str (pe_fld (pv 0) rfl) (po_some (pe_fld (pv 0) rfl)) (po_some (pe_op op_add (pe_fld (pv 0) rfl) pe_int))))), ?_⟩
    obtain ⟨dx, h⟩ := r.ex
    refine ⟨_, rfl, rd, C, dx, _, _, rfl, h, c.cls, c.fl, lk_line z k b, ?_⟩
    refine ⟨_, rfl, rd, C, dx, _, _, rfl, h, c.cls, c.fa, lk_at z k b, ?_⟩
    refine ⟨_, rfl, _, rfl, rd, C, dx, _, _, rfl, h, c.cls, c.fa, lk_at z k b, _, _, rfl, rfl, _, rfl, S z, rfl, Nat.le_trans hz (by decide), ?_⟩
    have e := cutS_nat z k (k + 1)
    rw [show k + 1 - k = 1 by omega] at e
    rw [show ((k : Int) + 1) = ((k + 1 : Nat) : Int) by omega, e]
    exact q
abbrev s_BookReader_need : Stmt := inClass (top 24) 2
theorem sc_BookReader_need : FnScope ["self", "sign"] ["self", "sign"] (fnScope s_BookReader_need) := fnScope_by (by decide +kernel)
def sp_rneed (C : Addr) : Sp := fun vs H Q _ => ∃ rd z k b c, vs = [.ref rd, .str ⟨#[c]⟩] ∧ Rd H C rd z k b ∧ z.length ≤ 10000 ∧ ∀ H', Kp (· = rd) H H' → Rd H' C rd z (rdNeed c z k b).1 (rdNeed c z k b).2 → Q .non H'
theorem ok_rneed (D : MetD K C "need" "BookReader.need" s_BookReader_need ["self", "sign"]) (c : RdC K C) (C_BookReader_sign : Met P w K mg base 1 C "sign" (sp_rsign C) []) : Met P w K mg base 2 C "need" (sp_rneed C) [] := by
  have sc := sc_BookReader_need
  refine D.met sc (fun vs H Q E h => ?_) (fun f cdv A outer s H vs Q E hr h => ?_)
  · obtain ⟨rd, z, k, b, d, rfl, _⟩ := h
    rfl
  · obtain ⟨rd, z, k, b, d, rfl, r, hz, q⟩ := h
    refine ⟨_, (pss_one (ps_if (PW.pt (pw_or (pt_val (pe_fld (pv 0) rfl)) (pw_or1 (pt_cmpR op_ne (pe_mt0 C_BookReader_sign hr (by omega) (pv 0)) (pv 1) (nomark _))))) (pss_one (ps_fld (pv 0) pe_bl rfl)) (pss_one (ps_fld (pv 0) (pe_op op_add (pe_fld (pv 0) rfl) pe_int) rfl)))), ?_⟩
    obtain ⟨dx, h⟩ := r.ex
    have fin : ∀ k' b' H', k' = (rdNeed d z k b).1 → b' = (rdNeed d z k b).2 → Kp (· = rd) H H' → H' rd = some (.ins C dx (rdF z k' b')) → Q .non H' := fun k' b' H' e1 e2 e3 e4 => q H' e3 (by rw [← e1, ← e2]; exact ⟨dx, e4⟩)
    refine ⟨_, rfl, rd, C, dx, _, _, rfl, h, c.cls, c.fs, lk_stuck z k b, ?_⟩
    have setS : ∀ (σ : L2.St), σ[0]? = some (some (.ref rd)) → rdNeed d z k b = (k, true) → Q .non (upd H rd (.ins C dx (putF "is_stuck" (.bl true) (rdF z k b)))) := fun σ _ e => by
      rw [rdF_stuck]
      exact fin k true _ (by rw [e]) (by rw [e]) (kp_at rd _) upd_same
    refine ⟨_, rfl, ?_⟩
    cases b with
    | true =>
      refine ite_t rfl (ite_t rfl ⟨_, rfl, rd, C, dx, _, rfl, h, c.cls, c.fs, (by show 3 < 1000; decide), ?_⟩)
      exact setS [some (.ref rd)] rfl (rdNeed_stuck d z k)
    | false =>
      refine ite_f rfl ⟨_, rfl, rd, dx, _, rfl, h, lk_no z k false "sign" (by decide +kernel) (by decide +kernel) (by decide +kernel), rd, z, k, false, rfl, ⟨dx, h⟩, hz, _, rfl, rfl, _, rfl, ?_⟩
      have e3 : decide (V.str (sgV z k) = V.str ⟨#[d]⟩) = decide (z[k]? = some d) := sgV_is
      rw [e3]
      by_cases hd : z[k]? = some d
      · rw [decide_eq_true hd]
        refine ite_f rfl ⟨_, rfl, rd, C, dx, _, _, rfl, h, c.cls, c.fa, lk_at z k false, _, _, rfl, rfl, _, rfl, rd, C, dx, _, rfl, h, c.cls, c.fa, (by show 3 < 1000; decide), ?_⟩
        have e : rdNeed d z k false = (k + 1, false) := if_pos ⟨rfl, hd⟩
        rw [rdF_at z k (k + 1) false (by omega)]
        exact fin (k + 1) false _ (by rw [e]) (by rw [e]) (kp_at rd _) upd_same
      · rw [decide_eq_false hd]
        refine ite_t rfl ⟨_, rfl, rd, C, dx, _, rfl, h, c.cls, c.fs, (by show 3 < 1000; decide), ?_⟩
        exact setS [some (.ref rd)] rfl (if_neg fun x => hd x.2)
/-! ### words -/
abbrev s_BookReader_read_word : Stmt := inClass (top 24) 3
theorem sc_BookReader_read_word : FnScope ["self", "firsts", "begin", "word"] ["self", "firsts"] (fnScope s_BookReader_read_word) := fnScope_by (by decide +kernel)
def sp_rword (C : Addr) : Sp := fun vs H Q _ => ∃ rd z k b fs, vs = [.ref rd, .str fs] ∧ Rd H C rd z k b ∧ z.length ≤ 10000 ∧ ∀ H', Kp (· = rd) H H' → Rd H' C rd z (rdWord fs z k b).1 (rdWord fs z k b).2.1 → Q (.str (S (rdWord fs z k b).2.2)) H'
theorem run_step {z : List Nat} {k j c : Nat} (hj : j ≤ run z k) (h : z[k + j]? = some c) : (aln c = true → j + 1 ≤ run z k) ∧ (aln c = false → j = run z k) := by
  have h0 : (z.drop k)[j]? = some c := by rw [List.getElem?_drop]; exact h
  unfold run at hj ⊢
  generalize z.drop k = l at h0 hj
  clear h
  induction l generalizing j with
  | nil => cases h0
  | cons a l ih =>
    rw [List.takeWhile_cons] at hj ⊢
    cases j with
    | zero =>
      have e : a = c := Option.some.inj h0
      subst e
      cases ea : aln a with
      | true => exact ⟨fun _ => by simp, fun z => nomatch z⟩
      | false => exact ⟨(fun z => nomatch z), fun _ => rfl⟩
    | succ j =>
      cases ea : aln a with
      | false => rw [ea] at hj; exact absurd hj (by simp)
      | true =>
        rw [ea] at hj
        obtain ⟨i1, i2⟩ := @ih j (by simpa using h0) (by simpa using hj)
        exact ⟨fun q => by simpa using i1 q, fun q => by simpa using i2 q⟩
theorem run_end {z : List Nat} {k j : Nat} (hj : j ≤ run z k) (h : z[k + j]? = none) : j = run z k := by
  have h1 : run z k ≤ z.length - k := by
    unfold run
    exact Nat.le_trans (List.takeWhile_sublist _).length_le (by rw [List.length_drop]; exact Nat.le_refl _)
  have h2 := List.getElem?_eq_none_iff.mp h
  omega
theorem in_words (x : Str) : (if false = true then !inV (.str x) (words.map V.str) else inV (.str x) (words.map V.str)) = words.contains x := (if_neg Bool.false_ne_true).trans (inV_str _ words)
abbrev tIn (C : Addr) (v : Str) : L2.St → Hp → (Bool → Hp → Prop) → Prop := tTest (tOp (fun x y H Q => ∃ (c : Nat) (z : Str), x = V.str ⟨#[c]⟩ ∧ y = V.str z ∧ Q (V.bl (decide (c ∈ z.cps.toList))) H) (tMeth C "sign" (sp_rsign C) [] C8.E0 (tVar 0) tNil) (tC (V.str v)))
theorem or3 {σ : L2.St} {H : Hp} {rd : Addr} {z : List Nat} {k d : Nat} {b : Bool} {R : Bool → Hp → Prop} (hv : σ[0]? = some (some (.ref rd))) (r : Rd H C rd z k b) (hz : z.length ≤ 10000) (hc : z[k]? = some d) (q : R (aln d) H) : tOr (tIn C LET) (tOr (tIn C GRE) (tIn C FIG)) σ H R := by
  obtain ⟨dx, h⟩ := r.ex
  have ns := lk_no z k b "sign" (by decide +kernel) (by decide +kernel) (by decide +kernel)
  refine ⟨_, hv, rd, dx, _, rfl, h, ns, rd, z, k, b, rfl, ⟨dx, h⟩, hz, d, LET, by rw [sgV_some hc], rfl, _, rfl, ?_⟩
  rw [in_LET]
  refine ite_b (fun e => ?_) (fun e => ?_)
  · rw [show aln d = true by unfold aln; rw [e]; rfl] at q
    exact q
  refine ⟨_, hv, rd, dx, _, rfl, h, ns, rd, z, k, b, rfl, ⟨dx, h⟩, hz, d, GRE, by rw [sgV_some hc], rfl, _, rfl, ?_⟩
  rw [in_GRE]
  refine ite_b (fun e2 => ?_) (fun e2 => ?_)
  · rw [show aln d = true by unfold aln; rw [e, e2]; rfl] at q
    exact q
  refine ⟨_, hv, rd, dx, _, rfl, h, ns, rd, z, k, b, rfl, ⟨dx, h⟩, hz, d, FIG, by rw [sgV_some hc], rfl, _, rfl, ?_⟩
  rw [in_FIG]
  rw [show aln d = isF d by unfold aln; rw [e, e2]; rfl] at q
  exact q
theorem ok_rword (D : MetD K C "read_word" "BookReader.read_word" s_BookReader_read_word ["self", "firsts"]) (c : RdC K C) (B : Bt mg) (T : Tx K mg aW aN) (C_BookReader_sign : Met P w K mg base 1 C "sign" (sp_rsign C) []) : Met P w K mg base 2 C "read_word" (sp_rword C) [] := by
  have sc := sc_BookReader_read_word
  refine D.met sc (fun vs H Q E h => ?_) (fun f cdv A outer s H vs Q E hr h => ?_)
  · obtain ⟨rd, z, k, b, d, rfl, _⟩ := h
    rfl
  · obtain ⟨rd, z, k, b, fs, rfl, r, hz, q⟩ := h
    refine ⟨_, (pss_cons (ps_set (i := 2) sc.nd rfl (Or.inl rfl) (pe_fld (pv 0) rfl))
  (pss_cons (ps_if (PW.pt (pw_or (pt_val (pe_fld (pv 0) rfl)) (pw_or (pt_cmpR op_eq (pe_mt0 C_BookReader_sign hr (by omega) (pv 0)) pe_str (nomark _)) (pw_or1 (pt_cmpR op_notIn_sign (pe_mt0 C_BookReader_sign hr (by omega) (pv 0)) (pv 1) rfl))))) (pss_cons (ps_fld (pv 0) pe_bl rfl)
  (pss_one (ps_ret pe_str))) pss_nil)
  (pss_cut (ps_while PassesOwn.never (PW.pt (pw_and (pt_cmpR op_ne (pe_mt0 C_BookReader_sign hr (by omega) (pv 0)) pe_str (nomark _)) (pw_and1 (PW.pt (pw_or (pt_cmpR op_in_sign (pe_mt0 C_BookReader_sign hr (by omega) (pv 0)) (pe_gc rfl T.gLETTERS) rfl) (pw_or (pt_cmpR op_in_sign (pe_mt0 C_BookReader_sign hr (by omega) (pv 0)) (pe_gc rfl T.gGREATS) rfl) (pw_or1 (pt_cmpR op_in_sign (pe_mt0 C_BookReader_sign hr (by omega) (pv 0)) (pe_gc rfl T.gFIGURES) rfl)))))))) (pss_cons (ps_if (pt_cmpR op_eq (pe_op op_sub (pe_fld (pv 0) rfl) (pv 2)) pe_int (nomark _)) (pss_cons (ps_fld (pv 0) pe_bl rfl)
  (pss_one ps_break)) pss_nil)
  (pss_one (ps_fld (pv 0) (pe_op op_add (pe_fld (pv 0) rfl) pe_int) rfl))))
  (pss_cons (ps_set (i := 3) sc.nd rfl (Or.inl rfl) (pe_slice sl_str (pe_fld (pv 0) rfl) (po_some (pv 2)) (po_some (pe_fld (pv 0) rfl))))
  (pss_cons (ps_if (PW.pt (pw_and (pt_cmpR op_eq (pe_callB call_len_str rfl B.len (by decide +kernel) (pa_cons (pv 3) pa_nil)) pe_int (nomark _)) (pw_and1 (pt_cmpR op_in_seq (pv 3) (pe_gc rfl T.gWORDS) rfl)))) (pss_one (ps_asg (pe_tup (pa_cons (pe_op op_sub (pe_fld (pv 0) rfl) pe_int) (pa_cons pe_bl pa_nil))) (pg_tup rfl (pgs_cons (pg_fld (pv 0)) (pgs_cons (pg_fld (pv 0)) pgs_nil))))) pss_nil)
  (pss_one (ps_ret (pv 3)))))))), ?_⟩
    obtain ⟨dx, h⟩ := r.ex
    have nosign : ∀ k b, (rdF z k b).lookup ("sign" : Str) = none := fun k b => lk_no z k b "sign" (by decide +kernel) (by decide +kernel) (by decide +kernel)
    have fin : ∀ k' b' w H', rdWord fs z k b = (k', b', w) → Kp (· = rd) H H' → H' rd = some (.ins C dx (rdF z k' b')) → Q (.str (S w)) H' := fun k' b' w H' e1 e3 e4 => by
      have z1 := q H' e3
      rw [e1] at z1
      exact z1 ⟨dx, e4⟩
    refine ⟨_, rfl, rd, C, dx, _, _, rfl, h, c.cls, c.fa, lk_at z k b, ?_⟩
    refine ⟨_, rfl, rd, C, dx, _, _, rfl, h, c.cls, c.fs, lk_stuck z k b, _, rfl, ?_⟩
    have stuck : (b = false ∧ begins fs z k = true → False) → Q (.str "") (upd H rd (.ins C dx (putF "is_stuck" (.bl true) (rdF z k b)))) := fun n => by
      rw [rdF_stuck]
      exact fin k true [] _ (if_neg n) (kp_at rd _) upd_same
    cases b with
    | true =>
      refine ite_t rfl (ite_t rfl ⟨_, rfl, rd, C, dx, _, rfl, h, c.cls, c.fs, (by show 3 < 1000; decide), ?_⟩)
      exact stuck fun x => nomatch x.1
    | false =>
    refine ite_f rfl ⟨_, rfl, rd, dx, _, rfl, h, nosign k false, rd, z, k, false, rfl, ⟨dx, h⟩, hz, rfl, _, rfl, ?_⟩
    rw [sgV_non]
    cases hc : z[k]? with
    | none =>
      refine ite_t rfl (ite_t rfl ⟨_, rfl, rd, C, dx, _, rfl, h, c.cls, c.fs, (by show 3 < 1000; decide), ?_⟩)
      exact stuck fun x => by
        have x2 := x.2
        unfold begins at x2
        rw [hc] at x2
        cases x2
    | some d =>
    refine ite_f rfl ⟨_, rfl, rd, dx, _, rfl, h, nosign k false, rd, z, k, false, rfl, ⟨dx, h⟩, hz, _, rfl, d, fs, by rw [sgV_some hc], rfl, _, rfl, ?_⟩
    by_cases hd : decide (d ∈ fs.cps.toList) = true
    rotate_left
    · rw [Bool.not_eq_true] at hd
      rw [hd]
      refine ite_t rfl ⟨_, rfl, rd, C, dx, _, rfl, h, c.cls, c.fs, (by show 3 < 1000; decide), ?_⟩
      exact stuck fun x => by
        have x2 := x.2
        unfold begins at x2
        rw [hc] at x2
        exact absurd (hd.symm.trans x2) (by decide)
    have hb : begins fs z k = true := by unfold begins; rw [hc]; exact hd
    rw [hd]
    refine ite_f rfl ?_
    -- the loop
    refine ⟨fun σ' H' => ∃ cw : Option V, σ' = [some (.ref rd), some (.str fs), some (.int (k : Int)), cw] ∧ Kp (· = rd) H H' ∧ H' rd = some (.ins C dx (rdF z (k + min (run z k) 8) (decide (9 ≤ run z k)))), ?_, ?_⟩
    · refine ⟨fun l σ' H' => ∃ j, l = run z k - j ∧ j ≤ run z k ∧ j ≤ 8 ∧ σ' = [some (.ref rd), some (.str fs), some (.int (k : Int)), none] ∧ Kp (· = rd) H H' ∧ H' rd = some (.ins C dx (rdF z (k + j) false)), ⟨_, 0, rfl, Nat.zero_le _, by decide, rfl, Kp.refl _ _, h⟩, ?_⟩
      rintro l σ' H' ⟨j, rfl, hj, hj8, rfl, ke, g⟩
      refine ⟨_, rfl, rd, dx, _, rfl, g, nosign _ _, rd, z, k + j, false, rfl, ⟨dx, g⟩, hz, rfl, _, rfl, ?_⟩
      rw [sgV_non]
      have out : run z k = j → ∃ cw : Option V, [some (V.ref rd), some (V.str fs), some (V.int (k : Int)), (none : Option V)] = [some (.ref rd), some (.str fs), some (.int (k : Int)), cw] ∧ Kp (· = rd) H H' ∧ H' rd = some (.ins C dx (rdF z (k + min (run z k) 8) (decide (9 ≤ run z k)))) := fun e => by
        refine ⟨none, rfl, ke, ?_⟩
        rw [e, Nat.min_eq_left hj8, decide_eq_false (by omega)]
        exact g
      cases hcj : z[k + j]? with
      | none =>
        refine ite_f rfl (ite_f rfl ?_)
        exact out (run_end hj hcj).symm
      | some d2 =>
      refine ite_t rfl ?_
      refine or3 rfl ⟨dx, g⟩ hz hcj ?_
      obtain ⟨st1, st2⟩ := run_step hj hcj
      refine ite_b (fun ha => ?_) (fun ha => out (st2 ha).symm)
      refine ⟨fun σ2 H2 => j < 8 ∧ σ2 = [some (.ref rd), some (.str fs), some (.int (k : Int)), none] ∧ Kp (· = rd) H H2 ∧ H2 rd = some (.ins C dx (rdF z (k + (j + 1)) false)), fun σ2 H2 ⟨n1, n2, n3, n4⟩ => ⟨_, (by have := st1 ha; omega), j + 1, rfl, st1 ha, n1, n2, n3, n4⟩, ?_⟩
      refine ⟨_, rfl, rd, C, dx, _, _, rfl, g, c.cls, c.fa, lk_at _ _ _, _, rfl, _, _, rfl, rfl, rfl, _, rfl, ite_dec (fun e8 => ?_) (fun e8 => ?_)⟩
      · have e8' : ((k + j : Nat) : Int) - (k : Int) = 8 := V.int.inj e8
        have ej : j = 8 := by omega
        refine ⟨_, rfl, rd, C, dx, _, rfl, g, c.cls, c.fs, (by show 3 < 1000; decide), none, rfl, ke.trans (kp_at rd _), ?_⟩
        have l9 := st1 ha
        rw [upd_same, rdF_stuck, Nat.min_eq_right (by omega), decide_eq_true (by omega), ej]
      · have ej : j ≠ 8 := fun z => e8 (by rw [z]; exact congrArg V.int (by omega))
        refine ⟨_, rfl, rd, C, dx, _, _, rfl, g, c.cls, c.fa, lk_at _ _ _, _, _, rfl, rfl, _, rfl, rd, C, dx, _, rfl, g, c.cls, c.fa, (by show 3 < 1000; decide), by omega, rfl, ke.trans (kp_at rd _), ?_⟩
        rw [upd_same, rdF_at z (k + j) (k + (j + 1)) false (by omega)]
    · rintro σ' H' ⟨cw, rfl, ke, g⟩
      refine ⟨_, rfl, rd, C, dx, _, _, rfl, g, c.cls, c.fl, lk_line _ _ _, ?_⟩
      have lrun : run z k ≤ (z.drop k).length := by unfold run; exact (List.takeWhile_sublist _).length_le
      have lw : (wd z k).length = min (run z k) 8 := by
        unfold wd
        rw [List.length_take]
        omega
      refine ⟨_, rfl, _, rfl, _, rfl, rd, C, dx, _, _, rfl, g, c.cls, c.fa, lk_at _ _ _, _, rfl, S z, rfl, Nat.le_trans hz (by decide), ?_⟩
      rw [cutS_nat, show k + min (run z k) 8 - k = min (run z k) 8 by omega, show S (List.take (min (run z k) 8) (List.drop k z)) = S (wd z k) from rfl]
      have hlen : (S (wd z k)).length = min (run z k) 8 := lw
      refine ⟨_, rfl, S (wd z k), rfl, Nat.le_trans (Nat.le_of_eq hlen) (Nat.le_trans (Nat.min_le_right _ _) (by decide)), rfl, _, rfl, ?_⟩
      have ef : ∀ H2 b2 k2, (rdWord fs z k false) = (k2, b2, wd z k) → Kp (· = rd) H H2 → H2 rd = some (.ins C dx (rdF z k2 b2)) → ∃ v, [some (V.ref rd), some (V.str fs), some (V.int (k : Int)), some (V.str (S (wd z k)))][3]? = some (some v) ∧ Q v H2 := fun H2 b2 k2 e1 e2 e3 => ⟨_, rfl, fin k2 b2 _ H2 e1 e2 e3⟩
      have plain : ¬ (min (run z k) 8 = 8 ∧ words.contains (S (wd z k)) = true) → ∃ v, [some (V.ref rd), some (V.str fs), some (V.int (k : Int)), some (V.str (S (wd z k)))][3]? = some (some v) ∧ Q v H' := fun n => by
        refine ef H' (decide (9 ≤ run z k)) (k + min (run z k) 8) ?_ ke g
        unfold rdWord
        rw [if_pos ⟨rfl, hb⟩, if_neg n]
      refine ite_dec (fun e8 => ?_) (fun e8 => ?_)
      rotate_left
      · refine ite_f rfl ?_
        exact plain fun x => e8 (by rw [hlen, x.1]; rfl)
      have e8' : min (run z k) 8 = 8 := by
        have := V.int.inj e8
        omega
      refine ⟨_, rfl, aW, _, rfl, .inr (T.tW _), rfl, flat_strs _, _, rfl, ?_⟩
      rw [in_words]
      refine ite_b (fun h3 => ?_) (fun h3 => ?_)
      rotate_left
      · exact plain fun x => by rw [h3] at x; exact nomatch x.2
      refine ⟨_, rfl, rd, C, dx, _, _, rfl, g, c.cls, c.fa, lk_at _ _ _, _, _, rfl, rfl, (by show 2 ≤ sizeLine; decide), fun p hp => ?_⟩
      have np : p ≠ rd := (ne_of_none g hp).symm
      refine ⟨p, _, rfl, SqT.of upd_same, rfl, ?_⟩
      refine ⟨_, _, rfl, _, rfl, rd, C, dx, rdF z (k + min (run z k) 8) (decide (9 ≤ run z k)), rfl, (upd_ne np.symm).trans g, c.cls, c.fa, (by show 3 < 1000; decide), ?_⟩
      rw [rdF_at z _ (k + 7) _ (by omega)]
      refine ⟨_, _, rfl, _, rfl, rd, C, dx, _, rfl, upd_same, c.cls, c.fs, (by show 3 < 1000; decide), rfl, ?_⟩
      rw [rdF_stuck]
      refine ef _ true (k + 7) ?_ (((ke.trans (kp_new hp _)).trans (kp_at rd _)).trans (kp_at rd _)) upd_same
      unfold rdWord
      rw [if_pos ⟨rfl, hb⟩, if_pos ⟨e8', h3⟩]
/-! ### names -/
theorem S_inj {a b : List Nat} (h : S a = S b) : a = b := by
  injection h with h
  have e := congrArg Array.toList h
  exact e
theorem name_tail {σ : L2.St} {D : L2.Ends} {H : Hp} {rd : Addr} {z m : List Nat} {k : Nat} {b : Bool} (h0 : σ[0]? = some (some (.ref rd))) (h1 : σ[1]? = some (some (.str (S m)))) (r : Rd H C rd z k b) (hz : z.length ≤ 10000)
    (q : ∀ a H', Kp (· = rd) H H' → Rd H' C rd z (rdWord GRE z (rdNeed 46 z k b).1 (rdNeed 46 z k b).2).1 (rdWord GRE z (rdNeed 46 z k b).1 (rdNeed 46 z k b).2).2.1 → SqT K H' a [.str (S m), .str (S (rdWord GRE z (rdNeed 46 z k b).1 (rdNeed 46 z k b).2).2.2)] → D.rt (.ref a) H') :
    tSeq (tDrop (tMeth C "need" (sp_rneed C) [] C8.E0 (tVar 0) (tCons (tC (V.str ".")) tNil))) (tRet (tTup (tCons (tVar 1) (tCons (tMeth C "read_word" (sp_rword C) [] C8.E0 (tVar 0) (tCons (tC (V.str GRE)) tNil)) tNil)))) D σ H := by
  obtain ⟨dx, h⟩ := r.ex
  refine ⟨_, h0, rd, dx, _, rfl, h, lk_no z k b "need" (by decide +kernel) (by decide +kernel) (by decide +kernel), rd, z, k, b, 46, rfl, r, hz, fun H1 e1 r1 => ?_⟩
  obtain ⟨dx1, g1⟩ := r1.ex
  refine ⟨_, h1, _, h0, rd, dx1, _, rfl, g1, lk_no z _ _ "read_word" (by decide +kernel) (by decide +kernel) (by decide +kernel), rd, z, _, _, GRE, rfl, r1, hz, fun H2 e2 r2 => ⟨(by show 2 ≤ sizeLine; decide), fun p hp => ?_⟩⟩
  exact q p _ ((e1.trans e2).trans (kp_new hp _)) (r2.same (same_new hp _)) (SqT.of upd_same)
abbrev s_BookReader_read_name : Stmt := inClass (top 24) 4
theorem sc_BookReader_read_name : FnScope ["self", "m"] ["self"] (fnScope s_BookReader_read_name) := fnScope_by (by decide +kernel)
def sp_rname (K : PySem.W.Frag) (C : Addr) : Sp := fun vs H Q _ => ∃ rd z k b, vs = [.ref rd] ∧ Rd H C rd z k b ∧ z.length ≤ 10000 ∧
  ∀ a H', Kp (· = rd) H H' → Rd H' C rd z (rdName z k b).1 (rdName z k b).2.1 → SqT K H' a [.str (S (rdName z k b).2.2.1), .str (S (rdName z k b).2.2.2)] → Q (.ref a) H'
theorem ok_rname (D : MetD K C "read_name" "BookReader.read_name" s_BookReader_read_name ["self"]) (c : RdC K C) (B : Bt mg) (T : Tx K mg aW aN) (C_BookReader_need : Met P w K mg base 2 C "need" (sp_rneed C) []) (C_BookReader_read_word : Met P w K mg base 2 C "read_word" (sp_rword C) []) : Met P w K mg base 3 C "read_name" (sp_rname K C) [] := by
  have sc := sc_BookReader_read_name
  refine D.met sc (fun vs H Q E h => ?_) (fun f cdv A outer s H vs Q E hr h => ?_)
  · obtain ⟨rd, z, k, b, rfl, _⟩ := h
    rfl
  · obtain ⟨rd, z, k, b, rfl, r, hz, q⟩ := h
    refine ⟨_, (pss_cons (ps_set (i := 1) sc.nd rfl (Or.inl rfl) (pe_mt C_BookReader_read_word hr (by omega) (pv 0) (pa_cons (pe_gc rfl T.gLETTERS) pa_nil)))
  (pss_cons (ps_if (pt_cmpR op_in_seq (pv 1) (pe_gc rfl T.gWORDS) rfl) (pss_one (ps_fld (pv 0) pe_bl rfl)) pss_nil)
  (pss_cons (ps_expr (pe_mt C_BookReader_need hr (by omega) (pv 0) (pa_cons pe_str pa_nil)))
  (pss_one (ps_ret (pe_tup (pa_cons (pv 1) (pa_cons (pe_mt C_BookReader_read_word hr (by omega) (pv 0) (pa_cons (pe_gc rfl T.gGREATS) pa_nil)) pa_nil)))))))), ?_⟩
    have nm : ∀ (m : Str) k b, (m == ("line" : Str)) = false → (m == ("at" : Str)) = false → (m == ("is_stuck" : Str)) = false → (rdF z k b).lookup m = none := fun m k b h1 h2 h3 => lk_no z k b m h1 h2 h3
    obtain ⟨dx, h⟩ := r.ex
    refine ⟨_, rfl, rd, dx, _, rfl, h, nm "read_word" k b (by decide +kernel) (by decide +kernel) (by decide +kernel), rd, z, k, b, LET, rfl, r, hz, fun H1 e1 r1 => ?_⟩
    generalize ew : rdWord LET z k b = w1 at *
    obtain ⟨k1, b1, m⟩ := w1
    have r1' : Rd H1 C rd z k1 b1 := r1
    have hq : ∀ b2, b2 = (b1 || words.contains (S m)) → ∀ H2, Kp (· = rd) H H2 → ∀ a H', Kp (· = rd) H2 H' → Rd H' C rd z (rdWord GRE z (rdNeed 46 z k1 b2).1 (rdNeed 46 z k1 b2).2).1 (rdWord GRE z (rdNeed 46 z k1 b2).1 (rdNeed 46 z k1 b2).2).2.1 →
        SqT K H' a [.str (S m), .str (S (rdWord GRE z (rdNeed 46 z k1 b2).1 (rdNeed 46 z k1 b2).2).2.2)] → Q (.ref a) H' := fun b2 eb H2 e0 a H' e1 e2 e3 => by
      subst eb
      have z1 := q a H' (e0.trans e1)
      unfold rdName at z1
      rw [ew] at z1
      exact z1 e2 e3
    obtain ⟨dx1, h1⟩ := r1'.ex
    refine ⟨_, rfl, aW, _, rfl, .inr (T.tW _), rfl, flat_strs _, _, rfl, ?_⟩
    rw [show S (k1, b1, m).2.2 = S m from rfl, in_words]
    refine ite_b (fun hw => ?_) (fun hw => ?_)
    · refine ⟨_, rfl, rd, C, dx1, _, rfl, h1, c.cls, c.fs, (by show 3 < 1000; decide), ?_⟩
      rw [rdF_stuck]
      exact name_tail rfl rfl ⟨dx1, upd_same⟩ hz (hq true (by rw [hw, Bool.or_true]) _ (e1.trans (kp_at rd _)))
    · exact name_tail rfl rfl ⟨dx1, h1⟩ hz (hq b1 (by rw [hw, Bool.or_false]) _ e1)
abbrev s_BookReader_head : Stmt := inClass (top 24) 5
theorem sc_BookReader_head : FnScope ["self", "word"] ["self"] (fnScope s_BookReader_head) := fnScope_by (by decide +kernel)
def sp_rhead (K : PySem.W.Frag) (C : Addr) : Sp := fun vs H Q _ => ∃ rd z k b, vs = [.ref rd] ∧ Rd H C rd z k b ∧ z.length ≤ 10000 ∧
  ∀ a H', Kp (· = rd) H H' → Rd H' C rd z (rdHead z k b).1 (rdHead z k b).2.1 → SqT K H' a [.str (S (rdHead z k b).2.2.1), .str (S (rdHead z k b).2.2.2)] → Q (.ref a) H'
theorem ok_rhead (D : MetD K C "head" "BookReader.head" s_BookReader_head ["self"]) (c : RdC K C) (B : Bt mg) (T : Tx K mg aW aN) (C_BookReader_need : Met P w K mg base 2 C "need" (sp_rneed C) []) (C_BookReader_read_word : Met P w K mg base 2 C "read_word" (sp_rword C) []) : Met P w K mg base 3 C "head" (sp_rhead K C) [] := by
  have sc := sc_BookReader_head
  refine D.met sc (fun vs H Q E h => ?_) (fun f cdv A outer s H vs Q E hr h => ?_)
  · obtain ⟨rd, z, k, b, rfl, _⟩ := h
    rfl
  · obtain ⟨rd, z, k, b, rfl, r, hz, q⟩ := h
    refine ⟨_, (pss_cons (ps_set (i := 1) sc.nd rfl (Or.inl rfl) (pe_mt C_BookReader_read_word hr (by omega) (pv 0) (pa_cons (pe_gc rfl T.gLETTERS) pa_nil)))
  (pss_cons (ps_if (pt_cmpR op_eq (pv 1) pe_str (nomark _)) (pss_one (ps_ret (pe_gc rfl T.gINT_NAME))) pss_nil)
  (pss_cons (ps_if (pt_cmpR op_in_seq (pv 1) (pe_gc rfl T.gWORDS) rfl) (pss_one (ps_fld (pv 0) pe_bl rfl)) pss_nil)
  (pss_cons (ps_expr (pe_mt C_BookReader_need hr (by omega) (pv 0) (pa_cons pe_str pa_nil)))
  (pss_one (ps_ret (pe_tup (pa_cons (pv 1) (pa_cons (pe_mt C_BookReader_read_word hr (by omega) (pv 0) (pa_cons (pe_gc rfl T.gGREATS) pa_nil)) pa_nil))))))))), ?_⟩
    obtain ⟨dx, h⟩ := r.ex
    refine ⟨_, rfl, rd, dx, _, rfl, h, lk_no z k b "read_word" (by decide +kernel) (by decide +kernel) (by decide +kernel), rd, z, k, b, LET, rfl, r, hz, fun H1 e1 r1 => ?_⟩
    generalize ew : rdWord LET z k b = w1 at *
    obtain ⟨k1, b1, m⟩ := w1
    have r1' : Rd H1 C rd z k1 b1 := r1
    obtain ⟨dx1, h1⟩ := r1'.ex
    by_cases hi : m = cInt
    · have z1 := q aN H1 e1
      unfold rdHead at z1
      rw [ew, if_pos hi] at z1
      have z2 := z1 r1' (T.tN _)
      refine ⟨_, rfl, rfl, _, rfl, ?_⟩
      rw [show decide (V.str (S (k1, b1, m).2.2) = V.str "int") = true from decide_eq_true (by rw [hi]; rfl)]
      exact ite_t rfl z2
    have ni : decide (V.str (S (k1, b1, m).2.2) = V.str "int") = false := decide_eq_false fun e => hi (by
      have e2 : S m = S cInt := V.str.inj e
      exact S_inj e2)
    have hq : ∀ b2, b2 = (b1 || words.contains (S m)) → ∀ H2, Kp (· = rd) H H2 → ∀ a H', Kp (· = rd) H2 H' → Rd H' C rd z (rdWord GRE z (rdNeed 46 z k1 b2).1 (rdNeed 46 z k1 b2).2).1 (rdWord GRE z (rdNeed 46 z k1 b2).1 (rdNeed 46 z k1 b2).2).2.1 →
        SqT K H' a [.str (S m), .str (S (rdWord GRE z (rdNeed 46 z k1 b2).1 (rdNeed 46 z k1 b2).2).2.2)] → Q (.ref a) H' := fun b2 eb H2 e0 a H' e1 e2 e3 => by
      subst eb
      have z1 := q a H' (e0.trans e1)
      unfold rdHead at z1
      rw [ew, if_neg hi] at z1
      unfold rdName at z1
      rw [ew] at z1
      exact z1 e2 e3
    refine ⟨_, rfl, rfl, _, rfl, ?_⟩
    rw [ni]
    refine ite_f rfl ⟨_, rfl, aW, _, rfl, .inr (T.tW _), rfl, flat_strs _, _, rfl, ?_⟩
    rw [show S (k1, b1, m).2.2 = S m from rfl, in_words]
    refine ite_b (fun hw => ?_) (fun hw => ?_)
    · refine ⟨_, rfl, rd, C, dx1, _, rfl, h1, c.cls, c.fs, (by show 3 < 1000; decide), ?_⟩
      rw [rdF_stuck]
      exact name_tail rfl rfl ⟨dx1, upd_same⟩ hz (hq true (by rw [hw, Bool.or_true]) _ (e1.trans (kp_at rd _)))
    · exact name_tail rfl rfl ⟨dx1, h1⟩ hz (hq b1 (by rw [hw, Bool.or_false]) _ e1)
end
end K54
set_option Elab.async false
set_option linter.all false
set_option maxRecDepth 100000
set_option maxHeartbeats 4000000
namespace K54
open PySem PySem.Spec PyProof.Rows L2 C8 RZ LiI SX
theorem rdNeed_fwd (c : Nat) (z : List Nat) (k : Nat) (b : Bool) : k ≤ (rdNeed c z k b).1 := by
  unfold rdNeed
  split
  · exact Nat.le_succ _
  · exact Nat.le_refl _
theorem rdWord_fwd (fs : Str) (z : List Nat) (k : Nat) (b : Bool) : k ≤ (rdWord fs z k b).1 := by
  unfold rdWord
  split
  · split
    · show k ≤ k + 7; omega
    · show k ≤ k + _; omega
  · exact Nat.le_refl _
theorem rdName_fwd (z : List Nat) (k : Nat) (b : Bool) : k ≤ (rdName z k b).1 := by
  unfold rdName
  exact Nat.le_trans (rdWord_fwd _ _ _ _) (Nat.le_trans (rdNeed_fwd _ _ _ _) (rdWord_fwd _ _ _ _))
theorem rdHead_fwd (z : List Nat) (k : Nat) (b : Bool) : k ≤ (rdHead z k b).1 := by
  unfold rdHead
  split
  · exact rdWord_fwd _ _ _ _
  · exact rdName_fwd _ _ _
theorem ROne.fwd {z : List Nat} {k k' : Nat} {b b' : Bool} {p : Bk} (h : ROne z k b k' b' p) : k ≤ k' := by
  refine ROne.rec (motive_1 := fun k _ k' _ _ _ => k ≤ k') (motive_2 := fun k _ k' _ _ _ => k ≤ k') ?_ ?_ ?_ ?_ h
  · intro k b k1 b1 nm k2 b2 k3 b3 hd h1 h2 h3 h4
    have e1 := rdName_fwd z k b
    have e2 := rdNeed_fwd 32 z k1 b1
    have e3 := rdHead_fwd z k2 b2
    rw [h1] at e1
    rw [h2] at e2
    rw [h3] at e3
    dsimp only at e1 e2 e3
    omega
  · intro k b k1 b1 nm k2 b2 k3 hd k5 b5 p k6 b6 ps k7 b7 h1 h2 h3 h4 h5 h6 h7 i5 i6
    have e1 := rdName_fwd z k b
    have e2 := rdNeed_fwd 32 z k1 b1
    have e3 := rdHead_fwd z k2 b2
    have e7 := rdNeed_fwd 41 z k6 b6
    rw [h1] at e1
    rw [h2] at e2
    rw [h3] at e3
    rw [h7] at e7
    dsimp only at e1 e2 e3 e7
    omega
  · intro k b h
    exact Nat.le_refl _
  · intro k k2 b2 k3 b3 p k4 b4 ps h1 h2 h3 h4 i3 i4
    have e2 := rdNeed_fwd 32 z (k + 1) false
    rw [h2] at e2
    dsimp only at e2
    omega
theorem dOfs_app (ps qs : List Bk) : dOfs (ps ++ qs) = dOfs ps ++ dOfs qs := by
  rw [dOfs_map, dOfs_map, dOfs_map, List.map_append]
theorem dOfs_len (ps : List Bk) : (dOfs ps).length = ps.length := by rw [dOfs_map, List.length_map]
section
variable {P : Program} {w : World} {K : PySem.W.Frag} {mg : Str → Option Value} {base : Heap} {aW aN C : Addr}
/-- what the reader has got behind a head -/
structure Got (K : PySem.W.Frag) (H Hc : Hp) (C rd : Addr) (z : List Nat) (k : Nat) (b : Bool) (an ah L : Addr) (nm hd : List Nat × List Nat) (ps : List Bk) : Prop where
  kp : Kp (· = rd) H Hc
  r : Rd Hc C rd z k b
  n : SqT K Hc an [.str (S nm.1), .str (S nm.2)]
  h : SqT K Hc ah [.str (S hd.1), .str (S hd.2)]
  m : Made K H Hc L (dOfs ps)
  nL : H L = none
  trk : H rd ≠ none
  len : ps.length ≤ k
theorem Got.step {H Hc H' : Hp} {rd : Addr} {z : List Nat} {k k' : Nat} {b b' : Bool} {an ah L : Addr} {nm hd : List Nat × List Nat} {ps : List Bk} (g : Got K H Hc C rd z k b an ah L nm hd ps) (e : Kp (· = rd) Hc H') (r : Rd H' C rd z k' b') (l : k ≤ k') : Got K H H' C rd z k' b' an ah L nm hd ps := by
  have nt : NoTup (· = rd) Hc := g.r.nt
  have nLr : ¬ L = rd := fun z => g.trk (z ▸ g.nL)
  obtain ⟨acc, fp, h1, h2, h3, h4, h5⟩ := g.m.ex
  exact ⟨g.kp.trans e, r, sqT_kp e nt g.n, sqT_kp e nt g.h, ⟨acc, fp, e _ _ h1 nLr, h2.keep e nt fun a ha z => g.trk (z ▸ h3 a ha), h3, h4, h5⟩, g.nL, g.trk, Nat.le_trans g.len l⟩
theorem Got.free {H Hc : Hp} {rd : Addr} {z : List Nat} {k : Nat} {b : Bool} {an ah L : Addr} {nm hd : List Nat × List Nat} {ps : List Bk} (g : Got K H Hc C rd z k b an ah L nm hd ps) {a : Addr} (h : Hc a = none) : H a = none := by
  cases e : H a with
  | none => rfl
  | some o =>
    by_cases ha : a = rd
    · exact absurd h (ha ▸ g.r.trk rd rfl)
    · rw [g.kp a o e ha] at h; cases h
theorem Got.add {H Hc H' : Hp} {rd : Addr} {z : List Nat} {k k' : Nat} {b b' : Bool} {an ah L : Addr} {nm hd : List Nat × List Nat} {ps : List Bk} {p : Bk} {v : V} {fp : List Addr} (g : Got K H Hc C rd z k b an ah L nm hd ps) (hk : ps.length < sizeLine) (e : Kp (· = rd) Hc H') (r : Rd H' C rd z k' b') (l : ps.length + 1 ≤ k')
    (n : New K Hc H' v (dOf p) fp) : ∃ acc, H' L = some (.lst acc) ∧ acc.length < sizeLine ∧ Got K H (upd H' L (.lst (acc ++ [v]))) C rd z k' b' an ah L nm hd (ps ++ [p]) := by
  have nt : NoTup (· = rd) Hc := g.r.nt
  have nLr : ¬ L = rd := fun z => g.trk (z ▸ g.nL)
  obtain ⟨acc, w1, w2, w3⟩ := g.m.snoc (S := (· = rd)) (.inr fun a ha => g.free ha) e nt nLr (fun a ha z => g.trk (ha ▸ z)) n
  have ku : Kp (· = L) H' (upd H' L (.lst (acc ++ [v]))) := kp_at L _
  have ntL : NoTup (· = L) H' := fun a ha => noTup_one w1 ha (fun xs q => nomatch q) (fun o xs q => nomatch q)
  refine ⟨acc, w1, by rw [w2, dOfs_len]; exact hk, ⟨fun a o ea na => ?_, r.kp ku (fun z => nLr z.symm), sqT_kp ku ntL (sqT_kp e nt g.n), sqT_kp ku ntL (sqT_kp e nt g.h), ?_, g.nL, g.trk, ?_⟩⟩
  · rw [upd_ne (ne_of_none ea g.nL)]
    exact e _ _ (g.kp _ _ ea na) na
  · rw [dOfs_app]; exact w3
  · rw [List.length_append, List.length_singleton]; exact l
/-- the book told at the end -/
theorem Got.tell {H Hc : Hp} {rd : Addr} {z : List Nat} {k : Nat} {b : Bool} {an ah L : Addr} {nm hd : List Nat × List Nat} {ps : List Bk} (g : Got K H Hc C rd z k b an ah L nm hd ps) {t : Addr} (ht : Hc t = none) :
    ∃ fp, New K H (upd Hc t (.tup [.str "by", .ref an, .ref ah, .ref L])) (.ref t) (dOf (.mk nm.1 nm.2 hd.1 hd.2 ps)) fp ∧ Kp (· = rd) H (upd Hc t (.tup [.str "by", .ref an, .ref ah, .ref L])) ∧ Rd (upd Hc t (.tup [.str "by", .ref an, .ref ah, .ref L])) C rd z k b := by
  have e := same_new ht (.tup [.str "by", .ref an, .ref ah, .ref L])
  obtain ⟨acc, fp, h1, h2, h3, h4, h5⟩ := g.m.ex
  have q1 : Rep K (upd Hc t (.tup [.str "by", .ref an, .ref ah, .ref L])) (.ref an) (.tup [.str (S nm.1), .str (S nm.2)]) [] := .tup (Same.sqT e g.n) (.cons (.str _) (.cons (.str _) .nil))
  have q2 : Rep K (upd Hc t (.tup [.str "by", .ref an, .ref ah, .ref L])) (.ref ah) (.tup [.str (S hd.1), .str (S hd.2)]) [] := .tup (Same.sqT e g.h) (.cons (.str _) (.cons (.str _) .nil))
  have q3 : Rep K (upd Hc t (.tup [.str "by", .ref an, .ref ah, .ref L])) (.ref L) (.lst (dOfs ps)) (L :: fp) := .lst (e _ _ h1) (h2.same e)
  refine ⟨L :: fp, ⟨.tup (SqT.of upd_same) ?_, ?_, List.nodup_cons.mpr ⟨h5, h4⟩⟩, g.kp.trans (Kp.of_same e), g.r.same e⟩
  · have z := Reps.cons (Rep.str (K := K) (H := upd Hc t (.tup [.str "by", .ref an, .ref ah, .ref L])) "by") (Reps.cons q1 (Reps.cons q2 (Reps.one q3)))
    exact z
  · intro a ha
    rcases List.mem_cons.mp ha with z | z
    · rw [z]; exact g.nL
    · exact h3 a z
theorem rd_test (c : RdC K C) {σ : L2.St} {H : Hp} {rd : Addr} {z : List Nat} {k : Nat} {b : Bool} {x : Str} {d : Nat} {R : Bool → Hp → Prop} (hx : x = ⟨#[d]⟩) (h0 : σ[0]? = some (some (.ref rd))) (r : Rd H C rd z k b) (hz : z.length ≤ 10000) (q1 : (b = true ∨ z[k]? ≠ some d) → R false H) (q2 : b = false → z[k]? = some d → R true H) :
    tAnd (tNot (tB (tFld K (tVar 0) "is_stuck"))) (tTest (tOp rEq (tMeth C "sign" (sp_rsign C) [] C8.E0 (tVar 0) tNil) (tC (V.str x)))) σ H R := by
  subst hx
  obtain ⟨dx, h⟩ := r.ex
  refine ⟨_, h0, rd, C, dx, _, _, rfl, h, c.cls, c.fs, lk_stuck z k b, _, rfl, ?_⟩
  cases b with
  | true => exact ite_f rfl (q1 (.inl rfl))
  | false =>
    refine ite_t rfl ⟨_, h0, rd, dx, _, rfl, h, lk_no z k false "sign" (by decide +kernel) (by decide +kernel) (by decide +kernel), rd, z, k, false, rfl, ⟨dx, h⟩, hz, rfl, _, rfl, ?_⟩
    rw [show decide (V.str (sgV z k) = V.str ⟨#[d]⟩) = decide (z[k]? = some d) from sgV_is]
    by_cases e : z[k]? = some d
    · rw [decide_eq_true e]; exact q2 rfl e
    · rw [decide_eq_false e]; exact q1 (.inr e)
theorem rd_need {σ : L2.St} {H : Hp} {D : L2.Ends} {rd : Addr} {z : List Nat} {k : Nat} {b : Bool} {x : Str} {d : Nat} (hx : x = ⟨#[d]⟩) (h0 : σ[0]? = some (some (.ref rd))) (r : Rd H C rd z k b) (hz : z.length ≤ 10000) (q : ∀ H', Kp (· = rd) H H' → Rd H' C rd z (rdNeed d z k b).1 (rdNeed d z k b).2 → D.nx σ H') :
    tDrop (tMeth C "need" (sp_rneed C) [] C8.E0 (tVar 0) (tCons (tC (V.str x)) tNil)) D σ H := by
  subst hx
  obtain ⟨dx, h⟩ := r.ex
  exact ⟨_, h0, rd, dx, _, rfl, h, lk_no z k b "need" (by decide +kernel) (by decide +kernel) (by decide +kernel), rd, z, k, b, d, rfl, r, hz, fun H1 e1 r1 => q H1 e1 r1⟩
def sp_rone (K : PySem.W.Frag) (C : Addr) (n : Nat) : Sp := fun vs H Q _ => ∃ rd z k b m, vs = [.ref rd] ∧ Rd H C rd z k b ∧ z.length ≤ 10000 ∧ m + 1 = n ∧ (b = true ∨ z.length ≤ k + 6 * m) ∧
  ∀ v fp p k' b' H', ROne z k b k' b' p → Kp (· = rd) H H' → Rd H' C rd z k' b' → New K H H' v (dOf p) fp → Q v H'
theorem rd_app {σ : L2.St} {H Hc : Hp} {D : L2.Ends} {rd an ah L : Addr} {z : List Nat} {k m n : Nat} {b : Bool} {nm hd : List Nat × List Nat} {ps : List Bk} (h0 : σ[0]? = some (some (.ref rd))) (h3 : σ[3]? = some (some (.ref L))) (g : Got K H Hc C rd z k b an ah L nm hd ps) (hz : z.length ≤ 10000) (hm : m + 1 = n) (hb : b = true ∨ z.length ≤ k + 6 * m)
    (hl : ps.length + 1 ≤ k) (hs : ps.length < sizeLine) (q : ∀ p k' b' H', ROne z k b k' b' p → Got K H H' C rd z k' b' an ah L nm hd (ps ++ [p]) → D.nx σ H') :
    tDrop (tBM K "list" rAppend (tVar 3) (tCons (tMeth C "read_one" (sp_rone K C n) [] C8.E0 (tVar 0) tNil) tNil)) D σ Hc := by
  obtain ⟨dx, h⟩ := g.r.ex
  obtain ⟨acc0, fp0, e1, _⟩ := g.m.ex
  refine ⟨_, h3, .inl ⟨rfl, _, SqL.of e1⟩, _, h0, rd, dx, _, rfl, h, lk_no z k b "read_one" (by decide +kernel) (by decide +kernel) (by decide +kernel), rd, z, k, b, m, rfl, g.r, hz, hm, hb, fun v fp p k' b' H' o e r nw => ?_⟩
  obtain ⟨acc, w1, w2, w3⟩ := g.add hs e r (Nat.le_trans hl o.fwd) nw
  exact ⟨L, acc, v, rfl, rfl, w1, w2, q p k' b' _ o w3⟩
abbrev s_BookReader_read_one : Stmt := inClass (top 24) 6
theorem sc_BookReader_read_one : FnScope ["self", "name", "head", "found"] ["self"] (fnScope s_BookReader_read_one) := fnScope_by (by decide +kernel)
theorem ok_rone1 {n : Nat} (D : MetD K C "read_one" "BookReader.read_one" s_BookReader_read_one ["self"]) (c : RdC K C) (C_BookReader_sign : Met P w K mg base 1 C "sign" (sp_rsign C) []) (C_BookReader_need : Met P w K mg base 2 C "need" (sp_rneed C) [])
    (C_BookReader_read_name : Met P w K mg base 3 C "read_name" (sp_rname K C) []) (C_BookReader_head : Met P w K mg base 3 C "head" (sp_rhead K C) []) (C_BookReader_read_one : Met P w K mg base (n + 3) C "read_one" (sp_rone K C n) []) : Met P w K mg base (n + 4) C "read_one" (sp_rone K C (n + 1)) [] := by
  have sc := sc_BookReader_read_one
  refine D.met sc (fun vs H Q E h => ?_) (fun f cdv A outer s H vs Q E hr h => ?_)
  · obtain ⟨rd, z, k, b, m, rfl, _⟩ := h
    rfl
  · obtain ⟨rd, z, k, b, m, rfl, r, hz, hm, hb, q⟩ := h
    have hm' : m = n := by omega
    subst hm'
    refine ⟨_, (pss_cons (ps_set (i := 1) sc.nd rfl (Or.inl rfl) (pe_mt0 C_BookReader_read_name hr (by omega) (pv 0)))
  (pss_cons (ps_expr (pe_mt C_BookReader_need hr (by omega) (pv 0) (pa_cons pe_str pa_nil)))
  (pss_cons (ps_par (i := 2) (j := 3) rfl sc.nd rfl rfl (by decide) rfl rfl (pa_cons (pe_mt0 C_BookReader_head hr (by omega) (pv 0)) (pa_cons (pe_lst pa_nil) pa_nil)) (by rfl))
  (pss_cons (ps_if (PW.pt (pw_and (pt_not (pt_val (pe_fld (pv 0) rfl))) (pw_and1 (pt_cmpR op_eq (pe_mt0 C_BookReader_sign hr (by omega) (pv 0)) pe_str (nomark _))))) (pss_cons (ps_expr (pe_mt C_BookReader_need hr (by omega) (pv 0) (pa_cons pe_str pa_nil)))
  (pss_cons (ps_expr (pe_bm PySem.F.plainAttrs_list PySem.F.slot_list_append PySem.F.type_list_append mt_append (pv 3) (pa_cons (pe_mt0 C_BookReader_read_one hr (by omega) (pv 0)) pa_nil)))
  (pss_cut (ps_while PassesOwn.never (PW.pt (pw_and (pt_not (pt_val (pe_fld (pv 0) rfl))) (pw_and1 (pt_cmpR op_eq (pe_mt0 C_BookReader_sign hr (by omega) (pv 0)) pe_str (nomark _))))) (pss_cons (ps_expr (pe_mt C_BookReader_need hr (by omega) (pv 0) (pa_cons pe_str pa_nil)))
  (pss_cons (ps_expr (pe_mt C_BookReader_need hr (by omega) (pv 0) (pa_cons pe_str pa_nil)))
  (pss_one (ps_expr (pe_bm PySem.F.plainAttrs_list PySem.F.slot_list_append PySem.F.type_list_append mt_append (pv 3) (pa_cons (pe_mt0 C_BookReader_read_one hr (by omega) (pv 0)) pa_nil)))))))
  (pss_one (ps_expr (pe_mt C_BookReader_need hr (by omega) (pv 0) (pa_cons pe_str pa_nil))))))) pss_nil)
  (pss_one (ps_ret (pe_tup (pa_cons pe_str (pa_cons (pv 1) (pa_cons (pv 2) (pa_cons (pv 3) pa_nil))))))))))), ?_⟩
    have no : ∀ (k : Nat) (b : Bool), (rdF z k b).lookup ("need" : Str) = none ∧ (rdF z k b).lookup ("read_name" : Str) = none ∧ (rdF z k b).lookup ("head" : Str) = none ∧ (rdF z k b).lookup ("sign" : Str) = none ∧ (rdF z k b).lookup ("read_one" : Str) = none := fun k b =>
      ⟨lk_no z k b _ (by decide +kernel) (by decide +kernel) (by decide +kernel), lk_no z k b _ (by decide +kernel) (by decide +kernel) (by decide +kernel), lk_no z k b _ (by decide +kernel) (by decide +kernel) (by decide +kernel), lk_no z k b _ (by decide +kernel) (by decide +kernel) (by decide +kernel), lk_no z k b _ (by decide +kernel) (by decide +kernel) (by decide +kernel)⟩
    obtain ⟨dx, h⟩ := r.ex
    refine ⟨_, rfl, rd, dx, _, rfl, h, (no k b).2.1, rd, z, k, b, rfl, r, hz, fun an H1 e1 r1 t1 => ?_⟩
    generalize w1 : rdName z k b = x1 at *
    obtain ⟨k1, b1, nm⟩ := x1
    obtain ⟨dx1, h1⟩ := r1.ex
    refine ⟨_, rfl, rd, dx1, _, rfl, h1, (no _ _).1, rd, z, k1, b1, 32, rfl, ⟨dx1, h1⟩, hz, fun H2 e2 r2 => ?_⟩
    generalize w2 : rdNeed 32 z k1 b1 = x2 at *
    obtain ⟨k2, b2⟩ := x2
    obtain ⟨dx2, h2⟩ := r2.ex
    have t2 := sqT_kp e2 r1.nt t1
    refine ⟨_, rfl, rd, dx2, _, rfl, h2, (no _ _).2.2.1, rd, z, k2, b2, rfl, ⟨dx2, h2⟩, hz, fun ah H3 e3 r3 g3 => ⟨(by show 0 ≤ sizeLine; decide), fun L hL => ?_⟩⟩
    generalize w3 : rdHead z k2 b2 = x3 at *
    obtain ⟨k3, b3, hd⟩ := x3
    have t3 := sqT_kp e3 r2.nt t2
    have e4 := same_new hL (.lst [])
    have G : Got K H (upd H3 L (.lst [])) C rd z k3 b3 an ah L nm hd [] := by
      have kk : Kp (· = rd) H (upd H3 L (.lst [])) := ((e1.trans e2).trans e3).trans (Kp.of_same e4)
      refine ⟨kk, r3.same e4, Same.sqT e4 t3, Same.sqT e4 g3, .nil upd_same, ?_, r.trk rd rfl, Nat.zero_le _⟩
      rcases kp_fresh ((e1.trans e2).trans e3) (fun a ha => by rw [ha]; exact ⟨_, h⟩) hL with z | z
      · exact z
      · exact absurd hL (z ▸ r3.trk rd rfl)
    have fin : ∀ k' b' ps H', ROne z k b k' b' (.mk nm.1 nm.2 hd.1 hd.2 ps) → Got K H H' C rd z k' b' an ah L nm hd ps →
        tRet (tTup (tCons (tC (V.str "by")) (tCons (tVar 1) (tCons (tVar 2) (tCons (tVar 3) tNil))))) { nx := fun _ H' => Q .non H', rt := Q } [some (.ref rd), some (.ref an), some (.ref ah), some (.ref L)] H' := fun k' b' ps H' o g => by
      refine ⟨_, rfl, _, rfl, _, rfl, (by show 4 ≤ sizeLine; decide), fun t ht => ?_⟩
      obtain ⟨fp, n1, n2, n3⟩ := g.tell ht
      exact q _ fp _ k' b' _ o n2 n3 n1
    refine ⟨_, _, rfl, ?_⟩
    have fw1 := rdName_fwd z k b
    have fw2 := rdNeed_fwd 32 z k1 b1
    have fw3 := rdHead_fwd z k2 b2
    rw [w1] at fw1
    rw [w2] at fw2
    rw [w3] at fw3
    dsimp only at fw1 fw2 fw3
    refine rd_test c (d := 40) rfl rfl G.r hz (fun hn => ?_) (fun hb3 h40 => ?_)
    · exact fin k3 b3 [] _ (.leaf w1 w2 w3 hn) G
    subst hb3
    have s3 := head_sound (hm := hd.1) (ht := hd.2) w3
    have s2b := s3.1
    subst s2b
    obtain ⟨s1b, s2c, s2k⟩ := rdNeed_ok w2
    subst s1b
    have s1 := name_sound (m := nm.1) (e := nm.2) w1
    have hb' : b = false := s1.1
    have l3 : k3 < z.length := by
      rcases Nat.lt_or_ge k3 z.length with l | l
      · exact l
      · rw [List.getElem?_eq_none_iff.mpr l] at h40; cases h40
    have hzk : z.length ≤ k + 6 * m := hb.resolve_left (fun x => by rw [hb'] at x; cases x)
    have k6 : k + 5 ≤ k3 := by have := s1.2.2.1; have := s3.2.2.1; omega
    have m1 : 1 ≤ m := by omega
    refine rd_need (d := 40) rfl rfl G.r hz fun H5 e5 r5 => ?_
    have e40 : rdNeed 40 z k3 false = (k3 + 1, false) := if_pos ⟨rfl, h40⟩
    rw [e40] at r5
    have G5 := G.step e5 r5 (Nat.le_succ _)
    refine rd_app (m := m - 1) rfl rfl G5 hz (by omega) (.inr (by omega)) (by show 1 ≤ k3 + 1; omega) (by show 0 < sizeLine; decide) fun p k5 b5 H6 o5 G6 => ?_
    have f5 := o5.fwd
    -- the loop
    refine ⟨fun σ' H' => σ' = [some (.ref rd), some (.ref an), some (.ref ah), some (.ref L)] ∧ ∃ ps k6 b6, RMore z k5 b5 k6 b6 ps ∧ Got K H H' C rd z k6 b6 an ah L nm hd (p :: ps), ?_, ?_⟩
    · refine ⟨fun l σ' H' => σ' = [some (.ref rd), some (.ref an), some (.ref ah), some (.ref L)] ∧ ∃ ps k6 b6, l = z.length - k6 ∧ k5 ≤ k6 ∧ (∀ k' b' qs, RMore z k6 b6 k' b' qs → RMore z k5 b5 k' b' (ps ++ qs)) ∧ Got K H H' C rd z k6 b6 an ah L nm hd (p :: ps), ⟨_, rfl, [], k5, b5, rfl, Nat.le_refl _, fun k' b' qs h => h, G6⟩, ?_⟩
      rintro l σ' H' ⟨rfl, ps, k6, b6, rfl, l6, hmore, G7⟩
      refine rd_test c (d := 44) rfl rfl G7.r hz (fun hn => ite_f rfl ⟨rfl, ps, k6, b6, by have := hmore k6 b6 [] (.stop hn); rwa [List.append_nil] at this, G7⟩) (fun hb6 h44 => ite_t rfl ?_)
      subst hb6
      have l7 : k6 < z.length := by
        rcases Nat.lt_or_ge k6 z.length with l | l
        · exact l
        · rw [List.getElem?_eq_none_iff.mpr l] at h44; cases h44
      refine ⟨fun σ2 H2 => σ2 = [some (.ref rd), some (.ref an), some (.ref ah), some (.ref L)] ∧ ∃ q k8 b8, k6 < k8 ∧ (∀ k' b' qs, RMore z k8 b8 k' b' qs → RMore z k6 false k' b' (q :: qs)) ∧ Got K H H2 C rd z k8 b8 an ah L nm hd (p :: (ps ++ [q])), ?_, ?_⟩
      · rintro σ2 H2 ⟨rfl, q, k8, b8, l8, hm8, G8⟩
        refine ⟨_, (by omega), rfl, ps ++ [q], k8, b8, rfl, by omega, fun k' b' qs h => ?_, G8⟩
        rw [List.append_assoc]
        exact hmore k' b' (q :: qs) (hm8 k' b' qs h)
      refine rd_need (d := 44) rfl rfl G7.r hz fun H8 e8 r8 => ?_
      have e44 : rdNeed 44 z k6 false = (k6 + 1, false) := if_pos ⟨rfl, h44⟩
      rw [e44] at r8
      have G8 := G7.step e8 r8 (Nat.le_succ _)
      refine rd_need (d := 32) rfl rfl G8.r hz fun H9 e9 r9 => ?_
      have f9 := rdNeed_fwd 32 z (k6 + 1) false
      generalize e32 : rdNeed 32 z (k6 + 1) false = x9 at *
      obtain ⟨k9, b9⟩ := x9
      dsimp only at f9
      have G9 := G8.step e9 r9 f9
      have lp : (p :: ps).length ≤ k6 := G7.len
      refine rd_app (m := m - 1) rfl rfl G9 hz (by omega) (.inr (by omega)) (by show (p :: ps).length + 1 ≤ k9; omega) (Nat.lt_of_le_of_lt (Nat.le_trans lp (Nat.le_of_lt (Nat.lt_of_lt_of_le l7 hz))) (by decide)) fun p2 k10 b10 H10 o10 G10 => ?_
      have f10 := o10.fwd
      exact ⟨rfl, p2, k10, b10, by omega, fun k' b' qs h => .go h44 e32 o10 h, G10⟩
    · rintro σ' H' ⟨rfl, ps, k6, b6, hm6, G7⟩
      refine rd_need (d := 41) rfl rfl G7.r hz fun H8 e8 r8 => ?_
      have f8 := rdNeed_fwd 41 z k6 b6
      generalize e41 : rdNeed 41 z k6 b6 = x8 at *
      obtain ⟨k8, b8⟩ := x8
      exact fin k8 b8 (p :: ps) _ (.node w1 w2 w3 h40 o5 hm6 e41) (G7.step e8 r8 f8)
end
end K54
set_option Elab.async false
set_option linter.all false
set_option maxRecDepth 100000
set_option maxHeartbeats 4000000
namespace K54
open PySem PySem.Spec PyProof.Rows L2 C8 RZ LiI SX
section
variable {P : Program} {w : World} {K : PySem.W.Frag} {mg : Str → Option Value} {base : Heap} {aW aN C CT : Addr}
theorem ok_rone (D : MetD K C "read_one" "BookReader.read_one" s_BookReader_read_one ["self"]) (c : RdC K C) (C_BookReader_sign : Met P w K mg base 1 C "sign" (sp_rsign C) []) (C_BookReader_need : Met P w K mg base 2 C "need" (sp_rneed C) [])
    (C_BookReader_read_name : Met P w K mg base 3 C "read_name" (sp_rname K C) []) (C_BookReader_head : Met P w K mg base 3 C "head" (sp_rhead K C) []) : ∀ n, Met P w K mg base (n + 3) C "read_one" (sp_rone K C n) []
  | 0 => by
    have no : ∀ vs H Q E, ¬ sp_rone K C 0 vs H Q E := fun vs H Q E h => by
      obtain ⟨rd, z, k, b, m, _, _, _, hm, _⟩ := h
      cases hm
    obtain ⟨f, fd, c1, me, F, b⟩ := D.ex
    exact ⟨f, fd, _, [], c1, me, ⟨fun vs H Q E z => absurd z (no vs H Q E), fun A outer s H args us vs Q E _ _ _ _ z => absurd z (no vs H Q E)⟩, b, .nil⟩
  | n + 1 => ok_rone1 D c C_BookReader_sign C_BookReader_need C_BookReader_read_name C_BookReader_head (ok_rone D c C_BookReader_sign C_BookReader_need C_BookReader_read_name C_BookReader_head n)
/-- what is told of a text -/
def resD (z : List Nat) (k : Nat) (b : Bool) (p : Bk) : Dt := if b = true ∨ k < z.length then .tup [.str "sign", .int (k : Int)] else .tup [.str "book", dOf p]
abbrev s_read_book : Stmt := top 25
theorem sc_read_book : FnScope ["text", "reader", "book"] ["text"] (fnScope s_read_book) := fnScope_by (by decide +kernel)
def sp_read (K : PySem.W.Frag) (CT : Addr) (n : Nat) : Sp := fun vs H Q E => ∃ v d fp, vs = [v] ∧ Rep K H v d fp ∧
  (∀ x, d = .str x → ∃ z, x = S z ∧ z.length ≤ 6 * n ∧ z.length ≤ 10000 ∧ ∀ k' b' p v' fp' H', ROne z 0 false k' b' p → Same H H' → New K H H' v' (resD z k' b' p) fp' → Q v' H') ∧
  (tyName d ≠ "str" → ∀ dx H', H dx = none → Same H H' → H' dx = some (.xd [("text", v)]) → E (.ref CT) (some dx) H')
theorem ok_read_book {n : Nat} (D : DefB K mg "read_book" s_read_book ["text"]) (B : Bt mg) (c : RdC K C) (C_need_text : CalX P w K mg base 3 "need_text" ["text"] (sp_need K CT)) (C_BookReader : Mak P w K mg base 1 "BookReader" C (sp_rinit C) []) (C_BookReader_read_one : Met P w K mg base (n + 4) C "read_one" (sp_rone K C (n + 1)) []) :
    CalX P w K mg base (n + 5) "read_book" ["text"] (sp_read K CT n) := by
  have sc := sc_read_book
  refine D.calX sc (fun vs H Q E h => ?_) (fun f cdv A outer s H vs Q E hr h => ?_)
  · obtain ⟨v, d, fp, rfl, _⟩ := h
    rfl
  · obtain ⟨v, d, fp, rfl, r, k1, k2⟩ := h
    refine ⟨_, (pss_cons (ps_expr (pe_cS C_need_text hr (by omega) rfl (fun σ => passAt (takes_of rfl rfl rfl rfl) σ) (pa_cons (pv 0) pa_nil)))
  (pss_cons (ps_set (i := 1) sc.nd rfl (Or.inl rfl) (pe_mk C_BookReader hr (by omega) rfl (pa_cons (pv 0) pa_nil)))
  (pss_cons (ps_set (i := 2) sc.nd rfl (Or.inl rfl) (pe_mt0 C_BookReader_read_one hr (by omega) (pv 1)))
  (pss_cons (ps_if (PW.pt (pw_or (pt_val (pe_fld (pv 1) rfl)) (pw_or1 (pt_cmpR op_lt (pe_fld (pv 1) rfl) (pe_callB call_len_str rfl B.len (by decide +kernel) (pa_cons (pv 0) pa_nil)) (nomark _))))) (pss_one (ps_ret (pe_tup (pa_cons pe_str (pa_cons (pe_fld (pv 1) rfl) pa_nil))))) pss_nil)
  (pss_one (ps_ret (pe_tup (pa_cons pe_str (pa_cons (pv 2) pa_nil))))))))), ?_⟩
    refine ⟨_, rfl, v, d, fp, rfl, r, fun hs => ?_, fun hn dx H' h1 h2 h3 => k2 hn dx H' h1 h2 h3⟩
    have hd : ∃ x, d = .str x := by
      cases d with
      | str x => exact ⟨x, rfl⟩
      | non => exact absurd hs (by decide)
      | bl b => exact absurd hs (by simp [tyName])
      | int b => exact absurd hs (by simp [tyName])
      | lst b => exact absurd hs (by simp [tyName])
      | tup b => exact absurd hs (by simp [tyName])
      | emp => exact absurd hs (by decide)
    obtain ⟨x, rfl⟩ := hd
    obtain ⟨z, rfl, z1, z2, q⟩ := k1 x rfl
    cases r
    refine ⟨_, rfl, fun rd dx h1 h2 nx => ⟨rd, dx, z, rfl, upd_same, fun H1 e1 r1 => ⟨rfl, ?_⟩⟩⟩
    have e0 : Same H (upd (upd H dx (.own rd)) rd (.ins C dx [])) := (same_new h2 _).trans (same_new (by rw [upd_ne nx.symm]; exact h1) _)
    have e1' : Same H H1 := fun a o ea => e1 _ _ (e0 _ _ ea) (fun z => by rw [z, h1] at ea; cases ea)
    obtain ⟨dx1, g1⟩ := r1.ex
    refine ⟨_, rfl, rd, dx1, _, rfl, g1, lk_no z 0 false "read_one" (by decide +kernel) (by decide +kernel) (by decide +kernel), rd, z, 0, false, n, rfl, r1, z2, rfl, .inr (by omega), fun v fp p k' b' H2 o e2 r2 nw => ?_⟩
    have e2' : Same H H2 := fun a o ea => e2 _ _ (e1' _ _ ea) (fun z => by rw [z, h1] at ea; cases ea)
    have nw' : ∀ {H3}, Same H2 H3 → New K H H3 v (dOf p) fp := fun e => ⟨nw.rep.same e, fun a ha => e1'.free (nw.fresh a ha), nw.nd⟩
    obtain ⟨dx2, g2⟩ := r2.ex
    have bad : (b' = true ∨ k' < z.length) → tRet (tTup (tCons (tC (V.str "sign")) (tCons (tFld K (tVar 1) "at") tNil))) { nx := fun _ H' => Q V.non H', rt := Q } [some (.str (S z)), some (.ref rd), some v] H2 := fun hb => by
      refine ⟨_, rfl, rd, C, dx2, _, _, rfl, g2, c.cls, c.fa, lk_at z k' b', (by show 2 ≤ sizeLine; decide), fun t ht => ?_⟩
      refine q k' b' p _ [] _ o (e2'.trans (same_new ht _)) ⟨?_, fresh_nil, List.nodup_nil⟩
      unfold resD
      rw [if_pos hb]
      exact .tup (SqT.of upd_same) (.cons (.str _) (.cons (.int _) .nil))
    refine ⟨_, rfl, rd, C, dx2, _, _, rfl, g2, c.cls, c.fs, lk_stuck z k' b', _, rfl, ?_⟩
    cases b' with
    | true => exact ite_t rfl (ite_t rfl (bad (.inl rfl)))
    | false =>
      refine ite_f rfl ⟨_, rfl, rd, C, dx2, _, _, rfl, g2, c.cls, c.fa, lk_at z k' false, _, rfl, S z, rfl, Nat.le_trans z2 (by decide), _, _, rfl, rfl, _, rfl, ?_⟩
      have el : (S z).length = z.length := rfl
      refine ite_dec (fun hlt => bad (.inr (by omega))) (fun hge => ?_)
      refine ⟨_, rfl, (by show 2 ≤ sizeLine; decide), fun t ht => ?_⟩
      refine q k' false p _ fp _ o (e2'.trans (same_new ht _)) ⟨?_, (nw' (same_new ht (.tup [.str "book", v]))).fresh, nw.nd⟩
      unfold resD
      rw [if_neg (fun x => by rcases x with x | x; exact nomatch x; omega)]
      have z3 := Reps.cons (Rep.str (K := K) (H := upd H2 t (.tup [.str "book", v])) "book") (Reps.one (nw' (same_new ht _)).rep)
      exact .tup (SqT.of upd_same) z3
end
/-! ### law: words and names -/
section
variable {P : Program} {w : World} {K : PySem.W.Frag} {mg : Str → Option Value} {base : Heap} {aW aN C CT : Addr}
def ALN : Str := "abcdefghijklmnopqrstuvwxyzABCDEFGHIJKLMNOPQRSTUVWXYZ0123456789"
theorem in_ALN (c : Nat) : decide (c ∈ ALN.cps.toList) = aln c := by
  have e : ALN.cps.toList = LET.cps.toList ++ (GRE.cps.toList ++ FIG.cps.toList) := by decide +kernel
  rw [e, show decide (c ∈ LET.cps.toList ++ (GRE.cps.toList ++ FIG.cps.toList)) = (decide (c ∈ LET.cps.toList) || (decide (c ∈ GRE.cps.toList) || decide (c ∈ FIG.cps.toList))) by simp only [List.mem_append, Bool.decide_or], in_LET, in_GRE, in_FIG]
  rfl
abbrev s_o_signs : Stmt := top 38
theorem sc_o_signs : FnScope [] [] (fnScope s_o_signs) := fnScope_by (by decide +kernel)
def sp_osigns : Sp := fun vs H Q _ => vs = [] ∧ Q (.str ALN) H
theorem ok_osigns (D : DefB K mg "_law_o_signs" s_o_signs []) : Cal P w K mg base 1 "_law_o_signs" sp_osigns [] := by
  have sc := sc_o_signs
  refine D.cal sc (fun vs H Q E h => ?_) (fun f cdv A outer s H vs Q E hr h => ?_)
  · obtain ⟨rfl, _⟩ := h
    rfl
  · obtain ⟨rfl, q⟩ := h
    exact ⟨_, (pss_one (ps_ret pe_str)), q⟩
abbrev s_o_word : Stmt := top 39
theorem sc_o_word : FnScope ["text", "at", "firsts", "end"] ["text", "at", "firsts"] (fnScope s_o_word) := fnScope_by (by decide +kernel)
/-- the signs that a word may begin with -/
def FSt (fs : Str) : Prop := fs = LET ∨ fs = GRE
abbrev cInst : List Nat := [105, 110, 115, 116, 97, 110, 99, 101]
theorem words8 : ∀ w ∈ words, w.length = 8 → w = S cInst := by decide +kernel
theorem inst_iff (z : List Nat) (k : Nat) : (z.drop k).take 8 = cInst ↔ (min (run z k) 8 = 8 ∧ words.contains (S (wd z k)) = true) := by
  constructor
  · intro h
    have h1 : z.drop k = cInst ++ z.drop (k + 8) := by
      have e := drop_split z k 8
      rw [h] at e
      exact e
    have h2 : 8 ≤ run z k := by
      unfold run
      rw [h1]
      show 8 ≤ ((105 :: 110 :: 115 :: 116 :: 97 :: 110 :: 99 :: 101 :: z.drop (k + 8)).takeWhile aln).length
      simp only [List.takeWhile_cons, show aln 105 = true from rfl, show aln 110 = true from rfl, show aln 115 = true from rfl, show aln 116 = true from rfl, show aln 97 = true from rfl, show aln 99 = true from rfl, show aln 101 = true from rfl, if_true, List.length_cons]
      omega
    have e : wd z k = cInst := by unfold wd; rw [Nat.min_eq_right h2, h]
    refine ⟨Nat.min_eq_right h2, ?_⟩
    rw [e]
    decide +kernel
  · rintro ⟨h1, h2⟩
    have e : wd z k = (z.drop k).take 8 := by unfold wd; rw [h1]
    have l : (wd z k).length = 8 := by
      have q : run z k ≤ (z.drop k).length := by unfold run; exact (List.takeWhile_sublist _).length_le
      rw [e, List.length_take]
      omega
    have q := words8 (S (wd z k)) (List.contains_iff_mem.mp h2) l
    rw [← e]
    exact S_inj q
def sp_oword (K : PySem.W.Frag) : Sp := fun vs H Q _ => ∃ z k fs, vs = [.str (S z), .int (k : Nat), .str fs] ∧ FSt fs ∧ z.length ≤ 10000 ∧
  ∀ a H', Same H H' → SqT K H' a [.int ((rdWord fs z k false).1 : Nat), .bl (rdWord fs z k false).2.1] → Q (.ref a) H'
theorem ok_oword (D : DefB K mg "_law_o_word" s_o_word ["text", "at", "firsts"]) (B : Bt mg) (C_law_o_signs : Cal P w K mg base 1 "_law_o_signs" sp_osigns []) : Cal P w K mg base 2 "_law_o_word" (sp_oword K) [] := by
  have sc := sc_o_word
  refine D.cal sc (fun vs H Q E h => ?_) (fun f cdv A outer s H vs Q E hr h => ?_)
  · obtain ⟨z, k, fs, rfl, _⟩ := h
    rfl
  · obtain ⟨z, k, fs, rfl, hf, hz, q⟩ := h
    refine ⟨_, (pss_cons (ps_set (i := 3) sc.nd rfl (Or.inl rfl) (pv 1))
  (pss_cut (ps_if (PW.pt (pw_and (pt_cmpR op_in_sign pe_str (pv 2) rfl) (pw_and1 (pt_cmpR op_eq (pe_slice sl_str (pv 0) (po_some (pv 1)) (po_some (pe_op op_add (pv 1) pe_int))) pe_str (nomark _))))) (pss_one (ps_ret (pe_tup (pa_cons (pe_op op_add (pv 1) pe_int) (pa_cons pe_bl pa_nil))))) pss_nil)
  (pss_cut (ps_while PassesOwn.never (PW.pt (pw_and (pt_cmpR op_lt (pv 3) (pe_callB call_len_str rfl B.len (by decide +kernel) (pa_cons (pv 0) pa_nil)) (nomark _)) (pw_and (pt_cmpR op_lt (pe_op op_sub (pv 3) (pv 1)) pe_int (nomark _)) (pw_and (pt_cmpR op_in_sign (pe_ix ix_str (pv 0) (pv 3) (fun _ _ => rfl)) (pe_c0 C_law_o_signs hr (by omega) rfl) rfl) (pw_and1 (PW.pt (pw_or (pt_cmpR op_gt (pv 3) (pv 1) (nomark _)) (pw_or1 (pt_cmpR op_in_sign (pe_ix ix_str (pv 0) (pv 3) (fun _ _ => rfl)) (pv 2) rfl))))))))) (pss_one (ps_set (i := 3) sc.nd rfl (Or.inl rfl) (pe_op op_add (pv 3) pe_int))))
  (pss_one (ps_ret (pe_tup (pa_cons (pe_callB (call_min2 rfl) rfl B.min (by decide +kernel) (pa_cons (pv 3) (pa_cons (pe_op op_add (pv 1) pe_int) pa_nil))) (pa_cons (pe_or (pe_cmpR op_eq (pv 3) (pv 1) (nomark _)) (pe_one (pe_cmpR op_eq (pe_op op_sub (pv 3) (pv 1)) pe_int (nomark _)))) pa_nil)))))))), ?_⟩
    have fin : ∀ k' b' w t, H t = none → rdWord fs z k false = (k', b', w) → Q (.ref t) (upd H t (.tup [.int (k' : Nat), .bl b'])) := fun k' b' w t ht e => by
      have z1 := q t (upd H t (.tup [.int (k' : Nat), .bl b'])) (same_new ht _)
      rw [e] at z1
      exact z1 (SqT.of upd_same)
    have hfst : Fst fs := by rcases hf with e | e <;> rw [e]; exact fst_LET; exact fst_GRE
    -- behind the look for instance
    have main : ¬ (begins fs z k = true ∧ min (run z k) 8 = 8 ∧ words.contains (S (wd z k)) = true) → ∀ k' b', k' = k + min (if begins fs z k = true then min (run z k) 9 else 0) 8 → b' = (decide ((if begins fs z k = true then min (run z k) 9 else 0) = 0) || decide ((if begins fs z k = true then min (run z k) 9 else 0) = 9)) → ∃ w, rdWord fs z k false = (k', b', w) := fun hn k' b' e1 e2 => by
      subst e1 e2
      cases hb : begins fs z k with
      | false =>
        refine ⟨[], ?_⟩
        unfold rdWord
        rw [if_neg (fun x => by rw [hb] at x; exact nomatch x.2)]
        rfl
      | true =>
        refine ⟨wd z k, ?_⟩
        have rp := run_pos hfst hb
        unfold rdWord
        rw [if_pos ⟨rfl, hb⟩, if_neg (fun x => hn ⟨hb, x⟩), if_pos rfl]
        have e3 : min (min (run z k) 9) 8 = min (run z k) 8 := by omega
        rw [e3, decide_eq_false (show ¬ min (run z k) 9 = 0 by omega), Bool.false_or]
        congr 2
        exact decide_eq_decide.mpr (by omega)
    have hlen : (S z).length = z.length := rfl
    have h105 : fs = GRE → begins fs z k = true ∧ min (run z k) 8 = 8 ∧ words.contains (S (wd z k)) = true → False := fun e h => by
      subst e
      obtain ⟨h1, h2, h3⟩ := h
      have e := (inst_iff z k).mpr ⟨h2, h3⟩
      obtain ⟨d, c1, c2⟩ := begins_iff.mp h1
      rw [get_drop] at c1
      cases ez : z.drop k with
      | nil => rw [ez] at c1; cases c1
      | cons a l =>
        rw [ez] at c1 e
        have ea : a = d := Option.some.inj c1
        rw [List.take_succ_cons] at e
        have e2 := (List.cons.inj e).1
        rw [← ea, e2, in_GRE] at c2
        exact absurd c2 (by decide)
    refine ⟨_, rfl, ?_⟩
    refine ⟨fun σ' H' => σ' = [some (.str (S z)), some (.int (k : Nat)), some (.str fs), some (.int (k : Nat))] ∧ H' = H ∧ ¬ (begins fs z k = true ∧ min (run z k) 8 = 8 ∧ words.contains (S (wd z k)) = true), ?_, ?_⟩
    · refine ⟨_, rfl, 105, fs, rfl, rfl, _, rfl, ite_b (fun hi => ?_) (fun hi => ?_)⟩
      rotate_left
      · refine ite_f rfl ⟨rfl, rfl, h105 ?_⟩
        rcases hf with e | e
        · rw [e] at hi
          exact absurd hi (by decide +kernel)
        · exact e
      have ef : fs = LET := by
        rcases hf with e | e
        · exact e
        · rw [e] at hi
          exact absurd hi (by decide +kernel)
      have ee : cutS (S z) (some (k : Int)) (some ((k : Int) + 8)) = S ((z.drop k).take 8) := by
        have e := cutS_nat z k (k + 8)
        rw [show k + 8 - k = 8 by omega] at e
        exact e
      refine ⟨_, rfl, _, rfl, _, rfl, _, rfl, _, _, rfl, rfl, _, rfl, S z, rfl, Nat.le_trans hz (by decide), ?_⟩
      rw [ee]
      refine ⟨rfl, _, rfl, ?_⟩
      by_cases hin : (z.drop k).take 8 = cInst
      · rw [show decide (V.str (S ((z.drop k).take 8)) = V.str "instance") = true from decide_eq_true (by rw [hin]; rfl)]
        obtain ⟨i1, i2⟩ := (inst_iff z k).mp hin
        have hb : begins fs z k = true := by
          refine begins_iff.mpr ⟨105, ?_, by rw [ef]; decide +kernel⟩
          rw [get_drop]
          cases ez : z.drop k with
          | nil => rw [ez] at hin; cases hin
          | cons a l =>
            rw [ez, List.take_succ_cons] at hin
            rw [(List.cons.inj hin).1]
            rfl
        refine ite_t rfl ⟨_, rfl, _, _, rfl, rfl, (by show 2 ≤ sizeLine; decide), fun t ht => ?_⟩
        refine fin (k + 7) true (wd z k) t ht ?_
        unfold rdWord
        rw [if_pos ⟨rfl, hb⟩, if_pos ⟨i1, i2⟩]
      · rw [show decide (V.str (S ((z.drop k).take 8)) = V.str "instance") = false from decide_eq_false (fun e => hin (S_inj (V.str.inj e)))]
        exact ite_f rfl ⟨rfl, rfl, fun h => hin ((inst_iff z k).mpr h.2)⟩
    · rintro σ' H' ⟨rfl, rfl, hn⟩
      have main' := main hn
      generalize eJ : (if begins fs z k = true then min (run z k) 9 else 0) = J at main'
      refine ⟨fun σ' H2 => σ' = [some (.str (S z)), some (.int (k : Nat)), some (.str fs), some (.int ((k + J : Nat) : Int))] ∧ H2 = H', ?_, ?_⟩
      · refine ⟨fun l σ' H2 => ∃ j, l = run z k - j ∧ j ≤ run z k ∧ j ≤ 9 ∧ (0 < j → begins fs z k = true) ∧ σ' = [some (.str (S z)), some (.int (k : Nat)), some (.str fs), some (.int ((k + j : Nat) : Int))] ∧ H2 = H', ⟨_, 0, rfl, Nat.zero_le _, by decide, fun h => absurd h (by decide), rfl, rfl⟩, ?_⟩
        rintro l σ' H2 ⟨j, rfl, hj, hj9, hjb, rfl, rfl⟩
        have out : J = j → [some (V.str (S z)), some (V.int (k : Nat)), some (V.str fs), some (V.int ((k + j : Nat) : Int))] = [some (.str (S z)), some (.int (k : Nat)), some (.str fs), some (.int ((k + J : Nat) : Int))] ∧ H2 = H2 := fun e => by rw [e]; exact ⟨rfl, rfl⟩
        refine ⟨_, rfl, _, rfl, S z, rfl, Nat.le_trans hz (by decide), _, _, rfl, rfl, _, rfl, ?_⟩
        cases hc : z[k + j]? with
        | none =>
          have hge := List.getElem?_eq_none_iff.mp hc
          rw [decide_eq_false (by omega)]
          refine ite_f rfl (ite_f rfl (out ?_))
          have er := run_end hj hc
          rw [← eJ]
          by_cases j0 : 0 < j
          · rw [if_pos (hjb j0)]; omega
          · have e0 : j = 0 := by omega
            subst e0
            have nb : ¬ begins fs z k = true := fun h => by have := run_pos hfst h; omega
            rw [if_neg nb]
        | some d =>
        have hlt := (List.getElem?_eq_some_iff.mp hc).1
        rw [decide_eq_true (by omega)]
        refine ite_t rfl ⟨_, rfl, _, rfl, _, _, rfl, rfl, _, _, rfl, rfl, _, rfl, ite_dec (fun h9 => ?_) (fun h9 => ?_)⟩
        rotate_left
        · have e9 : j = 9 := by omega
          refine ite_f rfl (out ?_)
          rw [← eJ, if_pos (hjb (by omega))]
          omega
        refine ⟨_, rfl, _, rfl, S z, _, d, rfl, rfl, Nat.le_trans hz (by decide), atI_nat (j := k + j) hc, rfl, d, ALN, rfl, rfl, _, rfl, ?_⟩
        rw [in_ALN]
        obtain ⟨st1, st2⟩ := run_step hj hc
        refine ite_b (fun ha => ?_) (fun ha => ?_)
        rotate_left
        · refine ite_f rfl (out ?_)
          have er := st2 ha
          rw [← eJ]
          by_cases j0 : 0 < j
          · rw [if_pos (hjb j0)]; omega
          · have e0 : j = 0 := by omega
            subst e0
            have nb : ¬ begins fs z k = true := fun h => by have := run_pos hfst h; omega
            rw [if_neg nb]
        have e1 : (((k + j : Nat) : Int) + 1) = ((k + (j + 1) : Nat) : Int) := by omega
        refine ⟨_, rfl, _, rfl, _, _, rfl, rfl, _, rfl, ite_dec (fun hp => ?_) (fun hp => ?_)⟩
        · refine ite_t rfl ⟨fun σ2 H3 => σ2 = [some (.str (S z)), some (.int (k : Nat)), some (.str fs), some (.int ((k + (j + 1) : Nat) : Int))] ∧ H3 = H2, fun σ2 H3 h => ⟨_, (by have := st1 ha; omega), j + 1, rfl, st1 ha, by omega, fun _ => hjb (by omega), h.1, h.2⟩, _, rfl, _, _, rfl, rfl, ?_, rfl⟩
          rw [← e1]
          rfl
        have e0 : j = 0 := by omega
        subst e0
        refine ⟨_, rfl, _, rfl, S z, _, d, rfl, rfl, Nat.le_trans hz (by decide), atI_nat (j := k + 0) hc, _, rfl, d, fs, rfl, rfl, _, rfl, ite_b (fun hd => ?_) (fun hd => ?_)⟩
        · have hb : begins fs z k = true := begins_iff.mpr ⟨d, hc, hd⟩
          refine ⟨fun σ2 H3 => σ2 = [some (.str (S z)), some (.int (k : Nat)), some (.str fs), some (.int ((k + (0 + 1) : Nat) : Int))] ∧ H3 = H2, fun σ2 H3 h => ⟨_, (by have := st1 ha; omega), 1, rfl, st1 ha, by omega, fun _ => hb, h.1, h.2⟩, _, rfl, _, _, rfl, rfl, ?_, rfl⟩
          rw [← e1]
          rfl
        · refine out ?_
          rw [← eJ, if_neg (fun hb => ?_)]
          obtain ⟨d', c1, c2⟩ := begins_iff.mp hb
          rw [show z[k]? = some d from hc] at c1
          rw [← Option.some.inj c1, hd] at c2
          cases c2
      · rintro σ' H2 ⟨rfl, rfl⟩
        have fin' : ∀ t b', H2 t = none → b' = (decide (J = 0) || decide (J = 9)) → Q (.ref t) (upd H2 t (.tup [V.int (if (k : Int) + 8 < ((k + J : Nat) : Int) then (k : Int) + 8 else ((k + J : Nat) : Int)), .bl b'])) := fun t b' ht eb => by
          obtain ⟨w, e⟩ := main' _ _ rfl eb
          have q1 := fin _ _ w t ht e
          rw [show (if (k : Int) + 8 < ((k + J : Nat) : Int) then (k : Int) + 8 else ((k + J : Nat) : Int)) = ((k + min J 8 : Nat) : Int) by split <;> omega]
          exact q1
        refine ⟨_, rfl, _, rfl, _, _, rfl, rfl, _, _, rfl, ?_⟩
        refine ⟨_, rfl, _, rfl, rfl, _, rfl, ite_dec (fun e => ?_) (fun e => ?_)⟩
        · have e' : ((k + J : Nat) : Int) = (k : Int) := V.int.inj e
          exact ⟨(by show 2 ≤ sizeLine; decide), fun t ht => fin' t true ht (by rw [decide_eq_true (show J = 0 by omega)]; rfl)⟩
        · have e' : ((k + J : Nat) : Int) ≠ (k : Int) := fun z => e (congrArg V.int z)
          refine ⟨_, rfl, _, rfl, _, _, rfl, rfl, rfl, (by show 2 ≤ sizeLine; decide), fun t ht => fin' t _ ht ?_⟩
          rw [decide_eq_false (show ¬ J = 0 by omega), Bool.false_or]
          refine decide_eq_decide.mpr ⟨fun z => ?_, fun z => ?_⟩
          · have := V.int.inj z; omega
          · exact congrArg V.int (by omega)
end
end K54
set_option Elab.async false
set_option linter.all false
set_option maxRecDepth 100000
set_option maxHeartbeats 4000000
namespace K54
open PySem PySem.Spec PyProof.Rows L2 C8 RZ LiI SX
theorem cut1 (z : List Nat) (k : Nat) : cutS (S z) (some (k : Int)) (some ((k : Int) + 1)) = sgV z k := by
  have e := cutS_nat z k (k + 1)
  rw [show k + 1 - k = 1 by omega] at e
  exact e
/-- a word that is wrong is not int -/
theorem word_wrong {fs : Str} {z : List Nat} {k k' : Nat} {w : List Nat} (h : rdWord fs z k false = (k', true, w)) : w ≠ cInt := by
  have q : run z k ≤ (z.drop k).length := by unfold run; exact (List.takeWhile_sublist _).length_le
  have lw : (wd z k).length = min (run z k) 8 := by unfold wd; rw [List.length_take]; omega
  unfold rdWord at h
  intro e
  subst e
  split at h
  · split at h
    · rename_i h2
      have e3 := congrArg (fun x => x.2.2.length) h
      have e4 : (wd z k).length = 3 := e3
      omega
    · have e3 := congrArg (fun x => x.2.2.length) h
      have e4 : (wd z k).length = 3 := e3
      have e5 : decide (9 ≤ run z k) = true := congrArg (fun x => x.2.1) h
      have := of_decide_eq_true e5
      omega
  · cases h
section
variable {P : Program} {w : World} {K : PySem.W.Frag} {mg : Str → Option Value} {base : Heap} {aW aN C CT : Addr}
abbrev s_o_name : Stmt := top 40
theorem sc_o_name : FnScope ["text", "at", "is_head", "smalls", "greats", "words", "end", "is_wrong"] ["text", "at", "is_head"] (fnScope s_o_name) := fnScope_by (by decide +kernel)
def rdNm (hd : Bool) (z : List Nat) (k : Nat) : Nat × Bool := if hd = true then ((rdHead z k false).1, (rdHead z k false).2.1) else ((rdName z k false).1, (rdName z k false).2.1)
def sp_oname (K : PySem.W.Frag) : Sp := fun vs H Q _ => ∃ z k hd, vs = [.str (S z), .int (k : Nat), .bl hd] ∧ z.length ≤ 10000 ∧
  ∀ a H', Same H H' → SqT K H' a [.int ((rdNm hd z k).1 : Nat), .bl (rdNm hd z k).2] → Q (.ref a) H'
theorem ok_oname (D : DefB K mg "_law_o_name" s_o_name ["text", "at", "is_head"]) (B : Bt mg) (C_law_o_word : Cal P w K mg base 2 "_law_o_word" (sp_oword K) []) : Cal P w K mg base 3 "_law_o_name" (sp_oname K) [] := by
  have sc := sc_o_name
  refine D.cal sc (fun vs H Q E h => ?_) (fun f cdv A outer s H vs Q E hr h => ?_)
  · obtain ⟨z, k, hd, rfl, _⟩ := h
    rfl
  · obtain ⟨z, k, hd, rfl, hz, q⟩ := h
    refine ⟨_, (pss_cons (ps_asg (pe_tup (pa_cons pe_str (pa_cons pe_str pa_nil))) (pg_tup rfl (pgs_cons (pg_name (i := 3) sc.nd rfl (Or.inl rfl)) (pgs_cons (pg_name (i := 4) sc.nd rfl (Or.inl rfl)) pgs_nil))))
  (pss_cons (ps_set (i := 5) sc.nd rfl (Or.inl rfl) (pe_lst (pa_cons pe_str (pa_cons pe_str (pa_cons pe_str (pa_cons pe_str (pa_cons pe_str (pa_cons pe_str (pa_cons pe_str (pa_cons pe_str (pa_cons pe_str (pa_cons pe_str (pa_cons pe_str (pa_cons pe_str (pa_cons pe_str (pa_cons pe_str (pa_cons pe_str (pa_cons pe_str (pa_cons pe_str pa_nil)))))))))))))))))))
  (pss_cons (ps_asg (pe_c C_law_o_word hr (by omega) rfl (pa_cons (pv 0) (pa_cons (pv 1) (pa_cons (pv 3) pa_nil)))) (pg_tup rfl (pgs_cons (pg_name (i := 6) sc.nd rfl (Or.inl rfl)) (pgs_cons (pg_name (i := 7) sc.nd rfl (Or.inl rfl)) pgs_nil))))
  (pss_cut (ps_if (PW.pt (pw_or (pt_val (pv 7)) (pw_or1 (PW.pt (pw_and (pt_val (pv 2)) (pw_and1 (pt_cmpR op_eq (pe_slice sl_str (pv 0) (po_some (pv 1)) (po_some (pv 6))) pe_str (nomark _)))))))) (pss_one (ps_ret (pe_tup (pa_cons (pv 6) (pa_cons (pv 7) pa_nil))))) pss_nil)
  (pss_cons (ps_if (PW.pt (pw_or (pt_cmpR op_in_seq (pe_slice sl_str (pv 0) (po_some (pv 1)) (po_some (pv 6))) (pv 5) rfl) (pw_or1 (pt_cmpR op_ne (pe_slice sl_str (pv 0) (po_some (pv 6)) (po_some (pe_op op_add (pv 6) pe_int))) pe_str (nomark _))))) (pss_one (ps_ret (pe_tup (pa_cons (pv 6) (pa_cons pe_bl pa_nil))))) pss_nil)
  (pss_one (ps_ret (pe_c C_law_o_word hr (by omega) rfl (pa_cons (pv 0) (pa_cons (pe_op op_add (pv 6) pe_int) (pa_cons (pv 4) pa_nil))))))))))), ?_⟩
    refine ⟨(by show 2 ≤ sizeLine; decide), fun t0 h0 => ⟨t0, _, rfl, SqT.of upd_same, rfl, _, _, rfl, _, _, rfl, rfl, ?_⟩⟩
    have e0 := same_new h0 (.tup [V.str "abcdefghijklmnopqrstuvwxyz", V.str "ABCDEFGHIJKLMNOPQRSTUVWXYZ"])
    refine ⟨(by show 17 ≤ sizeLine; decide), fun L hL => ?_⟩
    have e1 := e0.trans (same_new hL (.lst (words.map V.str)))
    refine ⟨_, rfl, _, rfl, _, rfl, z, k, LET, rfl, .inl rfl, hz, fun t1 H1 e2 s1 => ⟨t1, _, rfl, s1, rfl, _, _, rfl, _, _, rfl, rfl, ?_⟩⟩
    have e3 := e1.trans e2
    have hW : SqL K H1 L (words.map V.str) := sqL_same e2 (SqL.of upd_same)
    generalize ew : rdWord LET z k false = x1 at *
    obtain ⟨k1, b1, m⟩ := x1
    have told : ∀ {k' b' H2 t}, Same H1 H2 → H2 t = none → (rdNm hd z k).1 = k' → (rdNm hd z k).2 = b' → Q (.ref t) (upd H2 t (.tup [.int (k' : Nat), .bl b'])) := fun {k' b' H2 t} e ht h1 h2 => by
      refine q t _ ((e3.trans e).trans (same_new ht _)) ?_
      rw [h1, h2]
      exact SqT.of upd_same
    have sl : cutS (S z) (some (k : Int)) (some (k1 : Int)) = S ((z.drop k).take (k1 - k)) := cutS_nat z k k1
    have nmw : b1 = true → rdName z k false = (k1, true, m, []) := fun e => by
      unfold rdName
      rw [ew, e]
      simp only [Bool.true_or, rdNeed_stuck, rdWord_stuck]
    refine ⟨fun σ' H' => σ' = [some (.str (S z)), some (.int (k : Nat)), some (.bl hd), some (.str LET), some (.str GRE), some (.ref L), some (.int (k1 : Nat)), some (.bl false)] ∧ H' = H1 ∧ b1 = false ∧ (hd = true → m ≠ cInt), ?_, ?_⟩
    · refine ⟨_, rfl, _, rfl, ite_b (fun hb => ?_) (fun hb => ?_)⟩
      · have eb : b1 = true := hb
        subst eb
        refine ite_t rfl ⟨_, rfl, _, rfl, (by show 2 ≤ sizeLine; decide), fun t ht => told (Same.refl _) ht ?_ ?_⟩
        all_goals
          unfold rdNm rdHead
          rw [ew, if_neg (word_wrong ew), nmw rfl]
          cases hd <;> rfl
      have eb : b1 = false := hb
      subst eb
      obtain ⟨_, w2, w3, w4, w5⟩ := rdWord_ok ew
      have em : (z.drop k).take (k1 - k) = m := by rw [w4, show k + run z k - k = run z k by omega, w5]
      have ei : decide (V.str (S m) = V.str "int") = decide (m = cInt) := decide_eq_decide.mpr ⟨fun e => S_inj (V.str.inj e), fun e => by rw [e]; rfl⟩
      refine ⟨_, rfl, _, rfl, ?_⟩
      cases hd with
      | false => exact ite_f rfl (ite_f rfl ⟨rfl, rfl, rfl, fun h => nomatch h⟩)
      | true =>
        refine ite_t rfl ⟨_, rfl, _, rfl, _, rfl, _, rfl, _, rfl, S z, rfl, Nat.le_trans hz (by decide), ?_⟩
        rw [show cutS (S z) (some (k : Int)) (some (((k1, false, m).1 : Nat) : Int)) = S m from by rw [← em]; exact sl]
        refine ⟨rfl, _, rfl, ?_⟩
        rw [ei]
        refine ite_dec (fun e => ?_) (fun e => ⟨rfl, rfl, rfl, fun _ => e⟩)
        refine ⟨_, rfl, _, rfl, (by show 2 ≤ sizeLine; decide), fun t ht => told (Same.refl _) ht ?_ ?_⟩
        all_goals
          unfold rdNm rdHead
          rw [ew, if_pos e]
          rfl
    · rintro σ' H' ⟨rfl, rfl, rfl, hm⟩
      obtain ⟨_, w2, w3, w4, w5⟩ := rdWord_ok ew
      have em : (z.drop k).take (k1 - k) = m := by rw [w4, show k + run z k - k = run z k by omega, w5]
      have enm : rdNm hd z k = ((rdName z k false).1, (rdName z k false).2.1) := by
        unfold rdNm
        cases hd with
        | false => rfl
        | true =>
          unfold rdHead
          rw [ew, if_neg (hm rfl)]
          rfl
      have bad : rdNeed 46 z k1 (false || words.contains (S m)) = (k1, true) → ∀ t H2, Same H' H2 → H2 t = none → Q (.ref t) (upd H2 t (.tup [.int (k1 : Nat), .bl true])) := fun e t H2 e2 ht => by
        refine told e2 ht ?_ ?_
        all_goals
          rw [enm]
          unfold rdName
          rw [ew]
          simp only [e, rdWord_stuck]
      refine ⟨_, rfl, _, rfl, _, rfl, _, rfl, _, rfl, S z, rfl, Nat.le_trans hz (by decide), ?_⟩
      rw [sl, em]
      refine ⟨_, rfl, L, _, rfl, .inl hW, rfl, flat_strs _, _, rfl, ?_⟩
      rw [in_words]
      refine ite_b (fun hw => ?_) (fun hw => ?_)
      · refine ite_t rfl ⟨_, rfl, (by show 2 ≤ sizeLine; decide), fun t ht => bad ?_ t _ (Same.refl _) ht⟩
        rw [hw]
        exact rdNeed_stuck 46 z k1
      refine ⟨_, rfl, _, rfl, _, rfl, _, rfl, _, _, rfl, rfl, _, rfl, S z, rfl, Nat.le_trans hz (by decide), ?_⟩
      rw [cut1]
      refine ⟨rfl, _, rfl, ?_⟩
      rw [show decide (V.str (sgV z k1) = V.str ".") = decide (z[k1]? = some 46) from sgV_is]
      by_cases h46 : z[k1]? = some 46
      rotate_left
      · rw [decide_eq_false h46]
        refine ite_t rfl ⟨_, rfl, (by show 2 ≤ sizeLine; decide), fun t ht => bad ?_ t _ (Same.refl _) ht⟩
        exact if_neg (fun x => h46 x.2)
      rw [decide_eq_true h46]
      refine ite_f rfl ⟨_, rfl, _, rfl, _, _, rfl, rfl, _, rfl, z, k1 + 1, GRE, ?_, .inr rfl, hz, fun t2 H2 e4 s2 => ?_⟩
      · rfl
      refine q t2 H2 (e3.trans e4) ?_
      have e5 : rdNeed 46 z k1 (false || words.contains (S m)) = (k1 + 1, false) := if_pos ⟨(by rw [hw]; rfl), h46⟩
      have e6 : rdName z k false = ((rdWord GRE z (k1 + 1) false).1, (rdWord GRE z (k1 + 1) false).2.1, m, (rdWord GRE z (k1 + 1) false).2.2) := by
        unfold rdName
        rw [ew]
        dsimp only
        rw [e5]
      rw [enm, e6]
      exact s2
/-! ### the end of a book's text -/
abbrev s_o_end : Stmt := top 41
theorem sc_o_end : FnScope ["text", "at", "is_wrong"] ["text", "at"] (fnScope s_o_end) := fnScope_by (by decide +kernel)
def sp_oend (K : PySem.W.Frag) (n : Nat) : Sp := fun vs H Q _ => ∃ z k m, vs = [.str (S z), .int (k : Nat)] ∧ z.length ≤ 10000 ∧ m + 1 = n ∧ z.length ≤ k + 6 * m ∧
  ∀ a k' b' p H', ROne z k false k' b' p → Same H H' → SqT K H' a [.int (k' : Nat), .bl b'] → Q (.ref a) H'
theorem ok_oend1 {n : Nat} (D : DefB K mg "_law_o_end" s_o_end ["text", "at"]) (B : Bt mg) (C_law_o_name : Cal P w K mg base 3 "_law_o_name" (sp_oname K) []) (C_law_o_end : Cal P w K mg base (n + 3) "_law_o_end" (sp_oend K n) []) : Cal P w K mg base (n + 4) "_law_o_end" (sp_oend K (n + 1)) [] := by
  have sc := sc_o_end
  refine D.cal sc (fun vs H Q E h => ?_) (fun f cdv A outer s H vs Q E hr h => ?_)
  · obtain ⟨z, k, m, rfl, _⟩ := h
    rfl
  · obtain ⟨z, k, m, rfl, hz, hm, hk, q⟩ := h
    have hm' : m = n := by omega
    subst hm'
    refine ⟨_, (pss_cons (ps_asg (pe_c C_law_o_name hr (by omega) rfl (pa_cons (pv 0) (pa_cons (pv 1) (pa_cons pe_bl pa_nil)))) (pg_tup rfl (pgs_cons (pg_name (i := 1) sc.nd rfl (Or.inl rfl)) (pgs_cons (pg_name (i := 2) sc.nd rfl (Or.inl rfl)) pgs_nil))))
  (pss_cut (ps_if (PW.pt (pw_or (pt_val (pv 2)) (pw_or1 (pt_cmpR op_ne (pe_slice sl_str (pv 0) (po_some (pv 1)) (po_some (pe_op op_add (pv 1) pe_int))) pe_str (nomark _))))) (pss_one (ps_ret (pe_tup (pa_cons (pv 1) (pa_cons pe_bl pa_nil))))) pss_nil)
  (pss_cons (ps_asg (pe_c C_law_o_name hr (by omega) rfl (pa_cons (pv 0) (pa_cons (pe_op op_add (pv 1) pe_int) (pa_cons pe_bl pa_nil)))) (pg_tup rfl (pgs_cons (pg_name (i := 1) sc.nd rfl (Or.inl rfl)) (pgs_cons (pg_name (i := 2) sc.nd rfl (Or.inl rfl)) pgs_nil))))
  (pss_cut (ps_if (PW.pt (pw_or (pt_val (pv 2)) (pw_or1 (pt_cmpR op_ne (pe_slice sl_str (pv 0) (po_some (pv 1)) (po_some (pe_op op_add (pv 1) pe_int))) pe_str (nomark _))))) (pss_one (ps_ret (pe_tup (pa_cons (pv 1) (pa_cons (pv 2) pa_nil))))) pss_nil)
  (pss_cons (ps_asg (pe_c C_law_o_end hr (by omega) rfl (pa_cons (pv 0) (pa_cons (pe_op op_add (pv 1) pe_int) pa_nil))) (pg_tup rfl (pgs_cons (pg_name (i := 1) sc.nd rfl (Or.inl rfl)) (pgs_cons (pg_name (i := 2) sc.nd rfl (Or.inl rfl)) pgs_nil))))
  (pss_cut (ps_while PassesOwn.never (PW.pt (pw_and (pt_not (pt_val (pv 2))) (pw_and1 (pt_cmpR op_eq (pe_slice sl_str (pv 0) (po_some (pv 1)) (po_some (pe_op op_add (pv 1) pe_int))) pe_str (nomark _))))) (pss_cons (ps_if (pt_cmpR op_ne (pe_slice sl_str (pv 0) (po_some (pe_op op_add (pv 1) pe_int)) (po_some (pe_op op_add (pv 1) pe_int))) pe_str (nomark _)) (pss_one (ps_ret (pe_tup (pa_cons (pe_op op_add (pv 1) pe_int) (pa_cons pe_bl pa_nil))))) pss_nil)
  (pss_one (ps_asg (pe_c C_law_o_end hr (by omega) rfl (pa_cons (pv 0) (pa_cons (pe_op op_add (pv 1) pe_int) pa_nil))) (pg_tup rfl (pgs_cons (pg_name (i := 1) sc.nd rfl (Or.inl rfl)) (pgs_cons (pg_name (i := 2) sc.nd rfl (Or.inl rfl)) pgs_nil)))))))
  (pss_one (ps_ret (pe_ifExp (PW.pt (pw_or (pt_val (pv 2)) (pw_or1 (pt_cmpR op_ne (pe_slice sl_str (pv 0) (po_some (pv 1)) (po_some (pe_op op_add (pv 1) pe_int))) pe_str (nomark _))))) (pe_tup (pa_cons (pv 1) (pa_cons pe_bl pa_nil))) (pe_tup (pa_cons (pe_op op_add (pv 1) pe_int) (pa_cons pe_bl pa_nil)))))))))))), ?_⟩
    refine ⟨_, rfl, _, rfl, z, k, false, rfl, hz, fun t1 H1 e1 s1 => ⟨t1, _, rfl, s1, rfl, _, _, rfl, _, _, rfl, rfl, ?_⟩⟩
    obtain ⟨k1, b1, nm, w1⟩ : ∃ k1 b1 nm, rdName z k false = (k1, b1, nm) := ⟨_, _, _, rfl⟩
    have en1 : rdNm false z k = (k1, b1) := by
      show ((rdName z k false).1, (rdName z k false).2.1) = _
      rw [w1]
    rw [en1] at s1 ⊢
    have f1 := rdName_fwd z k false
    rw [w1] at f1
    dsimp only at f1
    have told : ∀ {k' : Nat} {b' : Bool} {p H2 t}, ROne z k false k' b' p → Same H1 H2 → H2 t = none → Q (.ref t) (upd H2 t (.tup [.int (k' : Int), .bl b'])) := fun {k' b' p H2 t} o e ht => q t k' b' p _ o ((e1.trans e).trans (same_new ht _)) (SqT.of upd_same)
    have bad1 : (b1 = true ∨ z[k1]? ≠ some 32) → ∀ t, H1 t = none → Q (.ref t) (upd H1 t (.tup [.int (k1 : Int), .bl true])) := fun hb t ht => by
      have e2 : rdNeed 32 z k1 b1 = (k1, true) := if_neg (fun x => by rcases hb with hb | hb; rw [hb] at x; exact nomatch x.1; exact hb x.2)
      exact told (.leaf w1 e2 (rdHead_stuck z k1) (.inl rfl)) (Same.refl _) ht
    refine ⟨fun σ' H' => σ' = [some (.str (S z)), some (.int (k1 : Nat)), some (.bl b1)] ∧ H' = H1 ∧ b1 = false ∧ z[k1]? = some 32, ?_, ?_⟩
    · refine ⟨_, rfl, _, rfl, ite_b (fun hb => ?_) (fun hb => ?_)⟩
      · exact ite_t rfl ⟨_, rfl, (by show 2 ≤ sizeLine; decide), fun t ht => bad1 (.inl hb) t ht⟩
      refine ⟨_, rfl, _, rfl, _, rfl, _, rfl, _, _, rfl, rfl, _, rfl, S z, rfl, Nat.le_trans hz (by decide), ?_⟩
      rw [cut1]
      refine ⟨rfl, _, rfl, ?_⟩
      rw [show decide (V.str (sgV z k1) = V.str " ") = decide (z[k1]? = some 32) from sgV_is]
      by_cases h32 : z[k1]? = some 32
      · rw [decide_eq_true h32]
        exact ite_f rfl ⟨rfl, rfl, hb, h32⟩
      · rw [decide_eq_false h32]
        exact ite_t rfl ⟨_, rfl, (by show 2 ≤ sizeLine; decide), fun t ht => bad1 (.inr h32) t ht⟩
    rintro σ' H' ⟨rfl, rfl, rfl, h32⟩
    have w2 : rdNeed 32 z k1 false = (k1 + 1, false) := if_pos ⟨rfl, h32⟩
    refine ⟨_, rfl, _, rfl, _, _, rfl, rfl, z, k1 + 1, true, rfl, hz, fun t2 H2 e2 s2 => ⟨t2, _, rfl, s2, rfl, _, _, rfl, _, _, rfl, rfl, ?_⟩⟩
    obtain ⟨k3, b3, hd, w3⟩ : ∃ k3 b3 hd, rdHead z (k1 + 1) false = (k3, b3, hd) := ⟨_, _, _, rfl⟩
    have en3 : rdNm true z (k1 + 1) = (k3, b3) := by
      show ((rdHead z (k1 + 1) false).1, (rdHead z (k1 + 1) false).2.1) = _
      rw [w3]
    rw [en3] at s2 ⊢
    have f3 := rdHead_fwd z (k1 + 1) false
    rw [w3] at f3
    dsimp only at f3
    have bad3 : (b3 = true ∨ z[k3]? ≠ some 40) → ∀ t, H2 t = none → Q (.ref t) (upd H2 t (.tup [.int (k3 : Int), .bl b3])) := fun hb t ht => told (.leaf w1 w2 w3 hb) e2 ht
    refine ⟨fun σ' H' => σ' = [some (.str (S z)), some (.int (k3 : Nat)), some (.bl b3)] ∧ H' = H2 ∧ b3 = false ∧ z[k3]? = some 40, ?_, ?_⟩
    · refine ⟨_, rfl, _, rfl, ite_b (fun hb => ?_) (fun hb => ?_)⟩
      · exact ite_t rfl ⟨_, rfl, _, rfl, (by show 2 ≤ sizeLine; decide), fun t ht => bad3 (.inl hb) t ht⟩
      refine ⟨_, rfl, _, rfl, _, rfl, _, rfl, _, _, rfl, rfl, _, rfl, S z, rfl, Nat.le_trans hz (by decide), ?_⟩
      rw [cut1]
      refine ⟨rfl, _, rfl, ?_⟩
      rw [show decide (V.str (sgV z k3) = V.str "(") = decide (z[k3]? = some 40) from sgV_is]
      by_cases h40 : z[k3]? = some 40
      · rw [decide_eq_true h40]
        exact ite_f rfl ⟨rfl, rfl, hb, h40⟩
      · rw [decide_eq_false h40]
        exact ite_t rfl ⟨_, rfl, _, rfl, (by show 2 ≤ sizeLine; decide), fun t ht => bad3 (.inr h40) t ht⟩
    rintro σ' H' ⟨rfl, rfl, rfl, h40⟩
    have s3 := head_sound (hm := hd.1) (ht := hd.2) w3
    have s1 := name_sound (m := nm.1) (e := nm.2) w1
    have l3 : k3 < z.length := by
      rcases Nat.lt_or_ge k3 z.length with l | l
      · exact l
      · rw [List.getElem?_eq_none_iff.mpr l] at h40; cases h40
    have k6 : k + 5 ≤ k3 := by have := s1.2.2.1; have := s3.2.2.1; omega
    have m1 : 1 ≤ m := by omega
    refine ⟨_, rfl, _, rfl, _, _, rfl, rfl, z, k3 + 1, m - 1, rfl, hz, by omega, by omega, fun t5 k5 b5 p H5 o5 e5 s5 => ⟨t5, _, rfl, s5, rfl, _, _, rfl, _, _, rfl, rfl, ?_⟩⟩
    have f5 := o5.fwd
    have fin : ∀ {k6 : Nat} {b6 : Bool} {ps H2' t} {k7 : Nat} {b7 : Bool}, RMore z k5 b5 k6 b6 ps → rdNeed 41 z k6 b6 = (k7, b7) → Same H5 H2' → H2' t = none → Q (.ref t) (upd H2' t (.tup [.int (k7 : Int), .bl b7])) := fun {k6 b6 ps H2' t k7 b7} h6 h7 e ht => told (.node w1 w2 w3 h40 o5 h6 h7) ((e2.trans e5).trans e) ht
    refine ⟨fun σ' H' => ∃ k6 b6 ps, σ' = [some (.str (S z)), some (.int (k6 : Nat)), some (.bl b6)] ∧ Same H5 H' ∧ RMore z k5 b5 k6 b6 ps, ?_, ?_⟩
    · refine ⟨fun l σ' H' => ∃ k6 b6, l = z.length - k6 ∧ k5 ≤ k6 ∧ (∀ k' b' qs, RMore z k6 b6 k' b' qs → ∃ ps, RMore z k5 b5 k' b' ps) ∧ σ' = [some (.str (S z)), some (.int (k6 : Nat)), some (.bl b6)] ∧ Same H5 H', ⟨_, k5, b5, rfl, Nat.le_refl _, fun k' b' qs h => ⟨qs, h⟩, rfl, Same.refl _⟩, ?_⟩
      rintro l σ' H' ⟨k6, b6, rfl, l6, hmore, rfl, e6⟩
      have stop : (b6 = true ∨ z[k6]? ≠ some 44) → ∃ k8 b8 ps, [some (V.str (S z)), some (V.int (k6 : Nat)), some (V.bl b6)] = [some (.str (S z)), some (.int ((k8 : Nat) : Int)), some (.bl b8)] ∧ Same H5 H' ∧ RMore z k5 b5 k8 b8 ps := fun hb => by
        obtain ⟨ps, h⟩ := hmore k6 b6 [] (.stop hb)
        exact ⟨k6, b6, ps, rfl, e6, h⟩
      refine ⟨_, rfl, _, rfl, ?_⟩
      cases b6 with
      | true => exact ite_f rfl (ite_f rfl (stop (.inl rfl)))
      | false =>
      refine ite_t rfl ⟨_, rfl, _, rfl, _, rfl, _, rfl, _, _, rfl, rfl, _, rfl, S z, rfl, Nat.le_trans hz (by decide), ?_⟩
      rw [cut1]
      refine ⟨rfl, _, rfl, ?_⟩
      rw [show decide (V.str (sgV z k6) = V.str ",") = decide (z[k6]? = some 44) from sgV_is]
      by_cases h44 : z[k6]? = some 44
      rotate_left
      · rw [decide_eq_false h44]
        exact ite_f rfl (stop (.inr h44))
      rw [decide_eq_true h44]
      have l7 : k6 < z.length := by
        rcases Nat.lt_or_ge k6 z.length with l | l
        · exact l
        · rw [List.getElem?_eq_none_iff.mpr l] at h44; cases h44
      refine ite_t rfl ⟨fun σ2 H2' => ∃ k8 b8, k6 < k8 ∧ (∀ k' b' qs, RMore z k8 b8 k' b' qs → ∃ ps, RMore z k6 false k' b' ps) ∧ σ2 = [some (.str (S z)), some (.int (k8 : Nat)), some (.bl b8)] ∧ Same H5 H2', ?_, ?_⟩
      · rintro σ2 H2' ⟨k8, b8, l8, hm8, rfl, e8⟩
        refine ⟨_, (by omega), k8, b8, rfl, by omega, fun k' b' qs h => ?_, rfl, e8⟩
        obtain ⟨ps, h'⟩ := hm8 k' b' qs h
        exact hmore k' b' ps h'
      refine ⟨_, rfl, _, rfl, _, _, rfl, rfl, _, rfl, _, rfl, _, _, rfl, rfl, _, rfl, S z, rfl, Nat.le_trans hz (by decide), ?_⟩
      rw [show cutS (S z) (some ((k6 : Int) + 1)) (some ((k6 : Int) + 2)) = sgV z (k6 + 1) by
        have e := cutS_nat z (k6 + 1) (k6 + 2)
        rw [show k6 + 2 - (k6 + 1) = 1 by omega] at e
        exact e]
      refine ⟨rfl, _, rfl, ?_⟩
      rw [show decide (V.str (sgV z (k6 + 1)) = V.str " ") = decide (z[k6 + 1]? = some 32) from sgV_is]
      by_cases h32b : z[k6 + 1]? = some 32
      rotate_left
      · rw [decide_eq_false h32b]
        refine ite_t rfl ⟨_, rfl, _, _, rfl, rfl, (by show 2 ≤ sizeLine; decide), fun t ht => ?_⟩
        have e32 : rdNeed 32 z (k6 + 1) false = (k6 + 1, true) := if_neg (fun x => h32b x.2)
        have os : ROne z (k6 + 1) true (k6 + 1) true _ := .leaf (rdName_stuck z (k6 + 1)) (rdNeed_stuck 32 z (k6 + 1)) (rdHead_stuck z (k6 + 1)) (.inl rfl)
        obtain ⟨ps, h⟩ := hmore (k6 + 1) true _ (.go h44 e32 os (.stop (.inl rfl)))
        exact fin h (rdNeed_stuck 41 z (k6 + 1)) e6 ht
      rw [decide_eq_true h32b]
      have e32 : rdNeed 32 z (k6 + 1) false = (k6 + 1 + 1, false) := if_pos ⟨rfl, h32b⟩
      refine ite_f rfl ⟨_, rfl, _, rfl, _, _, rfl, rfl, z, k6 + 1 + 1, m - 1, rfl, hz, by omega, by omega, fun t9 k9 b9 p9 H9 o9 e9 s9 => ⟨t9, _, rfl, s9, rfl, _, _, rfl, _, _, rfl, rfl, ?_⟩⟩
      have f9 := o9.fwd
      exact ⟨k9, b9, by omega, fun k' b' qs h => ⟨_, .go h44 e32 o9 h⟩, rfl, e6.trans e9⟩
    · rintro σ' H' ⟨k6, b6, ps, rfl, e6, hm6⟩
      have bad : (b6 = true ∨ z[k6]? ≠ some 41) → ∀ t, H' t = none → Q (.ref t) (upd H' t (.tup [.int (k6 : Int), .bl true])) := fun hb t ht => by
        have e2 : rdNeed 41 z k6 b6 = (k6, true) := if_neg (fun x => by rcases hb with hb | hb; rw [hb] at x; exact nomatch x.1; exact hb x.2)
        exact fin hm6 e2 e6 ht
      refine ⟨_, rfl, _, rfl, ite_b (fun hb => ?_) (fun hb => ?_)⟩
      · exact ite_t rfl ⟨_, rfl, (by show 2 ≤ sizeLine; decide), fun t ht => bad (.inl hb) t ht⟩
      refine ⟨_, rfl, _, rfl, _, rfl, _, rfl, _, _, rfl, rfl, _, rfl, S z, rfl, Nat.le_trans hz (by decide), ?_⟩
      rw [cut1]
      refine ⟨rfl, _, rfl, ?_⟩
      rw [show decide (V.str (sgV z k6) = V.str ")") = decide (z[k6]? = some 41) from sgV_is]
      by_cases h41 : z[k6]? = some 41
      · rw [decide_eq_true h41]
        refine ite_f rfl ⟨_, rfl, _, _, rfl, rfl, (by show 2 ≤ sizeLine; decide), fun t ht => ?_⟩
        exact fin (k7 := k6 + 1) (b7 := false) hm6 (by rw [hb]; exact if_pos ⟨rfl, h41⟩) e6 ht
      · rw [decide_eq_false h41]
        exact ite_t rfl ⟨_, rfl, (by show 2 ≤ sizeLine; decide), fun t ht => bad (.inr h41) t ht⟩
theorem ok_oend (D : DefB K mg "_law_o_end" s_o_end ["text", "at"]) (B : Bt mg) (C_law_o_name : Cal P w K mg base 3 "_law_o_name" (sp_oname K) []) : ∀ n, Cal P w K mg base (n + 3) "_law_o_end" (sp_oend K n) []
  | 0 => by
    have no : ∀ vs H Q E, ¬ sp_oend K 0 vs H Q E := fun vs H Q E h => by
      obtain ⟨z, k, m, _, _, hm, _⟩ := h
      cases hm
    obtain ⟨f, fd, F, b⟩ := D.ex
    exact ⟨f, fd, _, [], ⟨fun vs H Q E z => absurd z (no vs H Q E), fun A outer s H args us vs Q E _ _ _ _ z => absurd z (no vs H Q E)⟩, F.mgf, F.kp, b, .nil⟩
  | n + 1 => ok_oend1 D B C_law_o_name (ok_oend D B C_law_o_name n)
end
end K54
set_option Elab.async false
set_option linter.all false
set_option maxRecDepth 100000
set_option maxHeartbeats 4000000
namespace K54
open PySem PySem.Spec PyProof.Rows L2 C8 RZ LiI SX
/-! ### data in the model's own form -/
mutual
def pyOf : Dt → PyData
  | .lst xs => .list (pyOfs xs)
  | .tup xs => .tuple (pyOfs xs)
  | .non => .none
  | .bl b => .bool b
  | .int i => .int i
  | .str x => .str x
  | .emp => .none
def pyOfs : List Dt → List PyData
  | [] => []
  | x :: xs => pyOf x :: pyOfs xs
end
def okD : Nat → Dt → Prop
  | _, .str x => PyData.strOk x = true
  | _, .emp => False
  | 0, .lst _ => False
  | 0, .tup _ => False
  | n + 1, .lst xs => ∀ x ∈ xs, okD n x
  | n + 1, .tup xs => ∀ x ∈ xs, okD n x
  | _, .non => True
  | _, .bl _ => True
  | _, .int _ => True
section
variable {P : Program} {w : World} {K : PySem.W.Frag} {mg : Str → Option Value} {base : Heap} {aW aN C CT : Addr}
theorem okD_mono : ∀ {n m : Nat} {d : Dt}, okD n d → n ≤ m → okD m d := by
  intro n
  induction n with
  | zero =>
    intro m d h l
    cases d with
    | non => cases m <;> trivial
    | bl b => cases m <;> trivial
    | int b => cases m <;> trivial
    | str x => cases m <;> exact h
    | lst xs => exact h.elim
    | tup xs => exact h.elim
    | emp => exact h.elim
  | succ n ih =>
    intro m d h l
    cases m with
    | zero => omega
    | succ m =>
    cases d with
    | non => trivial
    | bl b => trivial
    | int b => trivial
    | str x => exact h
    | lst xs => exact fun x hx => ih (h x hx) (by omega)
    | tup xs => exact fun x hx => ih (h x hx) (by omega)
    | emp => exact h.elim
theorem okD_shape : ∀ (n : Nat) (d : Dt), okD n d → (pyOf d).canLay0 = true ∧ (pyOf d).depth ≤ n := by
  intro n
  induction n with
  | zero =>
    intro d h
    cases d with
    | non => exact ⟨rfl, Nat.le_refl _⟩
    | bl b => exact ⟨rfl, Nat.le_refl _⟩
    | int b => exact ⟨rfl, Nat.le_refl _⟩
    | str x => exact ⟨h, Nat.le_refl _⟩
    | lst xs => exact h.elim
    | tup xs => exact h.elim
    | emp => exact h.elim
  | succ n ih =>
    intro d h
    have all : ∀ xs : List Dt, (∀ x ∈ xs, okD n x) → PyData.canLayAll0 (pyOfs xs) = true ∧ PyData.depthAll (pyOfs xs) ≤ n := by
      intro xs
      induction xs with
      | nil => intro _; exact ⟨rfl, Nat.zero_le _⟩
      | cons x xs ihx =>
        intro hx
        obtain ⟨a1, a2⟩ := ih x (hx x (List.mem_cons_self ..))
        obtain ⟨b1, b2⟩ := ihx fun y hy => hx y (List.mem_cons_of_mem _ hy)
        refine ⟨?_, ?_⟩
        · show (PyData.canLay0 (pyOf x) && PyData.canLayAll0 (pyOfs xs)) = true
          rw [a1, b1]
          rfl
        · show max (PyData.depth (pyOf x)) (PyData.depthAll (pyOfs xs)) ≤ n
          omega
    cases d with
    | non => exact ⟨rfl, Nat.zero_le _⟩
    | bl b => exact ⟨rfl, Nat.zero_le _⟩
    | int b => exact ⟨rfl, Nat.zero_le _⟩
    | str x => exact ⟨h, Nat.zero_le _⟩
    | lst xs =>
      obtain ⟨a1, a2⟩ := all xs h
      exact ⟨a1, by show PyData.depthAll (pyOfs xs) + 1 ≤ n + 1; omega⟩
    | tup xs =>
      obtain ⟨a1, a2⟩ := all xs h
      exact ⟨a1, by show PyData.depthAll (pyOfs xs) + 1 ≤ n + 1; omega⟩
    | emp => exact h.elim
theorem okD_shaped {n : Nat} {d : Dt} (h : okD n d) (hn : n ≤ 64) : SeqAt.shaped (pyOf d) = true := by
  obtain ⟨a1, a2⟩ := okD_shape n d h
  show (PyData.canLay0 (pyOf d) && decide (PyData.depth (pyOf d) ≤ 64)) = true
  rw [a1, decide_eq_true (by omega)]
  rfl
theorem dps {H : Hp} {n : Nat} {xs : List Dt} (ih : ∀ x ∈ xs, ∀ (n : Nat) (v : V) (fp : List Addr), Rep K H v x fp → okD n x → Dp K H v (pyOf x)) : ∀ {vs : List V} {fp : List Addr}, Reps K H vs xs fp → (∀ x ∈ xs, okD n x) → DpAll K H vs (pyOfs xs) := by
  induction xs with
  | nil => intro vs fp r _; cases r; exact .nil
  | cons x xs ihx =>
    intro vs fp r h
    cases r with
    | cons r t => exact .cons (ih x (List.mem_cons_self ..) n _ _ r (h x (List.mem_cons_self ..))) (ihx (fun y hy => ih y (List.mem_cons_of_mem _ hy)) t fun y hy => h y (List.mem_cons_of_mem _ hy))
theorem Rep.dp {H : Hp} : ∀ (d : Dt) (n : Nat) (v : V) (fp : List Addr), Rep K H v d fp → okD n d → Dp K H v (pyOf d) := by
  intro d
  induction d using Dt.ind with
  | h0 => intro n v fp r _; cases r; exact .non
  | h1 b => intro n v fp r _; cases r; exact .bl b
  | h2 b => intro n v fp r _; cases r; exact .int b
  | h3 b => intro n v fp r _; cases r; exact .str b
  | h6 => intro n v fp r h; cases n <;> exact h.elim
  | h4 xs ih =>
    intro n v fp r h
    cases n with
    | zero => exact h.elim
    | succ n =>
    cases r with
    | lst e rs =>
      refine .lst (SqL.of e) ?_
      clear e
      have h : ∀ x ∈ xs, okD n x := h
      exact dps ih rs h
  | h5 xs ih =>
    intro n v fp r h
    cases n with
    | zero => exact h.elim
    | succ n =>
    cases r with
    | tup e rs =>
      have h : ∀ x ∈ xs, okD n x := h
      exact .tup e (dps ih rs h)
abbrev s_o_book : Stmt := top 37
theorem sc_o_book : FnScope ["stream", "depth", "name", "head", "parts", "text", "k", "book", "told"] ["stream", "depth"] (fnScope s_o_book) := fnScope_by (by decide +kernel)
abbrev pairD (b : Bk) : Dt := .tup [dOf b, .str (S (txt b))]
def nmM : List (List Nat) := [[109], [111], [97, 98, 99, 100, 101, 102, 103, 104], [120, 49]]
def nmE : List (List Nat) := [[69], [79, 114, 100, 57], [83]]
def nmH : List (List Nat × List Nat) := [([], [105, 110, 116]), ([109], [76]), ([113], [80, 97, 105, 114, 49, 50]), ([105, 110, 57], [84])]
/-- the books that law draws -/
def OBk : Nat → Bk → Prop
  | 0, .mk m e hm ht ps => m ∈ nmM ∧ e ∈ nmE ∧ (hm, ht) ∈ nmH ∧ ps = []
  | n + 1, .mk m e hm ht ps => m ∈ nmM ∧ e ∈ nmE ∧ (hm, ht) ∈ nmH ∧ ps.length ≤ 2 ∧ ∀ p ∈ ps, OBk n p
theorem OBk.parts : ∀ {n : Nat} {m e hm ht : List Nat} {ps : List Bk}, OBk n (.mk m e hm ht ps) → m ∈ nmM ∧ e ∈ nmE ∧ (hm, ht) ∈ nmH ∧ ps.length ≤ 2 ∧ ∀ p ∈ ps, ∃ n', n = n' + 1 ∧ OBk n' p
  | 0, m, e, hm, ht, ps, h => ⟨h.1, h.2.1, h.2.2.1, by rw [h.2.2.2]; exact Nat.zero_le _, fun p hp => by rw [h.2.2.2] at hp; cases hp⟩
  | n + 1, m, e, hm, ht, ps, h => ⟨h.1, h.2.1, h.2.2.1, h.2.2.2.1, fun p hp => ⟨n, rfl, h.2.2.2.2 p hp⟩⟩
theorem nmM_ok : ∀ m ∈ nmM, signB m LET = true ∧ m.length ≤ 8 ∧ PyData.strOk (S m) = true ∧ m.all (fun c => decide (c < 1114112)) = true := by decide +kernel
theorem nmE_ok : ∀ m ∈ nmE, signB m GRE = true ∧ m.length ≤ 4 ∧ PyData.strOk (S m) = true ∧ m.all (fun c => decide (c < 1114112)) = true := by decide +kernel
theorem nmH_ok : ∀ p ∈ nmH, (isI p.1 p.2 = true ∨ (signB p.1 LET = true ∧ signB p.2 GRE = true)) ∧ p.1.length ≤ 3 ∧ p.2.length ≤ 6 ∧ (headT p.1 p.2).length ≤ 8 ∧ decide (p.1 = []) = isI p.1 p.2 ∧ PyData.strOk (S p.1) = true ∧ PyData.strOk (S p.2) = true ∧ (headT p.1 p.2).all (fun c => decide (c < 1114112)) = true := by decide +kernel
theorem OBk.valid : ∀ (n : Nat) {b : Bk}, OBk n b → Valid b
  | n, .mk m e hm ht ps, h => by
    obtain ⟨h1, h2, h3, h4, h5⟩ := h.parts
    refine .mk (nmM_ok m h1).1 (nmE_ok e h2).1 (nmH_ok _ h3).1 fun p hp => ?_
    obtain ⟨n', rfl, o⟩ := h5 p hp
    exact OBk.valid n' o
def lenB : Nat → Nat
  | 0 => 22
  | n + 1 => 26 + 2 * lenB n
theorem two_parts {α : Type} {ps : List α} (h : ps.length ≤ 2) : ps = [] ∨ (∃ p, ps = [p]) ∨ ∃ p q, ps = [p, q] := by
  match ps, h with
  | [], _ => exact .inl rfl
  | [p], _ => exact .inr (.inl ⟨p, rfl⟩)
  | [p, q], _ => exact .inr (.inr ⟨p, q, rfl⟩)
  | _ :: _ :: _ :: _, h => simp at h
theorem lenB_mono (n : Nat) : 22 ≤ lenB n := by
  cases n with
  | zero => exact Nat.le_refl _
  | succ n => show 22 ≤ 26 + _; omega
theorem OBk.len : ∀ (n : Nat) {b : Bk}, OBk n b → (txt b).length ≤ lenB n ∧ (txt b).all (fun c => decide (c < 1114112)) = true
  | n, .mk m e hm ht ps, h => by
    obtain ⟨h1, h2, h3, h4, h5⟩ := h.parts
    obtain ⟨a1, a2, a3, a4⟩ := nmM_ok m h1
    obtain ⟨b1, b2, b3, b4⟩ := nmE_ok e h2
    obtain ⟨c1, c2, c3, c4, c5, c6, c7, c8⟩ := nmH_ok _ h3
    have hp : (partT ps).length ≤ lenB n - 22 ∧ (partT ps).all (fun c => decide (c < 1114112)) = true := by
      rcases two_parts h4 with rfl | ⟨p, rfl⟩ | ⟨p, p', rfl⟩
      · exact ⟨Nat.zero_le _, rfl⟩
      · obtain ⟨n', rfl, o⟩ := h5 p (by simp)
        obtain ⟨i1, i2⟩ := OBk.len n' o
        refine ⟨?_, ?_⟩
        · show (40 :: (txt p ++ [41])).length ≤ 26 + 2 * lenB n' - 22
          rw [List.length_cons, List.length_append, List.length_singleton]
          omega
        · show (40 :: (txt p ++ [41])).all (fun c => decide (c < 1114112)) = true
          rw [List.all_cons, List.all_append, i2]
          decide
      · obtain ⟨n', rfl, o⟩ := h5 p (by simp)
        obtain ⟨n'', en, o'⟩ := h5 p' (by simp)
        have en' : n'' = n' := by omega
        subst en'
        obtain ⟨i1, i2⟩ := OBk.len n'' o
        obtain ⟨j1, j2⟩ := OBk.len n'' o'
        refine ⟨?_, ?_⟩
        · show (40 :: ((txt p ++ 44 :: 32 :: txt p') ++ [41])).length ≤ 26 + 2 * lenB n'' - 22
          simp only [List.length_cons, List.length_append, List.length_nil]
          omega
        · show (40 :: ((txt p ++ 44 :: 32 :: txt p') ++ [41])).all (fun c => decide (c < 1114112)) = true
          simp only [List.all_cons, List.all_append, i2, j2]
          decide
    have l22 := lenB_mono n
    rw [txt_eq]
    refine ⟨?_, ?_⟩
    · simp only [List.length_cons, List.length_append]
      have := hp.1
      dsimp only at c4
      omega
    · simp only [List.all_cons, List.all_append, a4, b4, hp.2]
      dsimp only at c8
      rw [c8]
      decide
theorem OBk.okd : ∀ (n : Nat) {b : Bk}, OBk n b → okD (2 * n + 2) (dOf b)
  | n, .mk m e hm ht ps, h => by
    obtain ⟨h1, h2, h3, h4, h5⟩ := h.parts
    have q2 : ∀ {x y : Str}, PyData.strOk x = true → PyData.strOk y = true → okD (2 * n + 1) (.tup [.str x, .str y]) := fun {x y} hx hy z hz => by
      rcases List.mem_cons.mp hz with e | hz
      · rw [e]; cases n <;> exact hx
      · rw [List.mem_singleton.mp hz]; cases n <;> exact hy
    have q4 : okD (2 * n + 1) (.lst (dOfs ps)) := fun z hz => by
      rw [dOfs_map] at hz
      obtain ⟨p, hp, rfl⟩ := List.mem_map.mp hz
      obtain ⟨n', rfl, o⟩ := h5 p hp
      exact OBk.okd n' o
    intro z hz
    simp only [List.mem_cons, List.not_mem_nil, or_false] at hz
    rcases hz with e | e | e | e
    · rw [e]; show PyData.strOk "by" = true; decide +kernel
    · rw [e]; exact q2 (nmM_ok m h1).2.2.1 (nmE_ok _ h2).2.2.1
    · rw [e]; exact q2 (nmH_ok _ h3).2.2.2.2.2.1 (nmH_ok _ h3).2.2.2.2.2.2.1
    · rw [e]; exact q4
theorem strOk_of {l : List Nat} (h : l.all (fun c => decide (c < 1114112)) = true) : PyData.strOk (S l) = true := by
  show (S l).cps.all (fun x => decide (x < 1114112)) = true
  rw [← Array.all_toList]
  exact h
theorem OBk.okp {n : Nat} {b : Bk} (h : OBk n b) : okD (2 * n + 3) (pairD b) := fun z hz => by
  rcases List.mem_cons.mp hz with e | hz
  · rw [e]; exact h.okd
  · rw [List.mem_singleton.mp hz]; exact strOk_of h.len.2
theorem unpair {H : Hp} : ∀ {ps : List Bk} {acc : List V} {fp : List Addr}, Reps K H acc (ps.map pairD) fp → ∃ vs : List V, Reps K H vs (dOfs ps) fp ∧ ∀ (i : Nat) (x : V), acc[i]? = some x → ∃ (a : Addr) (v : V) (p : Bk), x = V.ref a ∧ vs[i]? = some v ∧ ps[i]? = some p ∧ SqT K H a [v, V.str (S (txt p))]
  | [], acc, fp, r => by
    cases r
    exact ⟨[], .nil, fun i x h => by simp at h⟩
  | p :: ps, acc, fp, r => by
    cases r with
    | cons r t =>
      obtain ⟨vs, h1, h2⟩ := unpair t
      cases r with
      | tup e rs =>
        cases rs with
        | @cons v0 _ _ _ _ _ r1 rs =>
        cases rs with
        | cons r2 rs =>
        cases rs
        cases r2
        refine ⟨v0 :: vs, ?_, fun i x hx => ?_⟩
        · rw [List.append_nil, List.append_nil]
          exact .cons r1 h1
        · cases i with
          | zero => exact ⟨_, _, p, (by simpa using hx.symm), rfl, rfl, e⟩
          | succ i =>
            obtain ⟨a, v, p', g1, g2, g3, g4⟩ := h2 i x (by simpa using hx)
            exact ⟨a, v, p', g1, by simpa using g2, by simpa using g3, g4⟩
def drw : Nat → Nat
  | 0 => 3
  | n + 1 => 4 + 2 * drw n
def sp_obook (K : PySem.W.Frag) (n : Nat) : Sp := fun vs H Q _ => ∃ st q c d, vs = [.ref st, .int (d : Nat)] ∧ Strm H st q c ∧ d + 1 = n ∧ c + drw d ≤ 2 ^ 40 ∧ d ≤ 9 ∧
  ∀ v b fp H', OBk d b → Strm H' st q (c + drw d) → Kp (At2 st q) H H' → New K H H' v (pairD b) fp → Q v H'
theorem Strm.upd {H : Hp} {st q L : Addr} {n : Nat} (S : Strm H st q n) (h : ¬ At2 st q L) (o : HO) : Strm (upd H L o) st q n := by
  obtain ⟨cs, x1, x2, x3, h1, h2, h3⟩ := S.ex
  exact ⟨cs, x1, x2, x3, by rw [upd_ne (fun z => h (.inl z.symm))]; exact h1, by rw [upd_ne (fun z => h (.inr z.symm))]; exact h2, h3⟩
theorem sqT_updL {H : Hp} {L a : Addr} {xs acc : List V} {o : HO} (hl : H L = some (.lst acc)) (h : SqT K H a xs) : SqT K (upd H L o) a xs :=
  sqT_kp (kp_at L o) (fun b hb => noTup_one hl hb (fun xs z => nomatch z) (fun o xs z => nomatch z)) h
theorem ok_obook1 {n : Nat} (D : DefB K mg "_law_o_book" s_o_book ["stream", "depth"]) (B : Bt mg) (C_law_draw : Cal P w K mg base 1 "_law_draw" sp_draw []) (C_law_pick : Cal P w K mg base 2 "_law_pick" sp_pick []) (C_law_o_book : Cal P w K mg base (n + 2) "_law_o_book" (sp_obook K n) []) : Cal P w K mg base (n + 3) "_law_o_book" (sp_obook K (n + 1)) [] := by
  have sc := sc_o_book
  refine D.cal sc (fun vs H Q E h => ?_) (fun f cdv A outer s H vs Q E hr h => ?_)
  · obtain ⟨st, q, c, d, rfl, _⟩ := h
    rfl
  · obtain ⟨st, q, c, d, rfl, S0, hd, hc, hd9, k⟩ := h
    have hd' : d = n := by omega
    subst hd'
    refine ⟨_, (pss_cons (ps_set (i := 2) sc.nd rfl (Or.inl rfl) (pe_tup (pa_cons (pe_c C_law_pick hr (by omega) rfl (pa_cons (pv 0) (pa_cons (pe_lst (pa_cons pe_str (pa_cons pe_str (pa_cons pe_str (pa_cons pe_str pa_nil))))) pa_nil))) (pa_cons (pe_c C_law_pick hr (by omega) rfl (pa_cons (pv 0) (pa_cons (pe_lst (pa_cons pe_str (pa_cons pe_str (pa_cons pe_str pa_nil)))) pa_nil))) pa_nil))))
  (pss_cons (ps_set (i := 3) sc.nd rfl (Or.inl rfl) (pe_c C_law_pick hr (by omega) rfl (pa_cons (pv 0) (pa_cons (pe_lst (pa_cons (pe_tup (pa_cons pe_str (pa_cons pe_str pa_nil))) (pa_cons (pe_tup (pa_cons pe_str (pa_cons pe_str pa_nil))) (pa_cons (pe_tup (pa_cons pe_str (pa_cons pe_str pa_nil))) (pa_cons (pe_tup (pa_cons pe_str (pa_cons pe_str pa_nil))) pa_nil))))) pa_nil))))
  (pss_cut (ps_setLc (i := 4) (own := [("k", 6)]) (g := gName 6) rfl sc.nd rfl rfl (sw_true rfl rfl rfl (by decide +kernel)) (pi_range1 rfl B.range (pa_cons (pe_ifExp (pt_cmpR op_gt (pv 1) pe_int (nomark _)) (pe_c C_law_draw hr (by omega) rfl (pa_cons (pv 0) (pa_cons pe_int pa_nil))) pe_int) pa_nil)) (blkOk_by (own := [("k", 6)]) (N := ["stream", "depth", "name", "head", "parts", "text", "k", "book", "told"]) (sc := fnScope s_o_book) (by decide +kernel)) (fun _ _ _ _ _ => (pg_name (i := 6) sc.nd rfl (Or.inl rfl))) (fun _ _ _ _ _ => pts_nil) (fun _ _ _ _ _ => (pe_c C_law_o_book hr (by omega) rfl (pa_cons (pv 0) (pa_cons (pe_op op_sub (pv 1) pe_int) pa_nil)))))
  (pss_cut (ps_set (i := 5) sc.nd rfl (Or.inl rfl) (pe_op op_add_str (pe_op op_add_str (pe_op op_add_str (pe_op op_add_str (pe_ix ix_tup (pv 2) pe_int (fun _ _ => rfl)) pe_str) (pe_ix ix_tup (pv 2) pe_int (fun _ _ => rfl))) pe_str) (pe_ifExp (pt_cmpR op_eq (pe_ix ix_tup (pv 3) pe_int (fun _ _ => rfl)) pe_str (nomark _)) pe_str (pe_op op_add_str (pe_op op_add_str (pe_ix ix_tup (pv 3) pe_int (fun _ _ => rfl)) pe_str) (pe_ix ix_tup (pv 3) pe_int (fun _ _ => rfl))))))
  (pss_cut (ps_set (i := 5) sc.nd rfl (Or.inl rfl) (pe_op op_add_str (pv 5) (pe_ifExp (pt_cmpR (op_neD hr.units) (pv 4) (pe_lst pa_nil) (nomark _)) (pe_op op_add_str (pe_op op_add_str pe_str (pe_join pe_str (pe_lc (own := [("book", 7), ("told", 8)]) (g := gTup K 2 (gCons (gName 7) (gCons (gName 8) gNil))) rfl sc.nd (pi_list (pv 4)) (blkOk_by (own := [("book", 7), ("told", 8)]) (N := ["stream", "depth", "name", "head", "parts", "text", "k", "book", "told"]) (sc := fnScope s_o_book) (by decide +kernel)) (fun _ _ _ _ _ => (pg_tup rfl (pgs_cons (pg_name (i := 7) sc.nd rfl (Or.inl rfl)) (pgs_cons (pg_name (i := 8) sc.nd rfl (Or.inl rfl)) pgs_nil)))) (fun _ _ _ _ _ => pts_nil) (fun _ _ _ _ _ => (pv 8))))) pe_str) pe_str)))
  (pss_one (ps_ret (pe_tup (pa_cons (pe_tup (pa_cons pe_str (pa_cons (pv 2) (pa_cons (pv 3) (pa_cons (pe_lc (own := [("book", 7), ("told", 8)]) (g := gTup K 2 (gCons (gName 7) (gCons (gName 8) gNil))) rfl sc.nd (pi_list (pv 4)) (blkOk_by (own := [("book", 7), ("told", 8)]) (N := ["stream", "depth", "name", "head", "parts", "text", "k", "book", "told"]) (sc := fnScope s_o_book) (by decide +kernel)) (fun _ _ _ _ _ => (pg_tup rfl (pgs_cons (pg_name (i := 7) sc.nd rfl (Or.inl rfl)) (pgs_cons (pg_name (i := 8) sc.nd rfl (Or.inl rfl)) pgs_nil)))) (fun _ _ _ _ _ => pts_nil) (fun _ _ _ _ _ => (pv 7))) pa_nil))))) (pa_cons (pv 5) pa_nil)))))))))), ?_⟩
    have fr : ∀ {H' : Hp} {c' : Nat} {L : Addr}, Strm H' st q c' → H' L = none → L ≠ st ∧ L ≠ q := fun {H' c' L} S h => ⟨fun z => S.trk L (.inl z) h, fun z => S.trk L (.inr z) h⟩
    have le3 : 3 ≤ drw d := by cases d with | zero => exact Nat.le_refl _ | succ d => show 3 ≤ 4 + 2 * drw d; omega
    -- name
    refine ⟨_, rfl, (by show 4 ≤ sizeLine; decide), fun L1 hL1 => ⟨st, q, L1, c, _, rfl, S0.same (same_new hL1 _), by omega, upd_same, (fun z => nomatch z), (by show 4 < 1073741824; decide), (fr S0 hL1).1, (fr S0 hL1).2, fun i1 x1 H1 g1 S1 k1 => ?_⟩⟩
    have K1 : Kp (At2 st q) H H1 := (Kp.of_same (same_new hL1 _)).trans k1
    obtain ⟨m, hm, rfl⟩ : ∃ m ∈ nmM, x1 = V.str (S m) := by
      have e := List.mem_of_getElem? g1
      simp only [List.mem_cons, List.not_mem_nil, or_false] at e
      rcases e with e | e | e | e
      · exact ⟨[109], by decide, e⟩
      · exact ⟨[111], by decide, e⟩
      · exact ⟨[97, 98, 99, 100, 101, 102, 103, 104], by decide, e⟩
      · exact ⟨[120, 49], by decide, e⟩
    refine ⟨_, rfl, (by show 3 ≤ sizeLine; decide), fun L2 hL2 => ⟨st, q, L2, c + 1, _, rfl, S1.same (same_new hL2 _), by omega, upd_same, (fun z => nomatch z), (by show 3 < 1073741824; decide), (fr S1 hL2).1, (fr S1 hL2).2, fun i2 x2 H2 g2 S2 k2 => ?_⟩⟩
    have K2 : Kp (At2 st q) H H2 := (K1.trans (Kp.of_same (same_new hL2 _))).trans k2
    obtain ⟨e, he, rfl⟩ : ∃ m ∈ nmE, x2 = V.str (S m) := by
      have e := List.mem_of_getElem? g2
      simp only [List.mem_cons, List.not_mem_nil, or_false] at e
      rcases e with e | e | e
      · exact ⟨[69], by decide, e⟩
      · exact ⟨[79, 114, 100, 57], by decide, e⟩
      · exact ⟨[83], by decide, e⟩
    refine ⟨(by show 2 ≤ sizeLine; decide), fun an han => ?_⟩
    have n2 : SqT K (upd H2 an (.tup [V.str (S m), V.str (S e)])) an [.str (S m), .str (S e)] := SqT.of upd_same
    have S3 := S2.same (same_new han (.tup [V.str (S m), V.str (S e)]))
    have K3 := K2.trans (Kp.of_same (same_new han (.tup [V.str (S m), V.str (S e)])))
    generalize upd H2 an (.tup [V.str (S m), V.str (S e)]) = H3 at n2 S3 K3 ⊢
    -- head
    refine ⟨_, rfl, (by show 2 ≤ sizeLine; decide), fun t1 h1 => ⟨(by show 2 ≤ sizeLine; decide), fun t2 h2 => ⟨(by show 2 ≤ sizeLine; decide), fun t3 h3 => ⟨(by show 2 ≤ sizeLine; decide), fun t4 h4 => ⟨(by show 4 ≤ sizeLine; decide), fun L3 hL3 => ?_⟩⟩⟩⟩⟩
    have e1 := same_new h1 (.tup [V.str "", V.str "int"])
    have q1 : SqT K (upd H3 t1 (.tup [V.str "", V.str "int"])) t1 [V.str "", V.str "int"] := SqT.of upd_same
    generalize upd H3 t1 (.tup [V.str "", V.str "int"]) = G1 at h2 h3 h4 hL3 e1 q1 ⊢
    have e2 := same_new h2 (.tup [V.str "m", V.str "L"])
    have q2 : SqT K (upd G1 t2 (.tup [V.str "m", V.str "L"])) t2 [V.str "m", V.str "L"] := SqT.of upd_same
    generalize upd G1 t2 (.tup [V.str "m", V.str "L"]) = G2 at h3 h4 hL3 e2 q2 ⊢
    have e3 := same_new h3 (.tup [V.str "q", V.str "Pair12"])
    have q3 : SqT K (upd G2 t3 (.tup [V.str "q", V.str "Pair12"])) t3 [V.str "q", V.str "Pair12"] := SqT.of upd_same
    generalize upd G2 t3 (.tup [V.str "q", V.str "Pair12"]) = G3 at h4 hL3 e3 q3 ⊢
    have e4 := same_new h4 (.tup [V.str "in9", V.str "T"])
    have q4 : SqT K (upd G3 t4 (.tup [V.str "in9", V.str "T"])) t4 [V.str "in9", V.str "T"] := SqT.of upd_same
    generalize upd G3 t4 (.tup [V.str "in9", V.str "T"]) = G4 at hL3 e4 q4 ⊢
    have e5 := same_new hL3 (.lst [V.ref t1, V.ref t2, V.ref t3, V.ref t4])
    have e34 := e3.trans e4
    have e345 := e34.trans e5
    have S5 := S3.same (((e1.trans e2).trans e3).trans (e4.trans e5))
    have K5 := K3.trans (Kp.of_same (((e1.trans e2).trans e3).trans (e4.trans e5)))
    refine ⟨st, q, L3, c + 2, _, rfl, S5, by omega, upd_same, (fun z => nomatch z), (by show 4 < 1073741824; decide), (fr (S3.same (((e1.trans e2).trans e3).trans e4)) hL3).1, (fr (S3.same (((e1.trans e2).trans e3).trans e4)) hL3).2, fun i3 x3 H6 g3 S6 k6 => ?_⟩
    have K6 := K5.trans k6
    have n6 := sqT_kp k6 S5.noTup (Same.sqT ((e1.trans e2).trans (e34.trans e5)) n2)
    obtain ⟨ah, nh, nt, hh, rfl, p6⟩ : ∃ ah nh nt, (nh, nt) ∈ nmH ∧ x3 = V.ref ah ∧ SqT K H6 ah [.str (S nh), .str (S nt)] := by
      have e := List.mem_of_getElem? g3
      simp only [List.mem_cons, List.not_mem_nil, or_false] at e
      rcases e with e | e | e | e
      · exact ⟨t1, [], [105, 110, 116], by decide, e, sqT_kp k6 S5.noTup (Same.sqT ((e2.trans e34).trans e5) q1)⟩
      · exact ⟨t2, [109], [76], by decide, e, sqT_kp k6 S5.noTup (Same.sqT (e34.trans e5) q2)⟩
      · exact ⟨t3, [113], [80, 97, 105, 114, 49, 50], by decide, e, sqT_kp k6 S5.noTup (Same.sqT (e4.trans e5) q3)⟩
      · exact ⟨t4, [105, 110, 57], [84], by decide, e, sqT_kp k6 S5.noTup (Same.sqT e5 q4)⟩
    clear q1 q2 q3 q4 n2 g1 g2 g3
    -- parts
    refine ⟨fun σ' H' => ∃ L ps, σ' = [some (.ref st), some (.int (d : Nat)), some (.ref an), some (.ref ah), some (.ref L), none, none, none, none] ∧ ps.length ≤ 2 ∧ OBk d (.mk m e nh nt ps) ∧ Strm H' st q (c + drw d) ∧ Kp (At2 st q) H H' ∧
      SqT K H' an [.str (S m), .str (S e)] ∧ SqT K H' ah [.str (S nh), .str (S nt)] ∧ H L = none ∧ Made K H H' L (ps.map pairD), ?_, ?_⟩
    · refine ⟨_, rfl, _, _, rfl, rfl, _, rfl, ?_⟩
      have hst : ∀ b, At2 st q b → H b ≠ none := S0.trk
      cases d with
      | zero =>
        refine ite_f rfl ⟨0, rfl, by decide, by decide, fun L hL => lc_it walk_range (fun i H7 => H7 = upd H6 L (.lst [])) rfl (fun _ _ _ _ => trivial) (fun i x H7 H8 hi _ _ => absurd hi (Nat.not_lt_zero _)) (fun H7 pv => ?_)⟩
        subst pv
        have e7 := same_new hL (.lst [])
        refine ⟨L, [], rfl, by decide, ⟨hm, he, hh, rfl⟩, (S6.same e7).more (by show c + 2 + 1 ≤ c + 3; omega), K6.trans (Kp.of_same e7), Same.sqT e7 n6, Same.sqT e7 p6, kp2_free K6 S6 hL, .nil upd_same⟩
      | succ d' =>
        have hdr : drw (d' + 1) = 4 + 2 * drw d' := rfl
        refine ite_t (by rw [decide_eq_true (by omega)]) ⟨_, rfl, st, q, c + 2 + 1, 3, rfl, S6, by omega, by decide, by decide, fun r H7 r0 r1 S7 k7 => ?_⟩
        have n7 := sqT_kp k7 S6.noTup n6
        have p7 := sqT_kp k7 S6.noTup p6
        have K7 := K6.trans k7
        refine ⟨r, rfl, by omega, by omega, fun L hL => ?_⟩
        have hLH := kp2_free K7 S7 hL
        have nL : ¬ At2 st q L := fun z => hst L z hLH
        have e8 := same_new hL (.lst [])
        refine lc_it walk_range (fun i H8 => Kp (At2 st q) H H8 ∧ Strm H8 st q (c + 4 + i * drw d') ∧ SqT K H8 an [.str (S m), .str (S e)] ∧ SqT K H8 ah [.str (S nh), .str (S nt)] ∧ ∃ ps, ps.length = i ∧ (∀ p ∈ ps, OBk d' p) ∧ Made K H H8 L (ps.map pairD))
          ⟨K7.trans (Kp.of_same e8), by simpa using S7.same e8, Same.sqT e8 n7, Same.sqT e8 p7, [], rfl, (fun p hp => nomatch hp), .nil upd_same⟩ (fun _ _ _ _ => trivial) (fun i x H8 H9 hi pv y => ?_) (fun H8 pv => ?_)
        · obtain ⟨rfl, hx⟩ := y
          obtain ⟨K8, S8, n8, p8, ps, l8, o8, M8⟩ := pv
          have hi2 : i ≤ 1 := by omega
          have hmul : i * drw d' ≤ drw d' := by
            rcases Nat.le_one_iff_eq_zero_or_eq_one.mp hi2 with z | z <;> rw [z] <;> omega
          have hmul2 : (i + 1) * drw d' = i * drw d' + drw d' := Nat.succ_mul _ _
          refine ⟨rfl, ?_⟩
          refine ⟨_, rfl, _, rfl, _, _, rfl, rfl, st, q, _, d', congrArg (fun x => [V.ref st, V.int x]) (by omega), S8, rfl, by omega, by omega, fun v b fp H10 ob S10 k10 nw => ?_⟩
          obtain ⟨acc, w1, w2, w3⟩ := M8.snoc (S := At2 st q) (.inr fun b hb => kp2_free K8 S8 hb) k10 S8.noTup nL hst nw
          refine ⟨acc, w1, ?_, fun b u eb nb => ?_, ?_, sqT_updL w1 (sqT_kp k10 S8.noTup n8), sqT_updL w1 (sqT_kp k10 S8.noTup p8), ps ++ [b], ?_, ?_, ?_⟩
          · rw [w2, List.length_map, l8]
            exact Nat.lt_of_le_of_lt hi2 (by decide)
          · rw [upd_ne (ne_of_none eb hLH)]
            exact (K8.trans k10) b u eb nb
          · exact (S10.upd nL _).more (by omega)
          · rw [List.length_append, l8]; rfl
          · intro p hp
            rcases List.mem_append.mp hp with z | z
            · exact o8 p z
            · rw [List.mem_singleton.mp z]; exact ob
          · rw [List.map_append]; exact w3
        · obtain ⟨K8, S8, n8, p8, ps, l8, o8, M8⟩ := pv
          have hr2 : r.toNat ≤ 2 := by omega
          have hmul : r.toNat * drw d' ≤ 2 * drw d' := Nat.mul_le_mul_right _ hr2
          exact ⟨L, ps, rfl, by omega, ⟨hm, he, hh, by omega, o8⟩, S8.more (by omega), K8, n8, p8, hLH, M8⟩
    · rintro σ' H' ⟨L, ps, rfl, l2, ob, S7, K7, n7, p7, hL, M7⟩
      have obp := ob.parts
      obtain ⟨a1, a2, a3, a4⟩ := nmM_ok m obp.1
      obtain ⟨b1, b2, b3, b4⟩ := nmE_ok e obp.2.1
      obtain ⟨c1, c2, c3, c4, c5, c6, c7, c8⟩ := nmH_ok _ obp.2.2.1
      dsimp only at c2 c3 c4 c5
      have hsz : 100000 ≤ sizeLine := by decide
      have btx := ob.len
      have lb9 : ∀ n, n ≤ 9 → lenB n ≤ 30000 := by decide
      have ltx := Nat.le_trans btx.1 (lb9 d hd9)
      refine ⟨fun σ' H'' => σ' = [some (.ref st), some (.int (d : Nat)), some (.ref an), some (.ref ah), some (.ref L), some (.str (S (m ++ 46 :: (e ++ 32 :: headT nh nt)))), none, none, none] ∧ H'' = H', ?_, ?_⟩
      · have hI : decide (V.str (S nh) = V.str "") = isI nh nt := by
          rw [← c5]
          exact decide_eq_decide.mpr ⟨fun z => S_inj (V.str.inj z), fun z => by rw [z]; rfl⟩
        have e46 : ("." : Str) = S [46] := by decide +kernel
        have e32 : (" " : Str) = S [32] := by decide +kernel
        have eInt : ("int" : Str) = S cInt := by decide +kernel
        rw [e46, e32, eInt]
        refine ⟨_, rfl, an, _, 0, _, rfl, rfl, n7, rfl, _, _, rfl, rfl, (by rw [S_len, S_len]; show _ + 1 ≤ _; omega), _, rfl, an, _, 1, _, rfl, rfl, n7, rfl, _, _, rfl, rfl, (by rw [S_cat, S_len, S_len, List.length_append]; show _ + 1 + _ ≤ _; omega), _, _, rfl, rfl, (by rw [S_cat, S_cat, S_len, S_len, List.length_append, List.length_append]; show _ + 1 + _ + 1 ≤ _; omega), ?_⟩
        rw [S_cat, S_cat, S_cat]
        refine ⟨_, rfl, ah, _, 0, _, rfl, rfl, p7, rfl, rfl, _, rfl, ?_⟩
        rw [hI]
        refine ite_b (fun h => ?_) (fun h => ?_)
        · have eh : headT nh nt = cInt := if_pos h
          refine ⟨_, _, rfl, rfl, (by rw [S_len, S_len]; simp only [List.length_append, List.length_cons, List.length_nil]; omega), ?_⟩
          rw [S_cat, eh]
          exact ⟨by simp, rfl⟩
        · have eh : headT nh nt = nh ++ 46 :: nt := if_neg (by rw [h]; exact Bool.false_ne_true)
          refine ⟨_, rfl, ah, _, 0, _, rfl, rfl, p7, rfl, _, _, rfl, rfl, (by rw [S_len, S_len]; show _ + 1 ≤ _; omega), _, rfl, ah, _, 1, _, rfl, rfl, p7, rfl, _, _, rfl, rfl, (by rw [S_cat, S_len, S_len, List.length_append]; show _ + 1 + _ ≤ _; omega), ?_⟩
          rw [S_cat, S_cat]
          refine ⟨_, _, rfl, rfl, (by rw [S_len, S_len]; simp only [List.length_append, List.length_cons, List.length_nil]; omega), ?_⟩
          rw [S_cat, eh]
          exact ⟨by simp, rfl⟩
      rintro σ' H'' ⟨rfl, rfl⟩
      obtain ⟨acc, fp, mL, mr, mf, mn, mnl⟩ := M7.ex
      obtain ⟨vs, vr, vat⟩ := unpair mr
      have lacc : acc.length = ps.length := by rw [mr.len, List.length_map]
      have lvs : vs.length = ps.length := by rw [vr.len, dOfs_len]
      refine ⟨fun σ' H3 => σ' = [some (.ref st), some (.int (d : Nat)), some (.ref an), some (.ref ah), some (.ref L), some (.str (S (txt (.mk m e nh nt ps)))), none, none, none] ∧ Same H'' H3, ?_, ?_⟩
      · have okl : okD 63 (.lst (ps.map pairD)) := fun z hz => by
          obtain ⟨p, hp, rfl⟩ := List.mem_map.mp hz
          obtain ⟨n', en, o⟩ := obp.2.2.2.2 p hp
          exact okD_mono o.okp (by show 2 * n' + 3 ≤ 62; omega)
        have e40 : ("(" : Str) = S [40] := by decide +kernel
        have e41 : (")" : Str) = S [41] := by decide +kernel
        have e44 : (", " : Str) = S [44, 32] := by decide +kernel
        refine ⟨_, rfl, _, rfl, (by show 0 ≤ sizeLine; decide), fun p hp => ?_⟩
        have ep := same_new hp (.lst [])
        refine ⟨_, _, Rep.dp _ 63 _ _ ((Rep.lst mL mr).same ep) okl, .lst (SqL.of upd_same) .nil, okD_shaped okl (by decide), by decide, _, rfl, ?_⟩
        have ev : PyData.eqv (pyOf (.lst (ps.map pairD))) (.list []) = decide (ps = []) := by
          cases ps with
          | nil => rfl
          | cons p ps => exact (decide_eq_false (fun z => nomatch z)).symm
        rw [ev]
        by_cases h0 : ps = []
        · rw [decide_eq_true h0]
          refine ite_f rfl ⟨_, _, rfl, rfl, (by rw [S_len]; simp only [List.length_append, List.length_cons]; show _ + 0 ≤ _; omega), ?_, ep⟩
          rw [show ("" : Str) = S [] from rfl, S_cat, h0, List.append_nil, txt_eq]
          show _ = [some (V.ref st), some (V.int (d : Nat)), some (V.ref an), some (V.ref ah), some (V.ref L), some (V.str (S (m ++ 46 :: (e ++ 32 :: (headT nh nt ++ []))))), none, none, none]
          rw [List.append_nil]
          rfl
        · rw [decide_eq_false h0]
          have pT : partT ps = [40] ++ joinT (txts ps) ++ [41] := by
            cases ps with
            | nil => exact absurd rfl h0
            | cons q ps => rfl
          have tT : txt (.mk m e nh nt ps) = (m ++ 46 :: (e ++ 32 :: headT nh nt)) ++ partT ps := by rw [txt_eq]; simp
          have lT : (m ++ 46 :: (e ++ 32 :: headT nh nt)).length + ((joinT (txts ps)).length + 2) ≤ 30000 := by
            have := ltx
            rw [tT, List.length_append, pT] at this
            simp only [List.length_append, List.length_cons, List.length_nil] at this ⊢
            omega
          have jn : Txt.join ", " (ps.map fun p => S (txt p)) = S (joinT (txts ps)) := by
            rw [e44, show (ps.map fun p => S (txt p)) = (txts ps).map S by rw [txts_map, List.map_map]; rfl, join_S, joinT_joinL]
          refine ite_t rfl ⟨⟨_, rfl⟩, _, rfl, L, rfl, ⟨acc, SqL.of (ep _ _ mL)⟩, fun L2 hL2 => lc_it walk_list (fun i H4 => Same H'' H4 ∧ H4 L2 = some (.lst ((ps.take i).map fun p => V.str (S (txt p))))) ⟨ep.trans (same_new hL2 _), upd_same⟩ (fun i H4 _ pv => SqL.of (pv.1 _ _ mL)) (fun i x H4 H5 hi pv y => ?_) (fun H4 pv => ?_)⟩
          · obtain ⟨rfl, hx⟩ := y
            obtain ⟨a, v, p', rfl, g2, g3, g4⟩ := vat i x hx
            refine ⟨a, _, rfl, Same.sqT pv.1 g4, rfl, _, _, rfl, _, _, rfl, rfl, rfl, ?_⟩
            refine ⟨_, rfl, _, pv.2, ?_, same_upd pv.1 (ep.free hL2), ?_⟩
            · rw [List.length_map, List.length_take]
              exact Nat.lt_of_le_of_lt (by omega : _ ≤ 6000) (by decide)
            · rw [upd_same, List.take_add_one, g3, List.map_append]
              rfl
          · obtain ⟨p1, p2⟩ := pv
            rw [lacc, List.take_length] at p2
            have p2' : H4 L2 = some (.lst ((ps.map fun p => S (txt p)).map V.str)) := by rw [p2, List.map_map]; rfl
            refine ⟨", ", L2, _, rfl, rfl, .inl (SqL.of p2'), ?_, _, _, rfl, rfl, ?_, _, _, rfl, rfl, ?_, _, _, rfl, rfl, ?_, ?_⟩
            · have j1 := (joinT_sum (txts ps)).1
              have j3 : ((ps.map fun p => S (txt p)).map (fun x => x.length)).sum = ((txts ps).map List.length).sum := by
                rw [txts_map, List.map_map, List.map_map]
                congr 1
              rw [j3, List.length_map]
              show _ + ps.length * 2 ≤ _
              omega
            · rw [jn, e40, S_len, S_len]
              show 1 + _ ≤ _
              omega
            · rw [jn, e40, S_cat, S_len]
              show ([40] ++ _).length + 1 ≤ _
              rw [List.length_append, List.length_singleton]
              omega
            · rw [jn, e40, e41, S_cat, S_cat, S_len, S_len]
              simp only [List.length_append, List.length_cons, List.length_nil] at lT ⊢
              omega
            · rw [jn, e40, e41, S_cat, S_cat, S_cat, tT, pT]
              exact ⟨rfl, p1⟩
      · rintro σ' H3 ⟨rfl, e3⟩
        refine ⟨_, rfl, _, rfl, _, rfl, L, rfl, ⟨acc, SqL.of (e3 _ _ mL)⟩, fun L5 hL5 => lc_it walk_list (fun i H4 => Same H3 H4 ∧ H4 L5 = some (.lst (vs.take i))) ⟨same_new hL5 _, upd_same⟩ (fun i H4 _ pv => SqL.of (pv.1 _ _ (e3 _ _ mL))) (fun i x H4 H5 hi pv y => ?_) (fun H4 pv => ?_)⟩
        · obtain ⟨rfl, hx⟩ := y
          obtain ⟨a, v, p', rfl, g2, g3, g4⟩ := vat i x hx
          refine ⟨a, _, rfl, Same.sqT (e3.trans pv.1) g4, rfl, _, _, rfl, _, _, rfl, rfl, rfl, ?_⟩
          refine ⟨_, rfl, _, pv.2, ?_, same_upd pv.1 hL5, ?_⟩
          · rw [List.length_take]
            exact Nat.lt_of_le_of_lt (by omega : _ ≤ 6000) (by decide)
          · rw [upd_same, List.take_add_one, g2]
            rfl
        · obtain ⟨p1, p2⟩ := pv
          rw [lacc, ← lvs, List.take_length] at p2
          refine ⟨(by show 4 ≤ sizeLine; decide), fun t1 h1 => ⟨_, rfl, (by show 2 ≤ sizeLine; decide), fun t2 h2 => ?_⟩⟩
          have x1 := same_new h1 (.tup [V.str "by", V.ref an, V.ref ah, V.ref L5])
          have y1 : SqT K (upd H4 t1 (.tup [V.str "by", V.ref an, V.ref ah, V.ref L5])) t1 [V.str "by", V.ref an, V.ref ah, V.ref L5] := SqT.of upd_same
          generalize upd H4 t1 (.tup [V.str "by", V.ref an, V.ref ah, V.ref L5]) = H5 at h2 x1 y1 ⊢
          have x2 := same_new h2 (.tup [V.ref t1, V.str (S (txt (.mk m e nh nt ps)))])
          have xe := e3.trans (p1.trans (x1.trans x2))
          have hL5' : H L5 = none := kp2_free K7 S7 ((e3.free hL5))
          refine k _ _ (L5 :: fp) _ ob (S7.same xe) (K7.trans (Kp.of_same xe)) ⟨.tup (SqT.of upd_same) ?_, ?_, ?_⟩
          · have z1 : Rep K (upd H5 t2 (.tup [V.ref t1, V.str (S (txt (.mk m e nh nt ps)))])) (.ref L5) (.lst (dOfs ps)) (L5 :: fp) := .lst ((x1.trans x2) _ _ p2) (vr.same xe)
            have za : Rep K (upd H5 t2 (.tup [V.ref t1, V.str (S (txt (.mk m e nh nt ps)))])) (.ref an) (.tup [.str (S m), .str (S e)]) [] := .tup (Same.sqT xe n7) (.cons (.str _) (.cons (.str _) .nil))
            have zh : Rep K (upd H5 t2 (.tup [V.ref t1, V.str (S (txt (.mk m e nh nt ps)))])) (.ref ah) (.tup [.str (S nh), .str (S nt)]) [] := .tup (Same.sqT xe p7) (.cons (.str _) (.cons (.str _) .nil))
            have z2 : Rep K (upd H5 t2 (.tup [V.ref t1, V.str (S (txt (.mk m e nh nt ps)))])) (.ref t1) (dOf (.mk m e nh nt ps)) (L5 :: fp) := .tup (Same.sqT x2 y1) (Reps.cons (.str "by") (Reps.cons za (Reps.cons zh (Reps.one z1))))
            have z3 := Reps.cons z2 (Reps.one (Rep.str (K := K) (H := upd H5 t2 (.tup [V.ref t1, V.str (S (txt (.mk m e nh nt ps)))])) (S (txt (.mk m e nh nt ps)))))
            rw [List.append_nil] at z3
            exact z3
          · intro b hb
            rcases List.mem_cons.mp hb with z | z
            · rw [z]; exact hL5'
            · exact mf b z
          · refine List.nodup_cons.mpr ⟨fun hb => ?_, mn⟩
            have q1 := vr.trk L5 hb
            exact q1 (e3.free hL5)
end
end K54
set_option Elab.async false
set_option linter.all false
set_option maxRecDepth 100000
set_option maxHeartbeats 4000000
/-! K17: rules of my own: several clauses 'except x as n'; a keyword alone; a captured def called; a def that gets two lambdas. -/
namespace K54
open PySem PySem.Spec PyProof.Rows L2 C8 RZ LiI SX LamX
/-! ### except A as n: .. except B as n: .. -/
abbrev ndAs (i : Nat) (D : Ends) : Ends := { nx := fun σ' H' => D.nx (σ'.set i none) H', rt := D.rt, bk := fun σ' H' => D.bk (σ'.set i none) H', ct := fun σ' H' => D.ct (σ'.set i none) H' }
def wMA (K : PySem.W.Frag) (nl i : Nat) (Wout : WX) (D : Ends) : List (Value × (Addr → Value → Option Addr → TS)) → WX
  | [] => Wout
  | (c, ts) :: r => fun cls d σ H => ∃ b, PySem.W.exmOne K cls c = some b ∧ (b = true → σ.length = nl → ∀ a, H a = none → ts a cls d (ndAs i D) (σ.set i (some (.ref a))) H) ∧ (b = false → wMA K nl i Wout D r cls d σ H)
inductive ClausesAs (X : Cx) (n : Str) : List ExceptHandler → List (Value × (Addr → Value → Option Addr → TS)) → Prop
  | nil : ClausesAs X n [] []
  | cons {x : Str} {c : Value} {ts : Addr → Value → Option Addr → TS} {b₀ : Stmt} {su : List Stmt} {np pp : Pos} {hs : List ExceptHandler} {l : List (Value × (Addr → Value → Option Addr → TS))} (hc : Names X x c)
      (hsu : ∀ (a : Addr) (oe : Obj) (cls : Value) (d : Option Addr) (pn : List (Addr × Obj)), Zc cls d oe → (∃ vs, oe.data = .fields vs) → PSs (X.suite a ((a, oe) :: pn)) (b₀ :: su) (ts a cls d)) (r : ClausesAs X n hs l) :
      ClausesAs X n (.ExceptHandler (some (.Name x np)) (some n) (b₀ :: su) pp :: hs) ((c, ts) :: l)
section
variable {X : Cx} {n : Str} {i : Nat} {body : List Stmt} {h₀ : ExceptHandler} {hds : List ExceptHandler} {l : List (Value × (Addr → Value → Option Addr → TS))} {pos : Pos} {tb : WX → TS} {Wout : WX}
theorem ps_tryMA (hstk : X.stack = X.env :: X.outer) (hfrm : X.env.frame = some X.env.locals) (hN : X.N.Nodup) (hi : X.N[i]? = some n) (hln : X.env.kindOf n = some .local) (tk : Takes X Wout)
    (hb : ∀ (W : WX) (pn : List (Addr × Obj)) (xe : Value → Shared → Prop), Takes (X.tr pn xe) W → PassesOwn (model X.prog X.w) X.A X.env xe → PSs (X.tr pn xe) body (tb W)) (hcl : ClausesAs X n (h₀ :: hds) l) :
    PS X (.Try body (h₀ :: hds) [] [] pos) (fun D σ H => tb (wMA X.K X.N.length i Wout D l) D σ H) := by
  refine ⟨fun pins s σ H D I h => wpAny_Try_except ?_⟩
  have okX := I.ok
  have frX : X.A.frames = some (X.env :: X.outer) := by rw [okX.frames, hstk]
  refine wpAny_mono ((hb (wMA X.K X.N.length i Wout D l) (X.pn ++ pins) (fun e s₁ => wpAny (model X.prog X.w) X.A (noteFrame e X.env) (fun _ s₂ => wpAny (model X.prog X.w) X.A (setFlight e none) (fun _ s₃ =>
    wpAny (model X.prog X.w) X.A (handleBy e X.env (h₀ :: hds)) (SP X pins D) X.xe s₃) X.xe s₂) X.xe s₁) (fun u s' air => ?_) PassesOwn.looking).run [] s σ H D (I.toTry _) h) (fun fl s1 hsp => ?_) (fun e s1 he => he)
  · obtain ⟨a, B, sI, pins', σ', H', cls, d, rfl, Jt, nb, up, sky, na, os, ag, w⟩ := air
    have J : Inv X pins σ' H' sI := Jt.ofTry okX
    have skyX : Sky B (X.env :: X.outer) a (Zc cls d) X.env.locals s'.heap := by rw [← hstk]; exact sky
    show wpAny (model X.prog X.w) X.A (noteFrame (.ref a) X.env) _ _ _
    refine Sky.land Zc.steady frX hfrm skyX fun h3 fl3 up3 => ?_
    have upA := up.trans up3
    have J3 : Inv X pins σ' H' { s' with heap := h3 } := J.landed nb fl3.1 upA os ag
    obtain ⟨oe3, vs3, he3, hz3, hd3⟩ := fl3.there
    have away : a ∉ frs (X.env :: X.outer) := fun hm => by
      obtain ⟨_, o', e', hnf⟩ := fl3.2.2.1.mem hm
      rw [he3] at e'
      cases e'
      exact hnf _ hd3
    have awayL : a ≠ X.env.locals := fun z => away (List.mem_filterMap.mpr ⟨_, List.mem_cons_self, by rw [hfrm, z]⟩)
    have awayF : a ∉ X.fs := fun hm => by
      obtain ⟨e, he, q⟩ := List.mem_filterMap.mp hm
      exact away (List.mem_filterMap.mpr ⟨e, List.mem_cons_of_mem _ he, q⟩)
    have S3 := J3.suite he3 hd3 na awayL awayF
    suffices go : ∀ {hs' : List ExceptHandler} {l' : List (Value × (Addr → Value → Option Addr → TS))}, ClausesAs X n hs' l' → wMA X.K X.N.length i Wout D l' cls d σ' H' → wpAny (model X.prog X.w) X.A (handleBy (.ref a) X.env hs') (SP X pins D) X.xe { s' with heap := h3 } from go hcl w
    intro hs' l' hk
    induction hk with
    | nil =>
      intro w
      obtain ⟨_, _, _, oe, vs, T, _, _, he, _, hd, h1, _⟩ := id fl3
      have fin : wpAny (model X.prog X.w) X.A (setFlight (.ref a) X.env.frame) (fun _ s4 => wpAny (model X.prog X.w) X.A (throw (.ref a) : Sem Flow) (SP X pins D) X.xe s4) X.xe { s' with heap := h3 } := by
        rw [hfrm]
        exact HandSPX.setFlight_upZ fl3 fun h4 hh4 up4 => wpAny_throw (tk _ _ ⟨a, B, sI, pins, σ', H', cls, d, rfl, J, nb, upA.trans up4, .inr (.inr (by rw [hstk]; exact hh4)), na, os, ag, w⟩)
      refine wpAny_handleBy_nil ?_
      unfold PySem.passOn
      refine wpAny_bind (wpAny_field he hd h1 ?_)
      rw [if_neg (by simp : ¬ ((Value.ref T == Value.none) = true))]
      first
        | exact wpAny_bind (wpAny_pure (wpAny_bind fin))
        | exact wpAny_bind fin
    | @cons x c ts b₀ su np pp hs2 l2 hc hsu r ih =>
      rintro ⟨b, hb1, yes, no⟩
      have LM := PySem.W.exm_one (M := model X.prog X.w) J3.kIn (fun A Q E s k q => wpAny_typeOf_ref (k _ _ he3) (by rw [hz3.1]; exact q) : PySem.W.Looks (model X.prog X.w) h3 (typeOf (.ref a)) cls) hb1
      refine wpAny_handleBy_cons (codeAny_handlers_test ?_) (by intro q; cases q)
      have test : ∀ {Q E : Value → Shared → Prop}, Q c { s' with heap := h3 } → wpAny (model X.prog X.w) (X.A.mark (some (.ref a))) (eval (.Name x np) X.env) Q E { s' with heap := h3 } := fun {Q E} q => by
        rcases hc with ⟨hg, hdb, hm | ⟨hm, hv, hnn⟩⟩
        · exact ld_glob (X := X.suite a ((a, oe3) :: (X.pn ++ pins))) S3 hg hm q hdb
        · exact ld_blt (X := X.suite a ((a, oe3) :: (X.pn ++ pins))) S3 hg hm hv q hnn hdb
      refine test (LM.here ?_)
      cases b with
      | false =>
        show wpAny _ X.A (handleBy (.ref a) X.env hs2) _ _ _
        exact ih (no rfl)
      | true =>
        refine codeAny_handlers_suite_as (HandSPX.lands_againZ fl3 fun h4 fl4 up4 => ?_)
        have J4 : Inv X pins σ' H' { s' with heap := h4 } := J.landed nb fl4.1 (upA.trans up4) os ag
        obtain ⟨oe4, vs4, he4, hz4, hd4⟩ := fl4.there
        refine store_ok (X := X.suite a ((a, oe4) :: (X.pn ++ pins))) (v := .ref a) (J4.suite he4 hd4 na awayL awayF) hN hi (.inl hln) rfl (fun s5 S5 => ?_) (.inr hln)
        refine wpAny_mono ((hsu a oe4 cls d (X.pn ++ pins) hz4 ⟨_, hd4⟩).run [] s5 _ H' _ S5 (yes rfl J.len a na)) (fun fl s6 hsp => ?_) (fun _ _ z => False.elim z)
        have gone : ∀ {σ6 : L2.St} {H6 : Hp} {Q : Shared → Prop}, Inv (X.suite a ((a, oe4) :: (X.pn ++ pins))) [] σ6 H6 s6 → (∀ s7, Inv X pins (σ6.set i none) H6 s7 → Q s7) →
            wpAny (model X.prog X.w) X.A (do bindName X.env n .none; unbindBehindTheSuite X.env n pp) (fun _ s7 => Q s7) X.xe s6 := fun S6 hq => gone_ok (S6.unsuite okX) hN hi hln hq
        cases fl with
        | next => obtain ⟨σ6, H6, S6, q6⟩ := hsp; exact gone S6 fun s7 J7 => ⟨_, _, J7, q6⟩
        | brk => obtain ⟨σ6, H6, S6, q6⟩ := hsp; exact gone S6 fun s7 J7 => ⟨_, _, J7, q6⟩
        | cont => obtain ⟨σ6, H6, S6, q6⟩ := hsp; exact gone S6 fun s7 J7 => ⟨_, _, J7, q6⟩
        | ret u => obtain ⟨v6, σ6, H6, S6, r6, q6⟩ := hsp; exact gone S6 fun s7 J7 => ⟨_, _, _, J7, r6, q6⟩
  · cases fl with
    | next => obtain ⟨σ', H', J', q⟩ := hsp; exact wpAny_execs_nil ⟨σ', H', J'.ofTry okX, q⟩
    | brk => obtain ⟨σ', H', J', q⟩ := hsp; exact ⟨σ', H', J'.ofTry okX, q⟩
    | cont => obtain ⟨σ', H', J', q⟩ := hsp; exact ⟨σ', H', J'.ofTry okX, q⟩
    | ret u => obtain ⟨v, σ', H', J', r, q⟩ := hsp; exact ⟨v, σ', H', J'.ofTry okX, r, q⟩
end
/-! ### f(n = v) -/
section
variable {X : Cx} {k j : Nat} {x n : Str} {sp : Sp} {p pos kp : Pos} {e : Expr} {te : TE} {E : L2.St → XK}
def tCallW (sp : Sp) (E : L2.St → XK) (te : TE) : TE := fun σ H Q => te σ H fun v H1 => sp [v] H1 Q (E σ)
theorem pe_cW {ps : List Str} (c : CalX X.prog X.w X.K X.mg X.base k x ps sp) (hn : ps = [n]) (hr : Room j X.A) (hk : k ≤ j) (hg : Gl X x) (hx : ∀ σ, PassesAt (L2.CX X.prog X.w) X σ (E σ)) (ha : PE X e te)
    (hdb : (x == ("__debug__" : Str)) = false := by decide) : PE X (.Call (.Name x p) [] [⟨some n, e, kp⟩] pos) (tCallW sp E te) := by
  obtain ⟨g, fd, F, hm, kq, b, kw⟩ := c.ex
  subst hn
  refine ⟨fun pins s σ H Q I h => wpAny_Call_Name_kw (ld_glob I hg hm ?_ hdb)⟩
  refine PySem.W.callWith_KW0 (h₀ := X.base) I.ok.mod.kin kq (by rfl) ?_ (by rfl)
  refine thn ((pk_cons (nm := some n) (kpos := kp) ha pk_nil).run pos pins s σ H (fun zs H2 => sp zs H2 Q (E σ)) I h) fun ws s2 ⟨zs, H2, I2, rz, q⟩ => ⟨I2.kIn, ?_⟩
  have l1 : zs.length = 1 := F.len zs H2 Q (E σ) q
  obtain ⟨v, rfl⟩ := List.length_eq_one_iff.mp l1
  obtain ⟨u, rfl, ru⟩ := rz.one
  have key : codeAny (model X.prog X.w) X.A (.call (.ref g) ⟨[], [(n, u)]⟩) (CR (L2.CX X.prog X.w) X.stack X.prog X.w H2 s2 Q (E σ)) s2 :=
    F.run X.A X.stack s2 H2 ⟨[], [(n, u)]⟩ [u] [v] Q (E σ) (hr.mono hk) I2.env0 (kw n rfl s2 u I2.kIn) (.cons ru .nil) q
  refine wpAny_call (codeAny_mono key fun r s' hq => ?_)
  cases r with
  | error e => exact hx σ pins H2 s2 e s' I2 hq
  | ok fl =>
    cases fl with
    | ret u => exact I2.after hq
    | next => exact False.elim hq
    | brk => exact False.elim hq
    | cont => exact False.elim hq
end
end K54

set_option Elab.async false
set_option linter.all false
set_option maxRecDepth 100000
set_option maxHeartbeats 4000000
/-! K18: _law_met and _law_twice, called with lambdas. -/
namespace K54
open PySem PySem.Spec PyProof.Rows L2 C8 RZ LiI SX LamX
/-- the errors' classes as the clauses ask them -/
structure ExF (K : PySem.W.Frag) (mg : Str → Option Value) (CB CT : Addr) : Prop where
  gB : mg "BadBook" = some (.ref CB)
  gT : mg "BadText" = some (.ref CT)
  xB : XfC K CB
  xT : XfC K CT
  nB : PySem.W.findIn K (.ref CB) "book" = some none
  nT : PySem.W.findIn K (.ref CT) "text" = some none
  eBB : PySem.W.exmOne K (.ref CB) (.ref CB) = some true
  eTB : PySem.W.exmOne K (.ref CT) (.ref CB) = some false
  eTT : PySem.W.exmOne K (.ref CT) (.ref CT) = some true
abbrev s_met : Stmt := top 36
theorem sc_met : FnScope ["ask", "e"] ["ask"] (fnScope s_met) := fnScope_by (by decide +kernel)
def EMet (CB CT : Addr) (Q : VK) : XK := fun cls d H' => (cls = .ref CB ∧ ∃ dd v, d = some dd ∧ H' dd = some (.xd [("book", v)]) ∧ ∀ p, H' p = none → Q (.ref p) (upd H' p (.tup [.str "book", v]))) ∨
  (cls = .ref CT ∧ ∃ dd v, d = some dd ∧ H' dd = some (.xd [("text", v)]) ∧ ∀ p, H' p = none → Q (.ref p) (upd H' p (.tup [.str "text", v])))
def TMet (CB CT : Addr) : (XK → Hp → VK → Prop) → Hp → VK → Prop := fun tl H Q => tl (EMet CB CT Q) H fun v H1 => [V.str "told", v].length ≤ sizeLine ∧ ∀ p, H1 p = none → Q (.ref p) (upd H1 p (.tup [.str "told", v]))
theorem met_gives {X : Cx} {g : Addr} {cdg : Value} {q : Str} {CB CT : Addr} (F : ExF X.K X.mg CB CT) : GivesTo X ["ask", "e"] "_law_met" (fnScope s_met) g cdg (fnBody s_met) "ask" q (TMet CB CT) := by
  intro f c' s H Q tl act hc h
  refine ⟨_, pss_one (ps_tryMA (X := (cxOf C8.CX0 X.prog X.w X.K X.mg X.base ["ask", "e"] "_law_met" (fnScope s_met) g cdg X.A X.stack s H C8.E0).nox) (i := 1) (n := "e")
      (tb := fun W D σ H => ∃ Ech : XK, (∀ cls d σ' H', Ech cls d H' → W cls d σ' H') ∧ σ[0]? = some (some (.ref f)) ∧ H c' = some (CodeO c' q) ∧ tl Ech H fun v H1 => [V.str "told", v].length ≤ sizeLine ∧ ∀ p, H1 p = none → D.rt (.ref p) (upd H1 p (.tup [.str "told", v])))
      (l := [(.ref CB, fun a cls d => tRet (tTup (tCons (tC (.str "book")) (tCons (tXf a cls d CB "book" (tVar 1)) tNil)))), (.ref CT, fun a cls d => tRet (tTup (tCons (tC (.str "text")) (tCons (tXf a cls d CT "text" (tVar 1)) tNil))))])
      rfl rfl sc_met.nd rfl rfl LamX.takes0 (fun W pn xe tk _ => ?_)
      (.cons ⟨rfl, by decide, .inl F.gB⟩ (fun a oe cls d pn hz hf => pss_one (ps_ret (pe_tup (pa_cons pe_str (pa_cons (pe_xf F.xB F.nB hz hf (pe_var (i := 1) rfl (.inl rfl))) pa_nil)))))
        (.cons ⟨rfl, by decide, .inl F.gT⟩ (fun a oe cls d pn hz hf => pss_one (ps_ret (pe_tup (pa_cons pe_str (pa_cons (pe_xf F.xT F.nT hz hf (pe_var (i := 1) rfl (.inl rfl))) pa_nil))))) .nil))), ?_⟩
  · refine ⟨fun pins s' σ H' D I h' => ?_⟩
    obtain ⟨Ech, hW, h1, h2, h3⟩ := h'
    refine PSs.run (pss_one (ps_ret (pe_tup (pa_cons pe_str (pa_cons (act W pn xe Ech _ _ tk hW) pa_nil))))) pins s' σ H' D I ⟨h1, h2, h3⟩
  · refine ⟨EMet CB CT Q, fun cls d σ' H' hE => ?_, rfl, hc, h⟩
    have s1 : ∀ a : Addr, σ'.length = 2 → (σ'.set 1 (some (V.ref a)))[1]? = some (some (V.ref a)) := fun a l => by
      rw [List.getElem?_set_self (by omega)]
    rcases hE with ⟨rfl, dd, v, rfl, hd, hq⟩ | ⟨rfl, dd, v, rfl, hd, hq⟩
    · exact ⟨true, F.eBB, fun _ l a ha => ⟨_, s1 a l, rfl, rfl, dd, _, v, rfl, hd, rfl, (by show 2 ≤ sizeLine; decide), hq⟩, fun z => nomatch z⟩
    · exact ⟨false, F.eTB, (fun z => nomatch z), fun _ => ⟨true, F.eTT, fun _ l a ha => ⟨_, s1 a l, rfl, rfl, dd, _, v, rfl, hd, rfl, (by show 2 ≤ sizeLine; decide), hq⟩, fun z => nomatch z⟩⟩
/-! ### a def that gets a thing and two lambdas -/
/-- what the def g makes of the two -/
def Gives2 (X : Cx) (kk : Nat) (Ng : List Str) (x : Str) (sg : Scope) (g : Addr) (cdg : Value) (bg : List Stmt) (a b : Str) (q : Str) (TT : (XK → Hp → VK → Prop) → (XK → Hp → VK → Prop) → V → Hp → VK → Prop) : Prop :=
  ∀ (f1 c1 f2 c2 : Addr) (d : V) (s : Shared) (H : Hp) (Q : VK) (t1 t2 : XK → Hp → VK → Prop), Room kk (X.A.deeper (envOfC x sg s.heap.objs.size g cdg)) →
    (∀ (p1 p2 : Pos), PE (cxOf C8.CX0 X.prog X.w X.K X.mg X.base Ng x sg g cdg X.A X.stack s H C8.E0).nox (.Call (.Name a p1) [] [] p2) (fun σZ HZ Q => σZ[1]? = some (some (.ref f1)) ∧ HZ c1 = some (CodeO c1 q) ∧ t1 C8.E0 HZ Q)) →
    (∀ (p1 p2 : Pos), PE (cxOf C8.CX0 X.prog X.w X.K X.mg X.base Ng x sg g cdg X.A X.stack s H C8.E0).nox (.Call (.Name b p1) [] [] p2) (fun σZ HZ Q => σZ[2]? = some (some (.ref f2)) ∧ HZ c2 = some (CodeO c2 q) ∧ t2 C8.E0 HZ Q)) →
    H c1 = some (CodeO c1 q) → H c2 = some (CodeO c2 q) → TT t1 t2 d H Q →
    ∃ t, PSs (cxOf C8.CX0 X.prog X.w X.K X.mg X.base Ng x sg g cdg X.A X.stack s H C8.E0).nox bg t ∧ t { nx := fun _ H' => Q .non H', rt := Q } (L2.start Ng [d, .ref f1, .ref f2]) H
def tTwo (T : List (Addr × Str)) (TT : (XK → Hp → VK → Prop) → (XK → Hp → VK → Prop) → V → Hp → VK → Prop) (t0 : TE) (t1 t2 : XK → TE) : TE := fun σ H Q => t0 σ H fun d H0 => Tabs T H0 ∧ ∀ H1, ExtN H0 H1 → Tabs T H1 → TT (fun E H' Q' => t1 E σ H' Q') (fun E H' Q' => t2 E σ H' Q') d H1 Q
section
variable {X : Cx}
/-- x(e0, lambda: .., lambda: ..) -/
theorem pe_two {T : List (Addr × Str)} {TT : (XK → Hp → VK → Prop) → (XK → Hp → VK → Prop) → V → Hp → VK → Prop} {x y a b : Str} {g c P : Addr} {k : Nat} {pg : Arguments} {bg : List Stmt} {sg : Scope} {dV kV doc pm cdv ct oc : Value} {an od : Option Addr} {osl : Array (Option Value)} {Ng : List Str}
    {e0 : Expr} {pa1 pa2 : Arguments} {b1 b2 : Expr} {sc1 sc2 : Scope} {t0 : TE} {t1 t2 : XK → TE} {p l1 l2 pos : Pos} (hg : Gl X x) (hm : X.mg x = some (.ref g)) (hk : PySem.W.keepIn X.K (.ref g) = true)
    (lk : X.K.lookup g = some ⟨oc, od, .func (PySem.W.fnOf x x pg bg sg dV kV doc pm an cdv ct), osl⟩) (hcg : PySem.W.codeIn X.K cdv x = true) (hb : L2.Binds X.K (PySem.W.fnOf x x pg bg sg dV kV doc pm an cdv ct) [y, a, b] []) (Sg : FnScope Ng [y, a, b] sg)
    (hN1 : Ng[1]? = some a) (hN2 : Ng[2]? = some b) (hva : Vis sg a) (hvb : Vis sg b) (hG : Gives2 X (k + 1) Ng x sg g cdv bg a b (X.env.qual ++ "<lambda>") TT) (hs : X.stack = X.env :: X.outer) (hf : X.env.frame = some X.env.locals)
    (TB : TabB X.base X.mg c P) (hcode : X.env.code = .ref c) (hmT : (P, X.env.qual ++ "<lambda>") ∈ T) (hu : ∀ p ∈ T, p.1 = P → p.2 = X.env.qual ++ "<lambda>") (hr : Room (k + 2) X.A) (L1 : LamS X.env.scope sc1) (L2 : LamS X.env.scope sc2) (hd1 : defaultsOf pa1 X.env = ([], [])) (hd2 : defaultsOf pa2 X.env = ([], []))
    (hb1 : ∀ (q : Str) (cl : List (Str × Addr)) (pm cv ctv : Value), bindArgs (PySem.W.kla_fn "<lambda>" q pa1 b1 sc1 cl pm cv ctv) ⟨[], []⟩ = pure []) (hb2 : ∀ (q : Str) (cl : List (Str × Addr)) (pm cv ctv : Value), bindArgs (PySem.W.kla_fn "<lambda>" q pa2 b2 sc2 cl pm cv ctv) ⟨[], []⟩ = pure [])
    (h0 : PE X e0 t0)
    (hbody1 : ∀ (A : Around) (outer : List Env) (s : Shared) (H : Hp) (E : XK) (f c' : Addr), Room k (A.deeper (lamEnv X sc1 s.heap.objs.size f c')) → PE (lamCx X A outer s H E sc1 f c') b1 (t1 E))
    (hbody2 : ∀ (A : Around) (outer : List Env) (s : Shared) (H : Hp) (E : XK) (f c' : Addr), Room k (A.deeper (lamEnv X sc2 s.heap.objs.size f c')) → PE (lamCx X A outer s H E sc2 f c') b2 (t2 E))
    (hdb : (x == ("__debug__" : Str)) = false := by decide) (hda : (a == ("__debug__" : Str)) = false := by decide) (hdb2 : (b == ("__debug__" : Str)) = false := by decide) (hca : (a == ("__classdict__" : Str)) = false := by decide) (hcb : (b == ("__classdict__" : Str)) = false := by decide)
    (he : starEach [e0, .Lambda pa1 b1 sc1 l1, .Lambda pa2 b2 sc2 l2] X.env = (false, eval e0 X.env) :: starEach [.Lambda pa1 b1 sc1 l1, .Lambda pa2 b2 sc2 l2] X.env := by rfl) :
    PE X (.Call (.Name x p) [e0, .Lambda pa1 b1 sc1 l1, .Lambda pa2 b2 sc2 l2] [] pos) (tTwo T TT t0 t1 t2) := by
  refine ⟨fun pins s σ H Q I h => wpAny_Call_Name_kw (ld_glob I hg hm ?_ hdb)⟩
  refine PySem.W.callWith_K (h₀ := X.base) I.ok.mod.kin hk ?_ he (by rfl)
  rw [he]
  show wpAny _ _ (spliced ((false, eval e0 X.env) :: backTo pos [(false, eval (.Lambda pa1 b1 sc1 l1) X.env), (false, eval (.Lambda pa2 b2 sc2 l2) X.env)])) _ _ s
  refine Calls.spliced_cons (thn (h0.run pins s σ H _ I h) fun u0 s0 ⟨d, H0, I0, r0, hT, h'⟩ => ?_)
  refine Calls.spliced_cons (lam_make2 I0 TB hcode hmT hu hT hd1 (L1.has I.ok) fun f1 c1 pm1 ctv1 H1 s1 I1 eN1 T1 hf1 hfn1 hfr1 hco1 => ?_)
  have off : f1 ≠ X.env.locals ∧ f1 ∉ X.fs := by
    refine ⟨fun z => hfr1 (List.mem_filterMap.mpr ⟨X.env, by rw [hs]; exact List.mem_cons_self, by rw [hf, z]⟩), fun z => ?_⟩
    obtain ⟨e, he, q⟩ := List.mem_filterMap.mp z
    exact hfr1 (List.mem_filterMap.mpr ⟨e, by rw [hs]; exact List.mem_cons_of_mem _ he, q⟩)
  have J1 : Inv X ((f1, PySem.W.kla_obj "<lambda>" (X.env.qual ++ "<lambda>") pa1 b1 sc1 (cloFrom X.env.cells sc1.names []) pm1 c1 ctv1) :: pins) σ H1 s1 := I1.pins_of fun r hr' => by
    rcases List.mem_cons.mp hr' with e | e
    · subst e
      exact ⟨hf1, hfn1, off.1, off.2, fun v z => nomatch z⟩
    · exact I1.pin r (List.mem_append_right _ e)
  refine Calls.spliced_cons (lam_make2 J1 TB hcode hmT hu T1 hd2 (L2.has I.ok) fun f2 c2 pm2 ctv2 H2 s2 J2 eN2 T2 hf2 hfn2 hfr2 hco2 => ?_)
  have I2 : Inv X pins σ H2 s2 := J2.pins_of fun r hr' => J2.pin r (List.mem_append_right _ (List.mem_cons_of_mem _ hr'))
  have at1 := J2.pin _ (List.mem_append_right _ List.mem_cons_self)
  refine Calls.spliced_nil ⟨I2.kIn, ?_⟩
  have hco1' : H2 c1 = some (CodeO c1 (X.env.qual ++ "<lambda>")) := eN2 _ _ hco1 codeO_ne
  have rc : codeAny (model X.prog X.w) X.A (.call (.ref g) ⟨[u0, .ref f1, .ref f2], []⟩) (CR C8.CX0 X.stack X.prog X.w H2 s2 Q C8.E0) s2 := by
    refine run_ofS (N := Ng) (ps := [y, a, b]) (us := [u0, .ref f1, .ref f2]) (vs := [d, .ref f1, .ref f2]) lk hcg Sg hr I2.env0 (hb s2 [u0, .ref f1, .ref f2] I2.kIn rfl) (.cons r0 (.cons rfl (.cons rfl .nil))) rfl fun hr' => ?_
    obtain ⟨t', ht', hq'⟩ := hG f1 c1 f2 c2 d s2 H2 Q _ _ hr'
      (fun p1 p2 => pe_act (i := 1) (pn := []) (xe := fun _ _ => False) (W := fun _ _ _ _ => False) (E := C8.E0) I2 L1 at1.1 at1.2.1 hfr1 (hb1 _ _ _ _ _) LamX.takes0 (fun _ _ _ _ z => z) hr' (fun A outer s H hr2 => hbody1 A outer s H C8.E0 f1 c1 hr2) hN1 hva hda hca)
      (fun p1 p2 => pe_act (i := 2) (pn := []) (xe := fun _ _ => False) (W := fun _ _ _ _ => False) (E := C8.E0) I2 L2 hf2 hfn2 hfr2 (hb2 _ _ _ _ _) LamX.takes0 (fun _ _ _ _ z => z) hr' (fun A outer s H hr2 => hbody2 A outer s H C8.E0 f2 c2 hr2) hN2 hvb hdb2 hcb)
      hco1' hco2 (h' H2 (eN1.trans eN2) T2)
    exact ⟨t', ht'.nox, hq'⟩
  refine wpAny_call (codeAny_mono rc fun r s3 hq => ?_)
  cases r with
  | error e => exact (show False from hq).elim
  | ok fl =>
    cases fl with
    | ret u => exact I2.after hq
    | next => exact False.elim hq
    | brk => exact False.elim hq
    | cont => exact False.elim hq
end
end K54

set_option Elab.async false
set_option linter.all false
set_option maxRecDepth 100000
set_option maxHeartbeats 4000000
namespace K54
open PySem PySem.Spec PyProof.Rows L2 C8 RZ LiI SX LamX
abbrev s_twice : Stmt := top 35
theorem sc_twice : FnScope ["due", "first", "other", "found", "spoilt"] ["due", "first", "other"] (fnScope s_twice) := fnScope_by (by decide +kernel)
/-- twice the same, each time anew -/
def TTw (K : PySem.W.Frag) (m : Nat) : (XK → Hp → VK → Prop) → (XK → Hp → VK → Prop) → V → Hp → VK → Prop := fun t1 t2 d H Q => ∃ dd fp, Rep K H d dd fp ∧ NoE m dd ∧ DepLe (m + 1) (spoil dd) ∧
  (∀ H1, Same H H1 → ∀ R : VK, (∀ v fp' H2, Same H1 H2 → New K H1 H2 v dd fp' → R v H2) → t1 C8.E0 H1 R) ∧ (∀ H1, Same H H1 → ∀ R : VK, (∀ v fp' H2, Same H1 H2 → New K H1 H2 v dd fp' → R v H2) → t2 C8.E0 H1 R) ∧ (∀ H1, Same H H1 → Q (.bl true) H1)
theorem twice_gives {X : Cx} {g : Addr} {cdg : Value} {q : Str} {k m : Nat} (hk : m + 3 ≤ k + 1) (C_law_same : Cal X.prog X.w X.K X.mg X.base (m + 3) "_law_same" (sp_same X.K (m + 3)) []) (C_law_copied : Cal X.prog X.w X.K X.mg X.base (m + 1) "_law_copied" (sp_copied X.K (m + 1)) [])
    (C_law_spoilt : Cal X.prog X.w X.K X.mg X.base (m + 2) "_law_spoilt" (sp_spoilt X.K (m + 2)) []) : Gives2 X (k + 1) ["due", "first", "other", "found", "spoilt"] "_law_twice" (fnScope s_twice) g cdg (fnBody s_twice) "first" "other" q (TTw X.K m) := by
  have sc := sc_twice
  intro f1 c1 f2 c2 d s H Q t1 t2 hr A1 A2 hc1 hc2 h
  obtain ⟨dd, fp, rd, hn, hsp, k1, k2, hq⟩ := h
  have hdd : DepLe m dd := hn.dep
  refine ⟨_, (pss_cons (ps_par (i := 3) (j := 4) rfl sc.nd rfl rfl (by decide) rfl rfl (pa_cons (A1 _ _) (pa_cons (pe_c C_law_copied hr (by omega) rfl (pa_cons (pv 0) pa_nil)) pa_nil)) (by rfl))
  (pss_cons (ps_if (pt_not (pt_val (pe_c C_law_same hr (by omega) rfl (pa_cons (pv 3) (pa_cons (pv 0) pa_nil))))) (pss_one (ps_ret pe_bl)) pss_nil)
  (pss_cons (ps_expr (pe_c C_law_spoilt hr (by omega) rfl (pa_cons (pv 3) pa_nil)))
  (pss_cons (ps_expr (pe_c C_law_spoilt hr (by omega) rfl (pa_cons (pv 4) pa_nil)))
  (pss_one (ps_ret (pe_c C_law_same hr (by omega) rfl (pa_cons (pe_lst (pa_cons (pv 3) (pa_cons (A2 _ _) (pa_cons (A1 _ _) pa_nil)))) (pa_cons (pe_lst (pa_cons (pv 4) (pa_cons (pv 0) (pa_cons (pv 0) pa_nil)))) pa_nil))))))))), ?_⟩
  refine ⟨rfl, hc1, k1 H (Same.refl H) _ fun v1 g1 H1 e1 n1 => ?_⟩
  refine ⟨d, rfl, d, dd, fp, m, rfl, rd.same e1, rfl, hn, fun v2 g2 H2 e2 n2 => ⟨_, _, rfl, ?_⟩⟩
  have e12 := e1.trans e2
  have r1 := n1.rep.same e2
  have rd2 := rd.same e12
  refine ⟨_, rfl, d, rfl, v1, d, dd, g1, fp, m + 2, rfl, r1, rd2, rfl, hdd.mono (by omega), fun H3 e3 => ⟨_, rfl, ite_f rfl ?_⟩⟩
  have e123 := e12.trans e3
  refine ⟨v1, rfl, v1, dd, g1, m + 1, rfl, r1.same e3, n1.nd, rfl, hdd.mono (by omega), fun H4 q1 k4 => ?_⟩
  have nt1 : NoTup (· ∈ g1) H3 := (r1.same e3).nt
  have g2g1 : ∀ a ∈ g2, a ∉ g1 := fun a ha z => n1.rep.trk _ _ _ a z (n2.fresh a ha)
  have fpg1 : ∀ a ∈ fp, a ∉ g1 := fun a ha z => rd.trk _ _ _ a ha (n1.fresh a z)
  have fpg2 : ∀ a ∈ fp, a ∉ g2 := fun a ha z => rd.trk _ _ _ a ha (e1.free (n2.fresh a z))
  have r2 : Rep X.K H4 v2 dd g2 := (n2.rep.same e3).keep k4 nt1 _ _ _ g2g1
  have e4 : Same H H4 := fun a o ea => k4 _ _ (e123 _ _ ea) fun z => by rw [n1.fresh a z] at ea; cases ea
  refine ⟨v2, rfl, v2, dd, g2, m + 1, rfl, r2, n2.nd, rfl, hdd.mono (by omega), fun H5 q2 k5 => ?_⟩
  have nt2 : NoTup (· ∈ g2) H4 := r2.nt
  have e5 : Same H H5 := fun a o ea => k5 _ _ (e4 _ _ ea) fun z => by rw [e1.free (n2.fresh a z)] at ea; cases ea
  have q1' : Rep X.K H5 v1 (spoil dd) g1 := q1.keep k5 nt2 _ _ _ fun a ha z => g2g1 a z ha
  refine ⟨v1, rfl, rfl, e5 _ _ hc2, k2 H5 e5 _ fun v3 g3 H6 e6 n3 => ⟨rfl, (e5.trans e6) _ _ hc1, k1 H6 (e5.trans e6) _ fun v4 g4 H7 e7 n4 => ⟨(by show 3 ≤ sizeLine; decide), fun L1 hL1 => ?_⟩⟩⟩
  have x1 := same_new hL1 (.lst [v1, v3, v4])
  refine ⟨v2, rfl, d, rfl, d, rfl, (by show 3 ≤ sizeLine; decide), fun L2 hL2 => ?_⟩
  have x2 := same_new hL2 (.lst [v2, d, d])
  have x12 := x1.trans x2
  have z1 : ∃ f, Rep X.K (upd (upd H7 L1 (.lst [v1, v3, v4])) L2 (.lst [v2, d, d])) (.ref L1) (.lst [spoil dd, dd, dd]) f := ⟨_, .lst (x2 _ _ upd_same) (.cons (q1'.same (e6.trans (e7.trans x12))) (.cons (n3.rep.same (e7.trans x12)) (Reps.one (n4.rep.same x12))))⟩
  have z2 : ∃ f, Rep X.K (upd (upd H7 L1 (.lst [v1, v3, v4])) L2 (.lst [v2, d, d])) (.ref L2) (.lst [spoil dd, dd, dd]) f := ⟨_, .lst upd_same (.cons (q2.same (e6.trans (e7.trans x12))) (.cons (rd.same (e5.trans (e6.trans (e7.trans x12)))) (Reps.one (rd.same (e5.trans (e6.trans (e7.trans x12)))))))⟩
  obtain ⟨y1, z1⟩ := z1
  obtain ⟨y2, z2⟩ := z2
  refine ⟨.ref L1, .ref L2, _, y1, y2, m + 2, rfl, z1, z2, rfl, fun ds hds => ?_, fun H8 e8 => hq _ (e5.trans (e6.trans (e7.trans (x12.trans e8))))⟩
  cases hds
  refine ⟨(by show 3 ≤ 1000; decide), fun x hx => ?_⟩
  simp only [List.mem_cons, List.not_mem_nil, or_false] at hx
  rcases hx with h | h | h
  · rw [h]; exact hsp
  · rw [h]; exact hdd.mono (by omega)
  · rw [h]; exact hdd.mono (by omega)
end K54
set_option Elab.async false
set_option linter.all false
set_option maxRecDepth 100000
set_option maxHeartbeats 4000000
namespace K54
open PySem PySem.Spec PyProof.Rows L2 C8 RZ LiI SX LamX
/-! ### what tables are kept by -/
theorem Tabs.kp {T : List (Addr × Str)} {H H' : Hp} {S : Addr → Prop} (t : Tabs T H) (k : Kp S H H') (hS : ∀ a, S a → H a ≠ none → ∃ xs, H a = some (.lst xs)) : Tabs T H' := fun p hp => by
  obtain ⟨ps, h1, h2, h3⟩ := t p hp
  have ne : ∀ {a : Addr} {o : HO}, H a = some o → (∀ xs, o ≠ .lst xs) → H' a = some o := fun {a o} e n => k a o e fun z => by
    obtain ⟨xs, q⟩ := hS a z (by rw [e]; simp)
    rw [e] at q
    exact n xs (Option.some.inj q)
  refine ⟨ps, ne h1 (fun xs z => nomatch z), h2, fun pos cv hc => ?_⟩
  obtain ⟨c, e1, e2⟩ := h3 pos cv hc
  refine ⟨c, e1, ne e2 fun xs z => ?_⟩
  unfold CodeO at z
  cases z
theorem Tabs.same {T : List (Addr × Str)} {H H' : Hp} (t : Tabs T H) (e : Same H H') : Tabs T H' := t.ext e
theorem extN_same {H H' : Hp} (e : Same H H') : ExtN H H' := ExtN.of e
theorem ExtN.kp {H H' : Hp} (e : ExtN H H') : Kp (fun a => ∃ ps, H a = some (.tbl ps)) H H' := fun b o h n => e b o h fun ps z => n ⟨ps, by rw [h, z]⟩
theorem nt_tbl {H : Hp} : NoTup (fun a => ∃ ps, H a = some (.tbl ps)) H := fun a ⟨ps, h⟩ => ⟨(fun xs z => nomatch (h.symm.trans z)), (fun o xs z => nomatch (h.symm.trans z))⟩
section
variable {P : Program} {w : World} {K : PySem.W.Frag} {mg : Str → Option Value} {base : Heap} {aW aN C CB CT : Addr}
theorem Reps.notTbl0 {H : Hp} {ds : List Dt} (ih : ∀ d ∈ ds, ∀ v fp, Rep K H v d fp → ∀ a ∈ fp, ¬ ∃ ps, H a = some (.tbl ps)) : ∀ {vs fp}, Reps K H vs ds fp → ∀ a ∈ fp, ¬ ∃ ps, H a = some (.tbl ps) := by
  induction ds with
  | nil => intro vs fp h a ha; cases h; cases ha
  | cons d ds ihl =>
    intro vs fp h a ha
    cases h with
    | cons r t =>
      rcases List.mem_append.mp ha with z | z
      · exact ih d (List.mem_cons_self ..) _ _ r a z
      · exact ihl (fun d hd => ih d (List.mem_cons_of_mem _ hd)) t a z
theorem Rep.notTbl {H : Hp} : ∀ (d : Dt) (v : V) (fp : List Addr), Rep K H v d fp → ∀ a ∈ fp, ¬ ∃ ps, H a = some (.tbl ps) := by
  intro d
  induction d using Dt.ind with
  | h0 => intro v fp h a ha; cases h; cases ha
  | h1 b => intro v fp h a ha; cases h; cases ha
  | h2 i => intro v fp h a ha; cases h; cases ha
  | h3 x => intro v fp h a ha; cases h; cases ha
  | h6 =>
    intro v fp h a ha
    cases h with
    | emp e =>
      rintro ⟨ps, q⟩
      rw [List.mem_singleton.mp ha, e] at q
      cases q
  | h4 xs ih =>
    intro v fp h a ha
    cases h with
    | lst e r =>
      rcases List.mem_cons.mp ha with z | z
      · rintro ⟨ps, q⟩
        rw [z, e] at q
        cases q
      · exact Reps.notTbl0 ih r a z
  | h5 xs ih =>
    intro v fp h a ha
    cases h with
    | tup e r => exact Reps.notTbl0 ih r a ha
theorem Rep.extN {H H' : Hp} {d : Dt} {v : V} {fp : List Addr} (r : Rep K H v d fp) (e : ExtN H H') : Rep K H' v d fp := r.keep (ExtN.kp e) nt_tbl _ _ _ fun a ha => r.notTbl _ _ _ a ha
theorem Strm.extN {H H' : Hp} {st q : Addr} {n : Nat} (S : Strm H st q n) (e : ExtN H H') : Strm H' st q n := by
  obtain ⟨cs, x1, x2, x3, h1, h2, h3⟩ := S.ex
  exact ⟨cs, x1, x2, x3, e _ _ h1 (fun ps z => nomatch z), e _ _ h2 (fun ps z => nomatch z), h3⟩
abbrev s_is_very : Stmt := top 34
theorem sc_is_very : FnScope ["word", "ask", "odd", "found"] ["word", "ask"] (fnScope s_is_very) := fnScope_by (by decide +kernel)
end
/-- a def whose code object is at c -/
structure DefC (K : PySem.W.Frag) (mg : Str → Option Value) (x : Str) (st : Stmt) (ps : List Str) (c : Addr) : Prop where
  ex : ∃ (f : Addr) (oc : Value) (od : Option Addr) (dV kV doc pm : Value) (an : Option Addr) (ct : Value) (osl : Array (Option Value)), K.lookup f = some ⟨oc, od, .func (PySem.W.fnOf x x (fnArgs st) (fnBody st) (fnScope st) dV kV doc pm an (.ref c) ct), osl⟩ ∧
    PySem.W.codeIn K (.ref c) x = true ∧ mg x = some (.ref f) ∧ PySem.W.keepIn K (.ref f) = true ∧ Binds K (PySem.W.fnOf x x (fnArgs st) (fnBody st) (fnScope st) dV kV doc pm an (.ref c) ct) ps []
section
variable {P : Program} {w : World} {K : PySem.W.Frag} {mg : Str → Option Value} {base : Heap} {aW aN C CB CT : Addr}
theorem DefC.cal {x : Str} {st : Stmt} {N ps : List Str} {c : Addr} {k : Nat} {sp : Sp} (D : DefC K mg x st ps c) (S : FnScope N ps (fnScope st)) (len : ∀ vs H Q E, sp vs H Q E → vs.length = ps.length)
    (hbody : ∀ (f : Addr) (A : Around) (outer : List Env) (s : Shared) (H : Hp) (vs : List V) (Q : VK) (E : XK), Room k (A.deeper (envOfC x (fnScope st) s.heap.objs.size f (.ref c))) → sp vs H Q E →
      ∃ t, PSs (cxOf C8.CX0 P w K mg base N x (fnScope st) f (.ref c) A outer s H E).nox (fnBody st) t ∧ t { nx := fun _ H' => Q .non H', rt := Q } (start N vs) H) : Cal P w K mg base (k + 1) x sp [] := by
  obtain ⟨f, oc, od, dV, kV, doc, pm, an, ct, osl, lk, hcd, m, kp, b⟩ := D.ex
  refine ⟨f, _, ps, [], fn_of lk hcd S len fun A outer s H vs Q E hr h => ?_, m, kp, b, .nil⟩
  obtain ⟨t, h1, h2⟩ := hbody f A outer s H vs Q E hr h
  exact ⟨t, h1.nox, h2⟩
end
section
variable {X : Cx}
theorem pe_met {T : List (Addr × Str)} {CB CT c P : Addr} {k : Nat} {params : Arguments} {body : Expr} {scope : Scope} {t : XK → TE} {p lpos pos : Pos} (F : ExF X.K X.mg CB CT) (D : DefB X.K X.mg "_law_met" s_met ["ask"]) (hg : Gl X "_law_met") (TB : TabB X.base X.mg c P) (hcode : X.env.code = .ref c)
    (hmT : (P, X.env.qual ++ "<lambda>") ∈ T) (hu : ∀ p ∈ T, p.1 = P → p.2 = X.env.qual ++ "<lambda>") (hr : Room (k + 2) X.A) (L : LamS X.env.scope scope) (hdef : defaultsOf params X.env = ([], [])) (hbind : ∀ (q : Str) (cl : List (Str × Addr)) (pm cv ctv : Value), bindArgs (PySem.W.kla_fn "<lambda>" q params body scope cl pm cv ctv) ⟨[], []⟩ = pure [])
    (hbody : ∀ (A : Around) (outer : List Env) (s : Shared) (H : Hp) (E : XK) (f c' : Addr), Room k (A.deeper (lamEnv X scope s.heap.objs.size f c')) → PE (lamCx X A outer s H E scope f c') body (t E)) :
    PE X (.Call (.Name "_law_met" p) [.Lambda params body scope lpos] [] pos) (tLam T (TMet CB CT) t) := by
  obtain ⟨g, fd, Fd, b⟩ := D.ex
  obtain ⟨oc, od, dV, kV, doc, pm, an, cdv, ct, osl, e, lk, hcd⟩ := Fd.fn.ex
  subst e
  exact pe_lamcall hg Fd.mgf Fd.kp lk hcd b sc_met rfl (.inl rfl) (met_gives F) TB hcode hmT hu hr L hdef hbind hbody
/-- a captured name that holds one of two defs -/
def tCv (i : Nat) (f1 f2 : Addr) (sp1 sp2 : Sp) (E : L2.St → XK) (t : TA) : TE := fun σ H Q => (σ[i]? = some (some (.ref f1)) ∧ t σ H fun vs H1 => sp1 vs H1 Q (E σ)) ∨ (σ[i]? = some (some (.ref f2)) ∧ t σ H fun vs H1 => sp2 vs H1 Q (E σ))
theorem pe_cv2 {i k1 k2 j : Nat} {f1 f2 : Addr} {x x1 x2 : Str} {ps1 ps2 : List Str} {sp1 sp2 : Sp} {E : L2.St → XK} {e : Expr} {es : List Expr} {t : TA} {p pos : Pos} (c1 : CalX X.prog X.w X.K X.mg X.base k1 x1 ps1 sp1) (c2 : CalX X.prog X.w X.K X.mg X.base k2 x2 ps2 sp2) (m1 : X.mg x1 = some (.ref f1)) (m2 : X.mg x2 = some (.ref f2))
    (hr : Room j X.A) (hk1 : k1 ≤ j) (hk2 : k2 ≤ j) (hN : X.N[i]? = some x) (hv : Vis X.env.scope x) (hx : ∀ σ, PassesAt (L2.CX X.prog X.w) X σ (E σ)) (ha : PA X (e :: es) t)
    (hd : (x == ("__debug__" : Str)) = false := by decide) (hcd : (x == ("__classdict__" : Str)) = false := by decide) (he : starEach (e :: es) X.env = (false, eval e X.env) :: starEach es X.env := by rfl) (hpl : (backTo pos (starEach es X.env)).any (·.1) = false := by rfl) :
    PE X (.Call (.Name x p) (e :: es) [] pos) (tCv i f1 f2 sp1 sp2 E t) := by
  refine ⟨fun pins s σ H Q I h => ?_⟩
  have go : ∀ {k : Nat} {f : Addr} {y : Str} {ps : List Str} {sp : Sp}, CalX X.prog X.w X.K X.mg X.base k y ps sp → X.mg y = some (.ref f) → k ≤ j → σ[i]? = some (some (.ref f)) → (t σ H fun vs H1 => sp vs H1 Q (E σ)) → wpAny (model X.prog X.w) X.A (eval (.Call (.Name x p) (e :: es) [] pos) X.env) (EP X pins σ Q) X.xe s := fun {k f y ps sp} c m hk hs ht => by
    obtain ⟨g, fd, F, hm, kq, b, _⟩ := c.ex
    have e : f = g := by
      have e2 := m.symm.trans hm
      cases e2
      rfl
    subst e
    refine wpAny_Call_Name_kw (thn ((pe_var (pos := p) hN hv hd hcd).run pins s σ H (fun v H1 => v = .ref f ∧ H1 = H) I ⟨.ref f, hs, rfl, rfl⟩) fun u s1 ⟨v, H1, I1, r1, ev, eH⟩ => ?_)
    subst ev
    subst eH
    cases r1
    exact PySem.W.callWith_K (h₀ := X.base) I.ok.mod.kin kq (thn (ha.run pos pins s1 σ _ _ I1 ht) fun us s2 ⟨vs, H2, I2, r, q⟩ => ⟨I2.kIn, run_fnS F (hr.mono hk) b (hx σ) I2 r q⟩) he hpl
  rcases h with ⟨h1, h2⟩ | ⟨h1, h2⟩
  · exact go c1 m1 hk1 h1 h2
  · exact go c2 m2 hk2 h1 h2
end
section
variable {P : Program} {w : World} {K : PySem.W.Frag} {mg : Str → Option Value} {base : Heap} {aW aN C CB CT fW fR cv Pv : Addr}
abbrev qVery : Str := "_law_is_very.<locals>.<lambda>"
theorem dep_odd (y : Str) : DepLe 3 (.tup [.str y, .lst [.str "odd", .str "late"]]) := fun ds hds => by
  cases hds
  refine ⟨(by show 2 ≤ 1000; decide), fun x hx => ?_⟩
  simp only [List.mem_cons, List.not_mem_nil, or_false] at hx
  rcases hx with h | h
  · rw [h]; exact fun ds h => nomatch h
  · rw [h]
    intro ds hds
    cases hds
    refine ⟨(by show 2 ≤ 1000; decide), fun x hx => ?_⟩
    simp only [List.mem_cons, List.not_mem_nil, or_false] at hx
    rcases hx with h | h <;> rw [h] <;> exact fun ds h => nomatch h
def sp_very (fW fR : Addr) (T : List (Addr × Str)) : Sp := fun vs H Q _ => ∃ x f, vs = [.str x, .ref f] ∧ ((x = "book" ∧ f = fW) ∨ (x = "text" ∧ f = fR)) ∧ Tabs T H ∧ ∀ H', ExtN H H' → Tabs T H' → Q (.bl true) H'
theorem ok_very {T : List (Addr × Str)} {nW nR m k : Nat} (D : DefC K mg "_law_is_very" s_is_very ["word", "ask"] cv) (B : Bt mg) (F : ExF K mg CB CT) (D_met : DefB K mg "_law_met" s_met ["ask"]) (TBv : TabB base mg cv Pv)
    (hmv : (Pv, qVery) ∈ T) (huv : ∀ p ∈ T, p.1 = Pv → p.2 = qVery) (CW : CalX P w K mg base nW "written_book" ["book"] (sp_written K CB m)) (CR : CalX P w K mg base nR "read_book" ["text"] (sp_read K CT k)) (mW : mg "written_book" = some (.ref fW)) (mR : mg "read_book" = some (.ref fR))
    (C_law_same : Cal P w K mg base 4 "_law_same" (sp_same K 4) []) {N : Nat} (h1 : nW + 2 ≤ N) (h2 : nR + 2 ≤ N) (h4 : 4 ≤ N) : Cal P w K mg base (N + 1) "_law_is_very" (sp_very fW fR T) [] := by
  have sc := sc_is_very
  refine D.cal sc (fun vs H Q E h => ?_) (fun f A outer s H vs Q E hr h => ?_)
  · obtain ⟨x, f, rfl, _⟩ := h
    rfl
  · obtain ⟨x, fz, rfl, hx, hT, q⟩ := h
    have hk1 : nW ≤ N - 2 := by omega
    have hk2 : nR ≤ N - 2 := by omega
    have hrr : N - 2 + 2 ≤ N := by omega
    refine ⟨_, (pss_cons (ps_set (i := 2) sc.nd rfl (Or.inr rfl) (pe_lst (pa_cons pe_str pa_nil)))
  (pss_cons (ps_set (i := 3) sc.nd rfl (Or.inl rfl) (pe_met F D_met rfl TBv rfl hmv huv (hr.mono (by omega)) (lamS_by (sc := fnScope s_is_very) (by decide +kernel)) (by rfl) (fun _ _ _ _ _ => rfl) (fun A outer s H E f c' hr2 => pe_cv2 (E := fun _ => E) (i := 1) CW CR mW mR hr2 (by omega) (by omega) rfl (.inr (.inr rfl)) (fun σ => passAt (takes_of rfl rfl rfl rfl) σ) (pa_cons (pe_var (i := 2) rfl (.inr (.inr rfl))) pa_nil))))
  (pss_cons (ps_expr (pe_bm PySem.F.plainAttrs_list PySem.F.slot_list_append PySem.F.type_list_append mt_append (pv 2) (pa_cons pe_str pa_nil)))
  (pss_one (ps_ret (pe_c C_law_same hr (by omega) rfl (pa_cons (pv 3) (pa_cons (pe_tup (pa_cons (pv 0) (pa_cons (pv 2) pa_nil))) pa_nil)))))))), ?_⟩
    refine ⟨(by show 1 ≤ sizeLine; decide), fun L hL => ?_⟩
    have e0 := same_new hL (.lst [V.str "odd"])
    have g0 : (upd H L (.lst [V.str "odd"])) L = some (.lst [V.str "odd"]) := upd_same
    have T0 := Tabs.same hT e0
    generalize upd H L (.lst [V.str "odd"]) = H0 at e0 g0 T0 ⊢
    refine ⟨T0, fun H1 eN T1 => ?_⟩
    have g1 : H1 L = some (.lst [V.str "odd"]) := eN _ _ g0 (fun ps z => nomatch z)
    have eH : ExtN H H1 := (extN_same e0).trans eN
    have r1 : Rep K H1 (.ref L) (.lst [.str "odd"]) [L] := .lst g1 (.cons (.str _) .nil)
    rcases hx with ⟨rfl, rfl⟩ | ⟨rfl, rfl⟩
    · refine .inl ⟨rfl, _, rfl, .ref L, .lst [.str "odd"], [L], rfl, r1, ?_, by decide +kernel, fun hg => ?_, fun _ dx H2 hdx e2 hx2 => .inl ⟨rfl, dx, _, rfl, hx2, fun t ht => ?_⟩⟩
      · exact .mk (fun a b c e he => nomatch he) (fun p hp => nomatch hp)
      · cases hg with
        | mk h _ => exact absurd h (by decide)
      · have _ := T1
        have x1 := same_new ht (.tup [V.str "book", V.ref L])
        have z1 : SqT K (upd H2 t (.tup [V.str "book", V.ref L])) t [V.str "book", V.ref L] := SqT.of upd_same
        have g2 := (e2.trans x1) _ _ g1
        have eN2 : ExtN H (upd H2 t (.tup [V.str "book", V.ref L])) := eH.trans (extN_same (e2.trans x1))
        have T2 := Tabs.same T1 (e2.trans x1)
        generalize upd H2 t (.tup [V.str "book", V.ref L]) = H3 at z1 g2 eN2 T2 ⊢
        refine ⟨_, rfl, .inl ⟨rfl, _, SqL.of g2⟩, L, _, _, rfl, rfl, g2, (by show 1 < sizeLine; decide), ?_⟩
        have ku : Kp (· = L) H3 (upd H3 L (.lst ([V.str "odd"] ++ [V.str "late"]))) := kp_at L _
        have z2 := sqT_updL (o := .lst ([V.str "odd"] ++ [V.str "late"])) g2 z1
        have g3 : (upd H3 L (.lst ([V.str "odd"] ++ [V.str "late"]))) L = some (.lst ([V.str "odd"] ++ [V.str "late"])) := upd_same
        have T3 : Tabs T (upd H3 L (.lst ([V.str "odd"] ++ [V.str "late"]))) := Tabs.kp T2 ku fun a ha _ => ⟨[V.str "odd"], ha ▸ g2⟩
        have eN3 : ExtN H (upd H3 L (.lst ([V.str "odd"] ++ [V.str "late"]))) := fun b o eb nb => by
          rw [upd_ne (ne_of_none eb hL)]
          exact eN2 b o eb nb
        generalize upd H3 L (.lst ([V.str "odd"] ++ [V.str "late"])) = H4 at z2 g3 T3 eN3 ⊢
        refine ⟨_, rfl, _, rfl, _, rfl, (by show 2 ≤ sizeLine; decide), fun t2 ht2 => ?_⟩
        have x2 := same_new ht2 (.tup [V.str "book", V.ref L])
        have rl : ∀ H5, Same H4 H5 → Rep K H5 (.ref L) (.lst [.str "odd", .str "late"]) [L] := fun H5 e5 => .lst (e5 _ _ g3) (.cons (.str _) (.cons (.str _) .nil))
        refine ⟨.ref t, .ref t2, .tup [.str "book", .lst [.str "odd", .str "late"]], _, _, 3, rfl, .tup (Same.sqT x2 z2) (.cons (.str _) (Reps.one (rl _ x2))), .tup (SqT.of upd_same) (.cons (.str _) (Reps.one (rl _ x2))), rfl, ?_, fun H5 e5 => q _ (eN3.trans (extN_same (x2.trans e5))) (Tabs.same T3 (x2.trans e5))⟩
        exact dep_odd _
    · refine .inr ⟨rfl, _, rfl, .ref L, .lst [.str "odd"], [L], rfl, r1, (fun x hx => nomatch hx), fun _ dx H2 hdx e2 hx2 => .inr ⟨rfl, dx, _, rfl, hx2, fun t ht => ?_⟩⟩
      · have _ := T1
        have x1 := same_new ht (.tup [V.str "text", V.ref L])
        have z1 : SqT K (upd H2 t (.tup [V.str "text", V.ref L])) t [V.str "text", V.ref L] := SqT.of upd_same
        have g2 := (e2.trans x1) _ _ g1
        have eN2 : ExtN H (upd H2 t (.tup [V.str "text", V.ref L])) := eH.trans (extN_same (e2.trans x1))
        have T2 := Tabs.same T1 (e2.trans x1)
        generalize upd H2 t (.tup [V.str "text", V.ref L]) = H3 at z1 g2 eN2 T2 ⊢
        refine ⟨_, rfl, .inl ⟨rfl, _, SqL.of g2⟩, L, _, _, rfl, rfl, g2, (by show 1 < sizeLine; decide), ?_⟩
        have ku : Kp (· = L) H3 (upd H3 L (.lst ([V.str "odd"] ++ [V.str "late"]))) := kp_at L _
        have z2 := sqT_updL (o := .lst ([V.str "odd"] ++ [V.str "late"])) g2 z1
        have g3 : (upd H3 L (.lst ([V.str "odd"] ++ [V.str "late"]))) L = some (.lst ([V.str "odd"] ++ [V.str "late"])) := upd_same
        have T3 : Tabs T (upd H3 L (.lst ([V.str "odd"] ++ [V.str "late"]))) := Tabs.kp T2 ku fun a ha _ => ⟨[V.str "odd"], ha ▸ g2⟩
        have eN3 : ExtN H (upd H3 L (.lst ([V.str "odd"] ++ [V.str "late"]))) := fun b o eb nb => by
          rw [upd_ne (ne_of_none eb hL)]
          exact eN2 b o eb nb
        generalize upd H3 L (.lst ([V.str "odd"] ++ [V.str "late"])) = H4 at z2 g3 T3 eN3 ⊢
        refine ⟨_, rfl, _, rfl, _, rfl, (by show 2 ≤ sizeLine; decide), fun t2 ht2 => ?_⟩
        have x2 := same_new ht2 (.tup [V.str "text", V.ref L])
        have rl : ∀ H5, Same H4 H5 → Rep K H5 (.ref L) (.lst [.str "odd", .str "late"]) [L] := fun H5 e5 => .lst (e5 _ _ g3) (.cons (.str _) (.cons (.str _) .nil))
        refine ⟨.ref t, .ref t2, .tup [.str "text", .lst [.str "odd", .str "late"]], _, _, 3, rfl, .tup (Same.sqT x2 z2) (.cons (.str _) (Reps.one (rl _ x2))), .tup (SqT.of upd_same) (.cons (.str _) (Reps.one (rl _ x2))), rfl, ?_, fun H5 e5 => q _ (eN3.trans (extN_same (x2.trans e5))) (Tabs.same T3 (x2.trans e5))⟩
        exact dep_odd _
end
end K54
set_option Elab.async false
set_option linter.all false
set_option maxRecDepth 100000
set_option maxHeartbeats 4000000
/-! K21: what law's books are like, in plain Lean. -/
namespace K54
open PySem PySem.Spec PyProof.Rows L2 C8 RZ LiI SX
theorem Valid.good {b : Bk} (hv : Valid b) : ∀ {d : Dt}, nrm d = nrm (dOf b) → GoodB d ∧ AskB d := by
  induction hv with
  | @mk m e hm ht ps h1 h2 h3 h4 ih =>
    intro d hn
    obtain ⟨d1, d2, d3, qs, k0, k1, k2, k3, hq⟩ := bk_kids hn
    have tl : ∀ l : List Nat, (S l).cps.toList = l := fun l => rfl
    have g1 : isGN d1 = true := by
      unfold isGN
      rw [k1]
      show (signB (S m).cps.toList LET && signB (S e).cps.toList GRE) = true
      rw [tl, tl, h1, h2]
      rfl
    have g2 : (isGN d2 || isIN d2) = true := by
      rcases h3 with h3 | ⟨h3, h3'⟩
      · have h3b := h3
        rw [Bool.and_eq_true, decide_eq_true_eq, decide_eq_true_eq] at h3b
        obtain ⟨rfl, rfl⟩ := h3b
        have : isIN d2 = true := by unfold isIN; rw [k2]; decide +kernel
        rw [this, Bool.or_true]
      · have : isGN d2 = true := by
          unfold isGN
          rw [k2]
          show (signB (S hm).cps.toList LET && signB (S ht).cps.toList GRE) = true
          rw [tl, tl, h3, h3']
          rfl
        rw [this, Bool.true_or]
    have hok : okNode d = true := by
      unfold okNode
      rw [k0]
      show (isS (.str "by") "by" && isGN d1 && (isGN d2 || isIN d2) && (kids d3).isSome) = true
      rw [g1, g2, k3]
      show (isS (.str "by") "by" && true && true && true) = true
      decide +kernel
    have hparts : partsOf d = qs := by unfold partsOf; rw [k0]; show (kids d3).getD [] = qs; rw [k3]; rfl
    have each : ∀ q ∈ qs, ∃ p ∈ ps, nrm q = nrm (dOf p) := fun q hqm => by
      have z : nrm q ∈ qs.map nrm := List.mem_map_of_mem hqm
      rw [hq] at z
      obtain ⟨p, hp, e⟩ := List.mem_map.mp z
      exact ⟨p, hp, e.symm⟩
    have short : ∀ {w : List Nat}, w.length ≤ 100000 → StrOk (.str (S w)) := fun {w} hw x hx => by
      cases hx
      rw [S_len]
      exact hw
    have l1 := (sign_parts h1).2.1
    have l2 := (sign_parts h2).2.1
    have l3 : hm.length ≤ 8 ∧ ht.length ≤ 8 := by
      rcases h3 with h3 | ⟨h3, h3'⟩
      · rw [Bool.and_eq_true, decide_eq_true_eq, decide_eq_true_eq] at h3
        obtain ⟨rfl, rfl⟩ := h3
        decide
      · exact ⟨(sign_parts h3).2.1, (sign_parts h3').2.1⟩
    have two : ∀ {d0 : Dt} {x y : List Nat}, kids d0 = some [.str (S x), .str (S y)] → x.length ≤ 100000 → y.length ≤ 100000 → PartsOk d0 := fun {d0 x y} hk hx hy ds hds z hz => by
      rw [hk] at hds
      cases hds
      rcases List.mem_cons.mp hz with e | hz
      · rw [e]; exact short hx
      · rw [List.mem_singleton.mp hz]; exact short hy
    refine ⟨.mk hok fun q hqm => ?_, .mk (fun a b c f hk => ?_) fun q hqm => ?_⟩
    · rw [hparts] at hqm
      obtain ⟨p, hp, e⟩ := each q hqm
      exact (ih p hp e).1
    · rw [k0] at hk
      cases hk
      refine ⟨rfl, two k1 (by omega) (by omega), two k2 (by omega) (by omega), fun ds hds x hx => ?_⟩
      rw [k2] at hds
      cases hds
      rcases List.mem_cons.mp hx with e | hx
      · rw [e]; rfl
      · rw [List.mem_singleton.mp hx]; rfl
    · rw [hparts] at hqm
      obtain ⟨p, hp, e⟩ := each q hqm
      exact (ih p hp e).2
theorem sz_nrm : ∀ d : Dt, szD (nrm d) = szD d := by
  intro d
  have all : ∀ xs : List Dt, (∀ x ∈ xs, szD (nrm x) = szD x) → szL (nrms xs) = szL xs := by
    intro xs
    induction xs with
    | nil => intro _; rfl
    | cons x xs ih =>
      intro h
      show szD (nrm x) + szL (nrms xs) = szD x + szL xs
      rw [h x (List.mem_cons_self ..), ih fun y hy => h y (List.mem_cons_of_mem _ hy)]
  induction d using Dt.ind with
  | h0 => rfl
  | h1 b => rfl
  | h2 b => rfl
  | h3 b => rfl
  | h6 => rfl
  | h4 xs ih => show 1 + szL (nrms xs) = 1 + szL xs; rw [all xs ih]
  | h5 xs ih => show 1 + szL (nrms xs) = 1 + szL xs; rw [all xs ih]
theorem nodes_sz : ∀ d : Dt, nodes d ≤ szD d := by
  intro d
  have all : ∀ xs : List Dt, (∀ x ∈ xs, nodes x ≤ szD x) → nodesL xs ≤ szL xs := by
    intro xs
    induction xs with
    | nil => intro _; exact Nat.le_refl _
    | cons x xs ih =>
      intro h
      show nodes x + nodesL xs ≤ szD x + szL xs
      have := h x (List.mem_cons_self ..)
      have := ih fun y hy => h y (List.mem_cons_of_mem _ hy)
      omega
  induction d using Dt.ind with
  | h0 => exact Nat.zero_le _
  | h1 b => exact Nat.zero_le _
  | h2 b => exact Nat.zero_le _
  | h3 b => exact Nat.zero_le _
  | h6 => exact Nat.zero_le _
  | h4 xs ih => have := all xs ih; show 1 + nodesL xs ≤ 1 + szL xs; omega
  | h5 xs ih => have := all xs ih; show 1 + nodesL xs ≤ 1 + szL xs; omega
theorem sign_pos {w : List Nat} {fs : Str} (h : signB w fs = true) : 1 ≤ w.length := (sign_parts h).1
theorem head_pos {hm ht : List Nat} (h : isI hm ht = true ∨ (signB hm LET = true ∧ signB ht GRE = true)) : 3 ≤ (headT hm ht).length := by
  by_cases hI : isI hm ht = true
  · rw [show headT hm ht = cInt from if_pos hI]; decide
  · obtain ⟨a, b⟩ := h.resolve_left hI
    rw [show headT hm ht = hm ++ 46 :: ht from if_neg hI, List.length_append, List.length_cons]
    have := sign_pos a
    have := sign_pos b
    omega
theorem part_len (ps : List Bk) : ∀ p ∈ ps, (txt p).length + 2 ≤ (partT ps).length := fun p hp => by
  cases ps with
  | nil => cases hp
  | cons q ps =>
    have h := (joinT_mem (x := txt p) (ys := txts (q :: ps)) (by rw [txts_map]; exact List.mem_map_of_mem hp)).1
    show _ ≤ (40 :: (joinT (txts (q :: ps)) ++ [41])).length
    rw [List.length_cons, List.length_append, List.length_singleton]
    omega
theorem txt_len (m e hm ht : List Nat) (ps : List Bk) : (txt (.mk m e hm ht ps)).length = m.length + 1 + e.length + 1 + (headT hm ht).length + (partT ps).length := by
  rw [txt_eq, List.length_append, List.length_cons, List.length_append, List.length_cons, List.length_append]
  omega
theorem Valid.dep : ∀ (n : Nat) {b : Bk}, Valid b → (txt b).length ≤ 6 * n → BDep n b
  | 0, .mk m e hm ht ps, hv, hl => by
    cases hv with
    | mk h1 h2 h3 h4 =>
      rw [txt_len] at hl
      omega
  | n + 1, .mk m e hm ht ps, hv, hl => by
    cases hv with
    | mk h1 h2 h3 h4 =>
      intro p hp
      have := sign_pos h1
      have := sign_pos h2
      have := head_pos h3
      have := part_len ps p hp
      rw [txt_len] at hl
      exact Valid.dep n (h4 p hp) (by omega)
theorem Valid.sz {b : Bk} (hv : Valid b) : szD (dOf b) ≤ 2 * (txt b).length := by
  induction hv with
  | @mk m e hm ht ps h1 h2 h3 h4 ih =>
    have l1 := sign_pos h1
    have l2 := sign_pos h2
    have l3 := head_pos h3
    rw [txt_len]
    have e0 : szD (dOf (.mk m e hm ht ps)) = 1 + (1 + ((1 + (1 + (1 + 0))) + ((1 + (1 + (1 + 0))) + ((1 + szL (dOfs ps)) + 0)))) := rfl
    have all : ∀ qs : List Bk, (∀ p ∈ qs, szD (dOf p) ≤ 2 * (txt p).length) → szL (dOfs qs) ≤ 2 * ((txts qs).map List.length).sum := by
      intro qs
      induction qs with
      | nil => intro _; exact Nat.le_refl _
      | cons q qs ihq =>
        intro h
        have a1 := h q (List.mem_cons_self ..)
        have a2 := ihq fun p hp => h p (List.mem_cons_of_mem _ hp)
        show szD (dOf q) + szL (dOfs qs) ≤ 2 * ((txt q).length + ((txts qs).map List.length).sum)
        omega
    have a1 := all ps ih
    have a2 : ((txts ps).map List.length).sum ≤ (partT ps).length := by
      cases ps with
      | nil => exact Nat.le_refl _
      | cons q ps =>
        have := (joinT_sum (txts (q :: ps))).1
        show _ ≤ (40 :: (joinT (txts (q :: ps)) ++ [41])).length
        rw [List.length_cons, List.length_append, List.length_singleton]
        omega
    rw [e0]
    omega
theorem noE_str (n : Nat) (x : Str) : NoE n (.str x) := by
  cases n with
  | zero => rfl
  | succ n => exact ⟨(fun z => nomatch z), fun ds h => nomatch h⟩
theorem noE_two (n : Nat) (x y : Str) : NoE (n + 1) (.tup [.str x, .str y]) := ⟨(fun z => nomatch z), fun ds h => by
  cases h
  refine ⟨(by show 2 ≤ 1000; decide), fun z hz => ?_⟩
  rcases List.mem_cons.mp hz with e | hz
  · rw [e]; exact noE_str n x
  · rw [List.mem_singleton.mp hz]; exact noE_str n y⟩
theorem OBk.noe : ∀ (n : Nat) {b : Bk}, OBk n b → NoE (2 * n + 2) (dOf b)
  | n, .mk m e hm ht ps, h => by
    obtain ⟨h1, h2, h3, h4, h5⟩ := h.parts
    refine ⟨(fun z => nomatch z), fun ds hds => ?_⟩
    cases hds
    refine ⟨(by show 4 ≤ 1000; decide), fun z hz => ?_⟩
    simp only [List.mem_cons, List.not_mem_nil, or_false] at hz
    rcases hz with e | e | e | e
    · rw [e]; exact noE_str _ _
    · rw [e]; exact noE_two _ _ _
    · rw [e]; exact noE_two _ _ _
    · rw [e]
      refine ⟨(fun z => nomatch z), fun ds hds => ?_⟩
      cases hds
      refine ⟨by rw [dOfs_len]; omega, fun z hz => ?_⟩
      rw [dOfs_map] at hz
      obtain ⟨p, hp, rfl⟩ := List.mem_map.mp hz
      obtain ⟨n', rfl, o⟩ := h5 p hp
      exact OBk.noe n' o
theorem depLe_str (n : Nat) (x : Str) : DepLe n (.str x) := by
  cases n with
  | zero => rfl
  | succ n => exact fun ds h => nomatch h
theorem depLe_two (n : Nat) (x y : Str) : DepLe (n + 1) (.tup [.str x, .str y]) := (noE_two n x y).dep
theorem OBk.spo : ∀ (n : Nat) {b : Bk}, OBk n b → DepLe (2 * n + 2) (spoil (dOf b))
  | n, .mk m e hm ht ps, h => by
    obtain ⟨h1, h2, h3, h4, h5⟩ := h.parts
    intro ds hds
    have e0 : spoil (dOf (.mk m e hm ht ps)) = .tup [.str "by", .tup [.str (S m), .str (S e)], .tup [.str (S hm), .str (S ht)], .lst (spoils (dOfs ps) ++ [.str "late"])] := rfl
    rw [e0] at hds
    cases hds
    refine ⟨(by show 4 ≤ 1000; decide), fun z hz => ?_⟩
    simp only [List.mem_cons, List.not_mem_nil, or_false] at hz
    rcases hz with e | e | e | e
    · rw [e]; exact depLe_str _ _
    · rw [e]; exact depLe_two _ _ _
    · rw [e]; exact depLe_two _ _ _
    · rw [e]
      intro ds hds
      cases hds
      have sl : ∀ qs : List Bk, spoils (dOfs qs) = qs.map fun p => spoil (dOf p) := fun qs => by
        induction qs with
        | nil => rfl
        | cons q qs ih => show spoil (dOf q) :: spoils (dOfs qs) = _; rw [ih]; rfl
      rw [sl]
      refine ⟨by rw [List.length_append, List.length_map, List.length_singleton]; omega, fun z hz => ?_⟩
      rcases List.mem_append.mp hz with hz | hz
      · obtain ⟨p, hp, rfl⟩ := List.mem_map.mp hz
        obtain ⟨n', rfl, o⟩ := h5 p hp
        exact OBk.spo n' o
      · rw [List.mem_singleton.mp hz]; exact depLe_str _ _
/-- a text that is read to its end -/
theorem read_whole {z : List Nat} {k : Nat} {p : Bk} (h : ROne z 0 false k false p) (hk : ¬ k < z.length) : z = txt p ∧ Valid p := by
  obtain ⟨h1, h2⟩ := h.sound rfl
  rw [List.drop_of_length_le (show z.length ≤ k by omega), List.append_nil] at h1
  exact ⟨h1, h2⟩
theorem read_back {b : Bk} (hv : Valid b) {k : Nat} {b' : Bool} {p : Bk} (h : ROne (txt b) 0 false k b' p) : k = (txt b).length ∧ b' = false ∧ p = b := by
  have h1 := one_complete hv 0 [] (z := txt b) (by rw [List.append_nil]; rfl) (fun c hc => nomatch hc)
  rw [Nat.zero_add] at h1
  exact h1.det h
section
variable {P : Program} {w : World} {K : PySem.W.Frag} {mg : Str → Option Value} {base : Heap} {aW aN C CB CT : Addr}
theorem ok_obook (D : DefB K mg "_law_o_book" s_o_book ["stream", "depth"]) (B : Bt mg) (C_law_draw : Cal P w K mg base 1 "_law_draw" sp_draw []) (C_law_pick : Cal P w K mg base 2 "_law_pick" sp_pick []) : ∀ n, Cal P w K mg base (n + 2) "_law_o_book" (sp_obook K n) []
  | 0 => by
    have no : ∀ vs H Q E, ¬ sp_obook K 0 vs H Q E := fun vs H Q E h => by
      obtain ⟨st, q, c, d, _, _, hd, _⟩ := h
      cases hd
    obtain ⟨f, fd, F, b⟩ := D.ex
    exact ⟨f, fd, _, [], ⟨fun vs H Q E z => absurd z (no vs H Q E), fun A outer s H args us vs Q E _ _ _ _ z => absurd z (no vs H Q E)⟩, F.mgf, F.kp, b, .nil⟩
  | n + 1 => ok_obook1 D B C_law_draw C_law_pick (ok_obook D B C_law_draw C_law_pick n)
end
/-! ### things that are written out -/
/-- an expression that makes the data d anew and changes nothing else -/
def Lit (K : PySem.W.Frag) (te : TE) (d : Dt) : Prop := ∀ (σ : L2.St) (H : Hp) (Q : VK), (∀ v fp H', Same H H' → New K H H' v d fp → Q v H') → te σ H Q
structure News (K : PySem.W.Frag) (H H' : Hp) (vs : List V) (ds : List Dt) (fp : List Addr) : Prop where
  rep : Reps K H' vs ds fp
  fresh : Fresh H fp
  nd : fp.Nodup
def Lits (K : PySem.W.Frag) (ta : TA) (ds : List Dt) : Prop := ∀ (σ : L2.St) (H : Hp) (Q : List V → Hp → Prop), (∀ vs fp H', Same H H' → News K H H' vs ds fp → Q vs H') → ta σ H Q
section
variable {K : PySem.W.Frag}
theorem lit_str (x : Str) : Lit K (tC (.str x)) (.str x) := fun σ H Q q => q _ [] H (Same.refl H) ⟨.str x, fresh_nil, List.nodup_nil⟩
theorem lit_int (i : Int) : Lit K (tC (.int i)) (.int i) := fun σ H Q q => q _ [] H (Same.refl H) ⟨.int i, fresh_nil, List.nodup_nil⟩
theorem lit_bl (b : Bool) : Lit K (tC (.bl b)) (.bl b) := fun σ H Q q => q _ [] H (Same.refl H) ⟨.bl b, fresh_nil, List.nodup_nil⟩
theorem lit_non : Lit K (tC .non) .non := fun σ H Q q => q _ [] H (Same.refl H) ⟨.non, fresh_nil, List.nodup_nil⟩
theorem lit_emp : Lit K tDNewK .emp := fun σ H Q q => fun p hp => q _ [p] _ (same_new hp _) ⟨.emp upd_same, fun a ha => by rw [List.mem_singleton.mp ha]; exact hp, List.nodup_cons.mpr ⟨(fun z => nomatch z), List.nodup_nil⟩⟩
theorem lits_nil : Lits K tNil [] := fun σ H Q q => q [] [] H (Same.refl H) ⟨.nil, fresh_nil, List.nodup_nil⟩
theorem lits_cons {te : TE} {ta : TA} {d : Dt} {ds : List Dt} (h : Lit K te d) (t : Lits K ta ds) : Lits K (tCons te ta) (d :: ds) := fun σ H Q q => h σ H _ fun v f1 H1 e1 n1 => t σ H1 _ fun vs f2 H2 e2 n2 =>
  q _ (f1 ++ f2) H2 (e1.trans e2) ⟨.cons (n1.rep.same e2) n2.rep, n1.fresh.app (n2.fresh.back e1), nodup_app n1.nd n2.nd fun a ha z => n1.rep.trk _ _ _ a z (n2.fresh a ha)⟩
theorem lit_tup {ta : TA} {ds : List Dt} (h : Lits K ta ds) (hl : ds.length ≤ 1000) : Lit K (tTup ta) (.tup ds) := fun σ H Q q => h σ H _ fun vs fp H1 e1 n1 => ⟨by rw [n1.rep.len]; exact Nat.le_trans hl (by decide), fun p hp =>
  q _ fp _ (e1.trans (same_new hp _)) ⟨.tup (SqT.of upd_same) (n1.rep.same (same_new hp _)), n1.fresh, n1.nd⟩⟩
theorem lit_lst {ta : TA} {ds : List Dt} (h : Lits K ta ds) (hl : ds.length ≤ 1000) : Lit K (tLst ta) (.lst ds) := fun σ H Q q => h σ H _ fun vs fp H1 e1 n1 => ⟨by rw [n1.rep.len]; exact Nat.le_trans hl (by decide), fun p hp =>
  q _ (p :: fp) _ (e1.trans (same_new hp _)) ⟨.lst upd_same (n1.rep.same (same_new hp _)), fun a ha => by
    rcases List.mem_cons.mp ha with z | z
    · rw [z]; exact e1.free hp
    · exact n1.fresh a z, List.nodup_cons.mpr ⟨fun z => n1.rep.trk p z hp, n1.nd⟩⟩⟩
end
end K54

set_option Elab.async false
set_option linter.all false
set_option maxRecDepth 100000
set_option maxHeartbeats 4000000
/-! K21b: the odd things that law asks, and the texts it reads at the end. -/
namespace K54
open PySem PySem.Spec PyProof.Rows L2 C8 RZ LiI SX LamX
def strC : Dt → Bool
  | .str x => decide (x.length ≤ 100000)
  | _ => true
def partsC (d : Dt) : Bool := match kids d with
  | some ds => ds.all strC
  | none => true
def flatC (d : Dt) : Bool := match kids d with
  | some ds => ds.all flatD
  | none => true
def askN : Nat → Dt → Bool
  | 0, _ => false
  | n + 1, d => (match kids d with
    | some [a, b, c, _] => flatD a && (partsC b && (partsC c && flatC c))
    | _ => true) && (partsOf d).all (askN n)
theorem partsC_ok {d : Dt} (h : partsC d = true) : PartsOk d := fun ds hds x hx => by
  unfold partsC at h
  rw [hds] at h
  have q := List.all_eq_true.mp h x hx
  intro y hy
  subst hy
  exact of_decide_eq_true q
theorem flatC_ok {d : Dt} (h : flatC d = true) : FlatP d := fun ds hds x hx => by
  unfold flatC at h
  rw [hds] at h
  exact List.all_eq_true.mp h x hx
theorem askN_ok : ∀ (n : Nat) {d : Dt}, askN n d = true → AskB d
  | 0, d, h => nomatch h
  | n + 1, d, h => by
    have h' : ((match kids d with
      | some [a, b, c, _] => flatD a && (partsC b && (partsC c && flatC c))
      | _ => true) && (partsOf d).all (askN n)) = true := h
    rw [Bool.and_eq_true] at h'
    refine .mk (fun a b c e hk => ?_) fun p hp => askN_ok n (List.all_eq_true.mp h'.2 p hp)
    have h1 := h'.1
    rw [hk] at h1
    simp only [Bool.and_eq_true] at h1
    exact ⟨h1.1, partsC_ok h1.2.1, partsC_ok h1.2.2.1, flatC_ok h1.2.2.2⟩
def goodN : Nat → Dt → Bool
  | 0, _ => true
  | n + 1, d => okNode d && (partsOf d).all (goodN n)
theorem goodN_ok : ∀ (n : Nat) {d : Dt}, GoodB d → goodN n d = true
  | 0, d, h => rfl
  | n + 1, d, h => by
    cases h with
    | mk h1 h2 =>
      show (okNode d && (partsOf d).all (goodN n)) = true
      rw [h1, Bool.true_and]
      exact List.all_eq_true.mpr fun p hp => goodN_ok n (h2 p hp)
def depN : Nat → Dt → Bool
  | 0, d => (sub d).isNone
  | n + 1, d => match sub d with
    | some ds => decide (ds.length ≤ 1000) && ds.all (depN n)
    | none => true
theorem depN_ok : ∀ (n : Nat) {d : Dt}, depN n d = true → DepLe n d
  | 0, d, h => Option.isNone_iff_eq_none.mp h
  | n + 1, d, h => fun ds hds => by
    have h' : (match sub d with
      | some ds => decide (ds.length ≤ 1000) && ds.all (depN n)
      | none => true) = true := h
    rw [hds] at h'
    simp only [Bool.and_eq_true, decide_eq_true_eq] at h'
    exact ⟨h'.1, fun x hx => depN_ok n (List.all_eq_true.mp h'.2 x hx)⟩
abbrev pr (x y : Str) : Dt := .tup [.str x, .str y]
def oA : List Dt := [.non, .int 5, .str "by", .emp, .tup [.str "by", pr "m" "E", pr "m" "L"], .tup [.str "by", pr "m" "e", pr "m" "L", .lst []], .tup [.str "by", pr "m" "E", pr "m" "l", .lst []]]
def oB : List Dt := [.tup [.str "by", pr "m" "E", pr "" "int", .lst [.int 5]], .tup [.str "buy", pr "m" "E", pr "m" "L", .lst []], .tup [.str "by", pr "m" "E", pr "int" "", .lst []]]
def oC : List Dt := [.tup [.str "by", .str "mE", pr "m" "L", .lst []], .tup [.str "by", pr "m" "E", pr "m" "L", .emp]]
theorem odds_ok : ∀ d ∈ (oA ++ oB) ++ oC, goodN 3 d = false ∧ askN 3 d = true ∧ szD d ≤ 100000 ∧ depN 6 d = true := by decide +kernel
def oD : List Dt := [.non, .int 5, .lst [], .lst [.str "m.E int"], .bl true, .emp]
theorem oddt_ok : ∀ d ∈ oD, decide (tyName d = "str") = false ∧ depN 6 d = true := by decide +kernel
theorem dep_pair {n : Nat} {x : Str} {d : Dt} (h : DepLe n d) : DepLe (n + 1) (.tup [.str x, d]) := fun ds hds => by
  cases hds
  refine ⟨(by show 2 ≤ 1000; decide), fun z hz => ?_⟩
  rcases List.mem_cons.mp hz with e | hz
  · rw [e]; exact depLe_str _ _
  · rw [List.mem_singleton.mp hz]; exact h
/-! ### the texts at the end -/
abbrev bNo : Bk := .mk [] [] [] [] []
abbrev bI : Bk := .mk [109] [69] [] [105, 110, 116] []
theorem t1 : ROne [] 0 false 0 true bNo := .leaf (k1 := 0) (b1 := true) (nm := ([], [])) (k2 := 0) (b2 := true) (hd := ([], [])) (by decide +kernel) (by decide +kernel) (by decide +kernel) (.inl rfl)
theorem t2 : ROne [109, 46, 69, 32, 105, 110, 116] 0 false 7 false bI := .leaf (k1 := 3) (b1 := false) (nm := ([109], [69])) (k2 := 4) (b2 := false) (hd := ([], [105, 110, 116])) (by decide +kernel) (by decide +kernel) (by decide +kernel) (.inr (by decide))
theorem t3 : ROne [109, 46, 69, 32, 32, 105, 110, 116] 0 false 4 true (.mk [109] [69] [] [] []) := .leaf (k1 := 3) (b1 := false) (nm := ([109], [69])) (k2 := 4) (b2 := false) (hd := ([], [])) (by decide +kernel) (by decide +kernel) (by decide +kernel) (.inl rfl)
theorem t4 : ROne [109, 46, 69, 32, 109, 46, 76, 40, 109, 46, 69, 32, 105, 110, 116] 0 false 15 true (.mk [109] [69] [109] [76] [bI]) :=
  .node (k1 := 3) (b1 := false) (nm := ([109], [69])) (k2 := 4) (b2 := false) (k3 := 7) (hd := ([109], [76])) (k5 := 15) (b5 := false) (k6 := 15) (b6 := false) (ps := []) (by decide +kernel) (by decide +kernel) (by decide +kernel) (by decide)
    (.leaf (k1 := 11) (b1 := false) (nm := ([109], [69])) (k2 := 12) (b2 := false) (hd := ([], [105, 110, 116])) (by decide +kernel) (by decide +kernel) (by decide +kernel) (.inr (by decide))) (.stop (.inr (by decide))) (by decide +kernel)
theorem t5 : ROne [105, 110, 116, 46, 69, 32, 105, 110, 116] 0 false 3 true (.mk [105, 110, 116] [] [] [] []) := .leaf (k1 := 3) (b1 := true) (nm := ([105, 110, 116], [])) (k2 := 3) (b2 := true) (hd := ([], [])) (by decide +kernel) (by decide +kernel) (by decide +kernel) (.inl rfl)
theorem t6 : ROne [109, 46, 69, 32, 105, 110, 46, 76] 0 false 6 true (.mk [109] [69] [105, 110] [] []) := .leaf (k1 := 3) (b1 := false) (nm := ([109], [69])) (k2 := 4) (b2 := false) (hd := ([105, 110], [])) (by decide +kernel) (by decide +kernel) (by decide +kernel) (.inl rfl)
theorem t7 : ROne [105, 110, 115, 116, 97, 110, 99, 101, 46, 69, 32, 105, 110, 116] 0 false 7 true (.mk [105, 110, 115, 116, 97, 110, 99, 101] [] [] [] []) := .leaf (k1 := 7) (b1 := true) (nm := ([105, 110, 115, 116, 97, 110, 99, 101], [])) (k2 := 7) (b2 := true) (hd := ([], [])) (by decide +kernel) (by decide +kernel) (by decide +kernel) (.inl rfl)
theorem t8 : ROne [109, 46, 69, 32, 105, 110, 115, 116, 97, 110, 99, 101, 109, 46, 76] 0 false 11 true (.mk [109] [69] [105, 110, 115, 116, 97, 110, 99, 101] [] []) := .leaf (k1 := 3) (b1 := false) (nm := ([109], [69])) (k2 := 4) (b2 := false) (hd := ([105, 110, 115, 116, 97, 110, 99, 101], [])) (by decide +kernel) (by decide +kernel) (by decide +kernel) (.inl rfl)
section
variable {K : PySem.W.Frag}
theorem Lit.go {te : TE} {d : Dt} {σ : L2.St} {H : Hp} {Q : VK} (h : Lit K te d) (q : ∀ v fp H', Same H H' → New K H H' v d fp → Q v H') : te σ H Q := h σ H Q q
theorem Lits.go {ta : TA} {ds : List Dt} {σ : L2.St} {H : Hp} {Q : List V → Hp → Prop} (h : Lits K ta ds) (q : ∀ vs fp H', Same H H' → News K H H' vs ds fp → Q vs H') : ta σ H Q := h σ H Q q
theorem lit_pr (x y : Str) : Lit K (tTup (tCons (tC (.str x)) (tCons (tC (.str y)) tNil))) (pr x y) := lit_tup (lits_cons (lit_str x) (lits_cons (lit_str y) lits_nil)) (by show 2 ≤ 1000; decide)
theorem lit_3 {te2 te3 : TE} {d2 d3 : Dt} (x : Str) (h2 : Lit K te2 d2) (h3 : Lit K te3 d3) : Lit K (tTup (tCons (tC (.str x)) (tCons te2 (tCons te3 tNil)))) (.tup [.str x, d2, d3]) := lit_tup (lits_cons (lit_str x) (lits_cons h2 (lits_cons h3 lits_nil))) (by show 3 ≤ 1000; decide)
theorem lit_4 {te2 te3 te4 : TE} {d2 d3 d4 : Dt} (x : Str) (h2 : Lit K te2 d2) (h3 : Lit K te3 d3) (h4 : Lit K te4 d4) : Lit K (tTup (tCons (tC (.str x)) (tCons te2 (tCons te3 (tCons te4 tNil))))) (.tup [.str x, d2, d3, d4]) := lit_tup (lits_cons (lit_str x) (lits_cons h2 (lits_cons h3 (lits_cons h4 lits_nil)))) (by show 4 ≤ 1000; decide)
theorem lit_l0 : Lit K (tLst tNil) (.lst []) := lit_lst lits_nil (by decide)
theorem lit_read {CT : Addr} {n : Nat} {x : Str} {z : List Nat} {k : Nat} {b : Bool} {p : Bk} (hx : x = S z) (hn : z.length ≤ 6 * n) (hz : z.length ≤ 10000) (o : ROne z 0 false k b p) : Lit K (tCall (sp_read K CT n) [] L2.E0 (tCons (tC (.str x)) tNil)) (resD z k b p) := fun σ H Q q => by
  subst hx
  refine ⟨.str (S z), .str (S z), [], rfl, .str _, fun x hx => ⟨z, by cases hx; rfl, hn, hz, fun k2 b2 p2 v fp H' o2 e nw => ?_⟩, fun h => absurd rfl h⟩
  obtain ⟨rfl, rfl, rfl⟩ := o.det o2
  exact q v fp H' e nw
/-- a new list, longer by another's things -/
theorem ext_new {H H1 H2 : Hp} {A B : Addr} {ds1 ds2 : List Dt} {f g : List Addr} (n1 : New K H H1 (.ref A) (.lst ds1) f) (e : Same H1 H2) (n2 : New K H1 H2 (.ref B) (.lst ds2) g) :
    ∃ xs zs, H2 A = some (.lst xs) ∧ H2 B = some (.lst zs) ∧ xs.length = ds1.length ∧ zs.length = ds2.length ∧ H A = none ∧ ∃ h, Reps K (upd H2 A (.lst (xs ++ zs))) (xs ++ zs) (ds1 ++ ds2) h := by
  obtain ⟨r1, fr1, nd1⟩ := n1
  obtain ⟨r2, fr2, nd2⟩ := n2
  cases r1 with
  | @lst _ xs _ f1 hA rs1 =>
  cases r2 with
  | @lst _ zs _ f2 hB rs2 =>
  have hA2 := e _ _ hA
  have ku : Kp (· = A) H2 (upd H2 A (.lst (xs ++ zs))) := kp_at A _
  have nt : NoTup (· = A) H2 := fun b hb => noTup_one hA2 hb (fun xs z => nomatch z) (fun o xs z => nomatch z)
  have a1 : ∀ b ∈ f1, ¬ b = A := fun b hb z => (List.nodup_cons.mp nd1).1 (z ▸ hb)
  have a2 : ∀ b ∈ f2, ¬ b = A := fun b hb z => by
    have q := fr2 b (List.mem_cons_of_mem _ hb)
    rw [z, hA] at q
    cases q
  exact ⟨xs, zs, hA2, hB, rs1.len, rs2.len, fr1 A (List.mem_cons_self ..), f1 ++ f2, ((rs1.same e).keep ku nt a1).app (rs2.keep ku nt a2)⟩
theorem Reps.extN {H H' : Hp} {vs : List V} {ds : List Dt} {fp : List Addr} (r : Reps K H vs ds fp) (e : ExtN H H') : Reps K H' vs ds fp := r.keep (ExtN.kp e) nt_tbl fun a ha => Reps.notTbl0 (fun d _ v fp => Rep.notTbl d v fp) r a ha
end
end K54

set_option Elab.async false
set_option linter.all false
set_option maxRecDepth 100000
set_option maxHeartbeats 4000000
namespace K54
open PySem PySem.Spec PyProof.Rows L2 C8 RZ LiI SX LamX
section
variable {X : Cx}
theorem passE0 : ∀ σ, PassesAt (L2.CX X.prog X.w) X σ L2.E0 := fun σ pins H s e s' I c => passL pins σ H s e s' I c
theorem pe_tw {T : List (Addr × Str)} {c P : Addr} {k m : Nat} {e0 : Expr} {pa1 pa2 : Arguments} {b1 b2 : Expr} {sc1 sc2 : Scope} {t0 : TE} {t1 t2 : XK → TE} {p l1 l2 pos : Pos} (D : DefB X.K X.mg "_law_twice" s_twice ["due", "first", "other"]) (C_law_same : Cal X.prog X.w X.K X.mg X.base (m + 3) "_law_same" (sp_same X.K (m + 3)) []) (C_law_copied : Cal X.prog X.w X.K X.mg X.base (m + 1) "_law_copied" (sp_copied X.K (m + 1)) [])
    (C_law_spoilt : Cal X.prog X.w X.K X.mg X.base (m + 2) "_law_spoilt" (sp_spoilt X.K (m + 2)) []) (hg : Gl X "_law_twice") (hs : X.stack = X.env :: X.outer) (hf : X.env.frame = some X.env.locals)
    (TB : TabB X.base X.mg c P) (hcode : X.env.code = .ref c) (hmT : (P, X.env.qual ++ "<lambda>") ∈ T) (hu : ∀ p ∈ T, p.1 = P → p.2 = X.env.qual ++ "<lambda>") (hr : Room (k + 2) X.A) (L1 : LamS X.env.scope sc1) (L2 : LamS X.env.scope sc2) (hd1 : defaultsOf pa1 X.env = ([], [])) (hd2 : defaultsOf pa2 X.env = ([], []))
    (hb1 : ∀ (q : Str) (cl : List (Str × Addr)) (pm cv ctv : Value), bindArgs (PySem.W.kla_fn "<lambda>" q pa1 b1 sc1 cl pm cv ctv) ⟨[], []⟩ = pure []) (hb2 : ∀ (q : Str) (cl : List (Str × Addr)) (pm cv ctv : Value), bindArgs (PySem.W.kla_fn "<lambda>" q pa2 b2 sc2 cl pm cv ctv) ⟨[], []⟩ = pure [])
    (h0 : PE X e0 t0)
    (hbody1 : ∀ (A : Around) (outer : List Env) (s : Shared) (H : Hp) (E : XK) (f c' : Addr), Room k (A.deeper (lamEnv X sc1 s.heap.objs.size f c')) → PE (lamCx X A outer s H E sc1 f c') b1 (t1 E))
    (hbody2 : ∀ (A : Around) (outer : List Env) (s : Shared) (H : Hp) (E : XK) (f c' : Addr), Room k (A.deeper (lamEnv X sc2 s.heap.objs.size f c')) → PE (lamCx X A outer s H E sc2 f c') b2 (t2 E)) (hmk : m + 3 ≤ k + 1 := by decide)
    (he : starEach [e0, .Lambda pa1 b1 sc1 l1, .Lambda pa2 b2 sc2 l2] X.env = (false, eval e0 X.env) :: starEach [.Lambda pa1 b1 sc1 l1, .Lambda pa2 b2 sc2 l2] X.env := by rfl) :
    PE X (.Call (.Name "_law_twice" p) [e0, .Lambda pa1 b1 sc1 l1, .Lambda pa2 b2 sc2 l2] [] pos) (tTwo T (TTw X.K m) t0 t1 t2) := by
  obtain ⟨g, fd, Fd, b⟩ := D.ex
  obtain ⟨oc, od, dV, kV, doc, pm, an, cdv, ct, osl, e, lk, hcd⟩ := Fd.fn.ex
  subst e
  exact pe_two hg Fd.mgf Fd.kp lk hcd b sc_twice rfl rfl (.inl rfl) (.inl rfl) (twice_gives hmk C_law_same C_law_copied C_law_spoilt) hs hf TB hcode hmT hu hr L1 L2 hd1 hd2 hb1 hb2 h0 hbody1 hbody2 (he := he)
end
abbrev s_law : Stmt := top 42
theorem sc_law : FnScope ["script", "stream", "turn", "book", "text", "handed", "was", "k", "at", "sign", "bent", "end", "is_wrong", "told", "odds", "odd", "found", "due"] ["script"] (fnScope s_law) := fnScope_by (by decide +kernel)
abbrev qLaw : Str := "law.<locals>.<lambda>"
section
variable {P : Program} {w : World} {K : PySem.W.Frag} {mg : Str → Option Value} {base : Heap} {aW aN C CB CT fW fR cl Pl : Addr}
theorem aln_small {w : List Nat} (h : w.all aln = true) : w.all (fun c => decide (c < 1114112)) = true := List.all_eq_true.mpr fun c hc => decide_eq_true (by
  have q := List.all_eq_true.mp h c hc
  unfold aln isL isG isF at q
  simp only [Bool.or_eq_true, Bool.and_eq_true, decide_eq_true_eq] at q
  omega)
theorem joinT_all {f : Nat → Bool} (h1 : f 44 = true) (h2 : f 32 = true) : ∀ ys : List (List Nat), (∀ y ∈ ys, y.all f = true) → (joinT ys).all f = true
  | [], _ => rfl
  | [x], h => h x (List.mem_cons_self ..)
  | x :: y :: r, h => by
    show (x ++ 44 :: 32 :: joinT (y :: r)).all f = true
    rw [List.all_append, List.all_cons, List.all_cons, h1, h2, h x (List.mem_cons_self ..), joinT_all h1 h2 (y :: r) fun z hz => h z (List.mem_cons_of_mem _ hz)]
    rfl
theorem Valid.asc {b : Bk} (hv : Valid b) : (txt b).all (fun c => decide (c < 1114112)) = true := by
  induction hv with
  | @mk m e hm ht ps h1 h2 h3 h4 ih =>
    have a1 := aln_small (sign_parts h1).2.2.2.2
    have a2 := aln_small (sign_parts h2).2.2.2.2
    have a3 : (headT hm ht).all (fun c => decide (c < 1114112)) = true := by
      by_cases hI : isI hm ht = true
      · rw [show headT hm ht = cInt from if_pos hI]; decide
      · obtain ⟨a, b⟩ := h3.resolve_left hI
        rw [show headT hm ht = hm ++ 46 :: ht from if_neg hI, List.all_append, List.all_cons, aln_small (sign_parts a).2.2.2.2, aln_small (sign_parts b).2.2.2.2]
        decide
    have a4 : (partT ps).all (fun c => decide (c < 1114112)) = true := by
      cases ps with
      | nil => rfl
      | cons p ps =>
        show (40 :: (joinT (txts (p :: ps)) ++ [41])).all (fun c => decide (c < 1114112)) = true
        rw [List.all_cons, List.all_append, joinT_all (by decide) (by decide) _ fun y hy => ?_]
        · decide
        · rw [txts_map] at hy
          obtain ⟨q, hq, rfl⟩ := List.mem_map.mp hy
          exact ih q hq
    rw [txt_eq, List.all_append, List.all_cons, List.all_append, List.all_cons, List.all_append, a1, a2, a3, a4]
    decide
theorem book_rep {K : PySem.W.Frag} {H : Hp} {v : V} {b : Bk} {fp : List Addr} (r : Rep K H v (.tup [.str "book", dOf b]) fp) : ∃ t vb f1, v = .ref t ∧ SqT K H t [.str "book", vb] ∧ Rep K H vb (dOf b) f1 := by
  cases r with
  | tup e rs =>
    cases rs with
    | cons r0 rs =>
    cases rs with
    | @cons v1 _ _ _ f1 _ r1 rs =>
    cases rs
    cases r0
    exact ⟨_, v1, f1, rfl, e, r1⟩
theorem dep_sign (n : Nat) (x : Str) (i : Int) : DepLe (n + 1) (.tup [.str x, .int i]) := fun ds hds => by
  cases hds
  refine ⟨(by show 2 ≤ 1000; decide), fun z hz => ?_⟩
  rcases List.mem_cons.mp hz with h | hz
  · rw [h]; exact depLe_str _ _
  · rw [List.mem_singleton.mp hz]
    cases n with
    | zero => rfl
    | succ n => exact fun ds h => nomatch h
def S18 (a st : Addr) (σ : L2.St) : Prop := ∃ x2 x3 x4 x5 x6 x7 x8 x9 x10 x11 x12 x13 x14 x15 x16 x17 : Option V, σ = [some (.ref a), some (.ref st), x2, x3, x4, x5, x6, x7, x8, x9, x10, x11, x12, x13, x14, x15, x16, x17]
def S18t (a st : Addr) (t : Str) (σ : L2.St) : Prop := ∃ x2 x3 x5 x6 x7 x8 x9 x10 x11 x12 x13 x14 x15 x16 x17 : Option V, σ = [some (.ref a), some (.ref st), x2, x3, some (.str t), x5, x6, x7, x8, x9, x10, x11, x12, x13, x14, x15, x16, x17]
theorem Strm.lists {H : Hp} {st q : Addr} {n : Nat} (S : Strm H st q n) : ∀ a, At2 st q a → H a ≠ none → ∃ xs, H a = some (.lst xs) := fun a ha _ => by
  obtain ⟨cs, x1, x2, x3, h1, h2, _⟩ := S.ex
  rcases ha with z | z
  · exact ⟨_, z ▸ h1⟩
  · exact ⟨_, z ▸ h2⟩
theorem pair_rep {H : Hp} {v : V} {b : Bk} {fp : List Addr} (r : Rep K H v (pairD b) fp) : ∃ t vb f1, v = .ref t ∧ SqT K H t [vb, .str (S (txt b))] ∧ Rep K H vb (dOf b) f1 ∧ ∀ a ∈ f1, a ∈ fp := by
  cases r with
  | tup e rs =>
    cases rs with
    | @cons v0 _ _ _ f0 _ r0 rs =>
    cases rs with
    | cons r1 rs =>
    cases rs
    cases r1
    exact ⟨_, v0, f0, rfl, e, r0, fun a ha => List.mem_append_left _ ha⟩
/-- an expression of a text, so long at most -/
def TxE (te : TE) (σ : L2.St) (H : Hp) (n : Nat) : Prop := ∀ Q : VK, (∀ s : Str, s.length ≤ n → Q (.str s) H) → te σ H Q
def TxEs (ta : TA) (σ : L2.St) (H : Hp) (n k : Nat) : Prop := ∀ Q : List V → Hp → Prop, (∀ ss : List Str, ss.length = k → (∀ s ∈ ss, s.length ≤ n) → Q (ss.map V.str) H) → ta σ H Q
theorem str_app_len (a b : Str) : (a ++ b).length = a.length + b.length := by
  rw [← S_tl a, ← S_tl b, S_cat, S_len, S_len, S_len, List.length_append]
theorem tx_var {σ : L2.St} {H : Hp} {i n : Nat} {s : Str} (h : σ[i]? = some (some (.str s))) (hl : s.length ≤ n) : TxE (tVar i) σ H n := fun Q q => ⟨_, h, q s hl⟩
theorem tx_add {σ : L2.St} {H : Hp} {n m : Nat} {a b : TE} (ha : TxE a σ H n) (hb : TxE b σ H m) (hs : n + m ≤ sizeLine) : TxE (tOp (fun x y H Q => ∃ (i j : Str), x = V.str i ∧ y = V.str j ∧ i.length + j.length ≤ sizeLine ∧ Q (V.str (i ++ j)) H) a b) σ H (n + m) := fun Q q =>
  ha _ fun s h1 => hb _ fun u h2 => ⟨s, u, rfl, rfl, by omega, q _ (by rw [str_app_len]; omega)⟩
theorem tx_to {σ : L2.St} {H : Hp} {i j n : Nat} {s : Str} {r : Int} (h : σ[i]? = some (some (.str s))) (hl : s.length ≤ n) (hn : n ≤ sizeLine) (hr : σ[j]? = some (some (.int r))) : TxE (tSl rSlS (tVar i) tNoPart (tPart (tVar j))) σ H n := fun Q q =>
  ⟨_, h, _, hr, _, rfl, s, rfl, Nat.le_trans hl hn, q _ (Nat.le_trans (cutS_length _ _ _) hl)⟩
theorem tx_from {σ : L2.St} {H : Hp} {i j n : Nat} {s : Str} {r : Int} (h : σ[i]? = some (some (.str s))) (hl : s.length ≤ n) (hn : n ≤ sizeLine) (hr : σ[j]? = some (some (.int r))) : TxE (tSl rSlS (tVar i) (tPart (tVar j)) tNoPart) σ H n := fun Q q =>
  ⟨_, h, _, hr, _, rfl, s, rfl, Nat.le_trans hl hn, q _ (Nat.le_trans (cutS_length _ _ _) hl)⟩
theorem tx_from1 {σ : L2.St} {H : Hp} {i j n : Nat} {s : Str} {r : Int} (h : σ[i]? = some (some (.str s))) (hl : s.length ≤ n) (hn : n ≤ sizeLine) (hr : σ[j]? = some (some (.int r))) : TxE (tSl rSlS (tVar i) (tPart (tOp (rI0 fun i j => V.int (i + j)) (tVar j) (tC (V.int 1)))) tNoPart) σ H n := fun Q q =>
  ⟨_, h, _, hr, _, _, rfl, rfl, _, rfl, s, rfl, Nat.le_trans hl hn, q _ (Nat.le_trans (cutS_length _ _ _) hl)⟩
theorem txs_nil {σ : L2.St} {H : Hp} {n : Nat} : TxEs tNil σ H n 0 := fun Q q => q [] rfl (fun s h => nomatch h)
theorem txs_cons {σ : L2.St} {H : Hp} {n m k : Nat} {te : TE} {ta : TA} (h : TxE te σ H m) (hm : m ≤ n) (t : TxEs ta σ H n k) : TxEs (tCons te ta) σ H n (k + 1) := fun Q q =>
  h _ fun s h1 => t _ fun ss h2 h3 => q (s :: ss) (by rw [List.length_cons, h2]) fun x hx => by
    rcases List.mem_cons.mp hx with e | hx
    · rw [e]; omega
    · exact h3 x hx
theorem TxEs.arg {ta : TA} {σ : L2.St} {H : Hp} {n k : Nat} {Q : List V → Hp → Prop} (h : TxEs ta σ H n k) (hk : k ≤ 1000) (q : ∀ ss : List Str, ss.length = k → (∀ s ∈ ss, s.length ≤ n) → ∀ p, H p = none → Q [.ref p] (upd H p (.lst (ss.map V.str)))) : tCons (tLst ta) tNil σ H Q :=
  h _ fun ss h1 h2 => ⟨by rw [List.length_map, h1]; exact Nat.le_trans hk (by decide), fun p hp => q ss h1 h2 p hp⟩
theorem asg_lit {K : PySem.W.Frag} {te : TE} {g : TG} {u : TS} {D : Ends} {σ : L2.St} {H : Hp} {d : Dt} (h : Lit K te d) (q : ∀ v fp H', Same H H' → New K H H' v d fp → g v σ H' fun σ2 H2 => u D σ2 H2) : tSeq (tAsg te g) u D σ H := h σ H _ q
theorem lit_rdS {K : PySem.W.Frag} {CT : Addr} {n k : Nat} {x : Str} {z : List Nat} {p : Bk} (hx : x = S z) (hn : z.length ≤ 6 * n) (hz : z.length ≤ 10000) (o : ROne z 0 false k true p) : Lit K (tCall (sp_read K CT n) [] L2.E0 (tCons (tC (.str x)) tNil)) (.tup [.str "sign", .int (k : Int)]) := by
  have h := lit_read (K := K) (CT := CT) hx hn hz o
  unfold resD at h
  rw [if_pos (.inl rfl)] at h
  exact h
theorem lit_rdB {K : PySem.W.Frag} {CT : Addr} {n k : Nat} {x : Str} {z : List Nat} {p : Bk} (hx : x = S z) (hn : z.length ≤ 6 * n) (hz : z.length ≤ 10000) (o : ROne z 0 false k false p) (hk : ¬ k < z.length) : Lit K (tCall (sp_read K CT n) [] L2.E0 (tCons (tC (.str x)) tNil)) (.tup [.str "book", dOf p]) := by
  have h := lit_read (K := K) (CT := CT) hx hn hz o
  unfold resD at h
  rw [if_neg (fun q => by rcases q with q | q; exact nomatch q; exact hk q)] at h
  exact h
abbrev sg (i : Int) : Dt := .tup [.str "sign", .int i]
abbrev dI : Dt := .tup [.str "by", pr "m" "E", pr "" "int", .lst []]
theorem dI_eq : dOf bI = dI := by
  show Dt.tup [.str "by", .tup [.str (S [109]), .str (S [69])], .tup [.str (S []), .str (S [105, 110, 116])], .lst []] = _
  rw [show S [109] = ("m" : Str) by decide +kernel, show S [69] = ("E" : Str) by decide +kernel, show S [] = ("" : Str) by decide +kernel, show S [105, 110, 116] = ("int" : Str) by decide +kernel]
def dF1 : List Dt := [sg 0, .tup [.str "book", dI], sg 4, sg 15, sg 3, sg 6]
def dF2 : List Dt := [sg 7, sg 11]
theorem dF_dep : DepLe 12 (.lst (dF1 ++ dF2)) := (depN_ok 6 (by decide +kernel)).mono (by decide)
theorem lit_sg {K : PySem.W.Frag} (i : Int) : Lit K (tTup (tCons (tC (.str "sign")) (tCons (tC (.int i)) tNil))) (sg i) := lit_tup (lits_cons (lit_str "sign") (lits_cons (lit_int i) lits_nil)) (by show 2 ≤ 1000; decide)
theorem lit_bk {K : PySem.W.Frag} {te : TE} {d : Dt} (h : Lit K te d) : Lit K (tTup (tCons (tC (.str "book")) (tCons te tNil))) (.tup [.str "book", d]) := lit_tup (lits_cons (lit_str "book") (lits_cons h lits_nil)) (by show 2 ≤ 1000; decide)
theorem lit_F1 {K : PySem.W.Frag} {CT : Addr} : Lit K (tLst (tCons (tCall (sp_read K CT 130) [] L2.E0 (tCons (tC (.str "")) tNil)) (tCons (tCall (sp_read K CT 130) [] L2.E0 (tCons (tC (.str "m.E int")) tNil)) (tCons (tCall (sp_read K CT 130) [] L2.E0 (tCons (tC (.str "m.E  int")) tNil)) (tCons (tCall (sp_read K CT 130) [] L2.E0 (tCons (tC (.str "m.E m.L(m.E int")) tNil)) (tCons (tCall (sp_read K CT 130) [] L2.E0 (tCons (tC (.str "int.E int")) tNil)) (tCons (tCall (sp_read K CT 130) [] L2.E0 (tCons (tC (.str "m.E in.L")) tNil)) tNil))))))) (.lst dF1) := by
  refine lit_lst (lits_cons (lit_rdS (by decide +kernel) (by decide) (by decide) t1) (lits_cons ?_ (lits_cons (lit_rdS (by decide +kernel) (by decide) (by decide) t3) (lits_cons (lit_rdS (by decide +kernel) (by decide) (by decide) t4) (lits_cons (lit_rdS (by decide +kernel) (by decide) (by decide) t5) (lits_cons (lit_rdS (by decide +kernel) (by decide) (by decide) t6) lits_nil)))))) (by show 6 ≤ 1000; decide)
  rw [← dI_eq]
  exact lit_rdB (by decide +kernel) (by decide) (by decide) t2 (by decide)
theorem lit_F2 {K : PySem.W.Frag} {CT : Addr} : Lit K (tLst (tCons (tCall (sp_read K CT 130) [] L2.E0 (tCons (tC (.str "instance.E int")) tNil)) (tCons (tCall (sp_read K CT 130) [] L2.E0 (tCons (tC (.str "m.E instancem.L")) tNil)) tNil))) (.lst dF2) :=
  lit_lst (lits_cons (lit_rdS (by decide +kernel) (by decide) (by decide) t7) (lits_cons (lit_rdS (by decide +kernel) (by decide) (by decide) t8) lits_nil)) (by show 2 ≤ 1000; decide)
theorem nx_asg {te : TE} {g : TG} {u : TS} {D : Ends} {σ : L2.St} {H : Hp} (h : te σ H fun x H1 => g x σ H1 fun σ2 H2 => u D σ2 H2) : tSeq (tAsg te g) u D σ H := h
def sp_law (K : PySem.W.Frag) (T : List (Addr × Str)) : Sp := fun vs H Q _ => ∃ (a : Addr) (ns : List Int), vs = [.ref a] ∧ SqL K H a (ns.map V.int) ∧ Tabs T H ∧ ∀ H', Q (.bl true) H'
theorem fn_ofC {x : Str} {st : Stmt} {N ps : List Str} {f c : Addr} {oc dV kV doc pm ct : Value} {od an : Option Addr} {osl : Array (Option Value)} {k : Nat} {sp : Sp} (lk : K.lookup f = some ⟨oc, od, .func (PySem.W.fnOf x x (fnArgs st) (fnBody st) (fnScope st) dV kV doc pm an (.ref c) ct), osl⟩) (hcd : PySem.W.codeIn K (.ref c) x = true) (S : FnScope N ps (fnScope st)) (len : ∀ vs H Q E, sp vs H Q E → vs.length = ps.length)
    (hbody : ∀ (f : Addr) (A : Around) (outer : List Env) (s : Shared) (H : Hp) (vs : List V) (Q : VK) (E : XK), Room k (A.deeper (envOfC x (fnScope st) s.heap.objs.size f (.ref c))) → sp vs H Q E →
      ∃ t, PSs (cxOf C8.CX0 P w K mg base N x (fnScope st) f (.ref c) A outer s H E).nox (fnBody st) t ∧ t { nx := fun _ H' => Q .non H', rt := Q } (start N vs) H) : FnOk P w K mg base C8.CX0 (k + 1) f (PySem.W.fnOf x x (fnArgs st) (fnBody st) (fnScope st) dV kV doc pm an (.ref c) ct) ps sp := by
  refine fn_of lk hcd S len fun A outer s H vs Q E hr h => ?_
  obtain ⟨t, h1, h2⟩ := hbody f A outer s H vs Q E hr h
  exact ⟨t, h1.nox, h2⟩
theorem ok_law {T : List (Addr × Str)} {fL : Addr} {oc dV kV doc pm ct : Value} {od an : Option Addr} {osl : Array (Option Value)} (lk : K.lookup fL = some ⟨oc, od, .func (PySem.W.fnOf "law" "law" (fnArgs s_law) (fnBody s_law) (fnScope s_law) dV kV doc pm an (.ref cl) ct), osl⟩) (hcd : PySem.W.codeIn K (.ref cl) "law" = true) (B : Bt mg) (F : ExF K mg CB CT) (D_met : DefB K mg "_law_met" s_met ["ask"]) (D_tw : DefB K mg "_law_twice" s_twice ["due", "first", "other"]) (TBl : TabB base mg cl Pl)
    (hml : (Pl, qLaw) ∈ T) (hul : ∀ p ∈ T, p.1 = Pl → p.2 = qLaw) (CW : CalX P w K mg base 135 "written_book" ["book"] (sp_written K CB 130)) (CR : CalX P w K mg base 135 "read_book" ["text"] (sp_read K CT 130)) (mW : mg "written_book" = some (.ref fW)) (mR : mg "read_book" = some (.ref fR))
    (C_law_same : Cal P w K mg base 13 "_law_same" (sp_same K 13) []) (C_same12 : Cal P w K mg base 12 "_law_same" (sp_same K 12) []) (C_copied10 : Cal P w K mg base 10 "_law_copied" (sp_copied K 10) []) (C_spoilt11 : Cal P w K mg base 11 "_law_spoilt" (sp_spoilt K 11) [])
    (C_law_copied : Cal P w K mg base 9 "_law_copied" (sp_copied K 9) []) (C_law_stream : Cal P w K mg base 1 "_law_stream" (sp_stream K) []) (C_law_draw : Cal P w K mg base 1 "_law_draw" sp_draw []) (C_law_pick : Cal P w K mg base 2 "_law_pick" sp_pick []) (C_law_o_book : Cal P w K mg base 6 "_law_o_book" (sp_obook K 4) [])
    (C_law_loose : Cal P w K mg base 10 "_law_loose" (sp_loose K 9) []) (C_law_o_end : Cal P w K mg base 134 "_law_o_end" (sp_oend K 131) []) (C_law_is_very : Cal P w K mg base 138 "_law_is_very" (sp_very fW fR T) []) : FnOk P w K mg base C8.CX0 141 fL (PySem.W.fnOf "law" "law" (fnArgs s_law) (fnBody s_law) (fnScope s_law) dV kV doc pm an (.ref cl) ct) ["script"] (sp_law K T) := by
  have sc := sc_law
  have gW : ∃ u, mg "written_book" = some u ∧ RelV (.ref fW) u := ⟨_, mW, rfl⟩
  have gR : ∃ u, mg "read_book" = some u ∧ RelV (.ref fR) u := ⟨_, mR, rfl⟩
  refine fn_ofC lk hcd sc (fun vs H Q E h => ?_) (fun f A outer s H vs Q E hr h => ?_)
  · obtain ⟨a, ns, rfl, _⟩ := h
    rfl
  · obtain ⟨a, ns, rfl, hS, hT, q⟩ := h
    have hk77 : 137 ≤ 140 := by decide
    refine ⟨_, (pss_cons (ps_set (i := 1) sc.nd rfl (Or.inl rfl) (pe_c C_law_stream hr (by omega) rfl (pa_cons (pv 0) pa_nil)))
  (pss_cut (ps_for PassesOwn.never rfl (pi_range1 rfl B.range (pa_cons pe_int pa_nil)) (pg_name (i := 2) sc.nd rfl (Or.inl rfl)) (pss_cons (ps_asg (pe_c C_law_o_book hr (by omega) rfl (pa_cons (pv 1) (pa_cons pe_int pa_nil))) (pg_tup rfl (pgs_cons (pg_name (i := 3) sc.nd rfl (Or.inl rfl)) (pgs_cons (pg_name (i := 4) sc.nd rfl (Or.inr rfl)) pgs_nil))))
  (pss_cons (ps_set (i := 5) sc.nd rfl (Or.inl rfl) (pe_c C_law_loose hr (by omega) rfl (pa_cons (pv 1) (pa_cons (pv 3) pa_nil))))
  (pss_cons (ps_set (i := 6) sc.nd rfl (Or.inl rfl) (pe_c C_law_copied hr (by omega) rfl (pa_cons (pv 5) pa_nil)))
  (pss_cons (ps_if (pt_not (pt_val (pe_c C_law_same hr (by omega) rfl (pa_cons (pe_lst (pa_cons (pe_cX CW hr (by omega) rfl (pa_cons (pv 5) pa_nil)) (pa_cons (pe_cW (E := fun _ => L2.E0) CW rfl hr (by omega) rfl passE0 (pv 3)) (pa_cons (pv 5) pa_nil)))) (pa_cons (pe_lst (pa_cons (pv 4) (pa_cons (pv 4) (pa_cons (pv 6) pa_nil)))) pa_nil))))) (pss_one (ps_ret pe_bl)) pss_nil)
  (pss_cons (ps_if (pt_not (pt_val (pe_tw (k := 135) D_tw C_same12 C_copied10 C_spoilt11 rfl rfl rfl TBl rfl hml hul (hr.mono hk77) (lamS_by (sc := fnScope s_law) (by decide +kernel)) (lamS_by (sc := fnScope s_law) (by decide +kernel)) (by rfl) (by rfl) (fun _ _ _ _ _ => rfl) (fun _ _ _ _ _ => rfl) (pe_tup (pa_cons pe_str (pa_cons (pv 3) pa_nil))) (fun A outer s H E f c' hr2 => pe_cS (E := fun _ => E) CR hr2 (by omega) rfl (fun σ => passAt (takes_of rfl rfl rfl rfl) σ) (pa_cons (pe_var (i := 4) rfl (.inr (.inr rfl))) pa_nil)) (fun A outer s H E f c' hr2 => pe_cW (E := fun _ => E) CR rfl hr2 (by omega) rfl (fun σ => passAt (takes_of rfl rfl rfl rfl) σ) (pe_var (i := 4) rfl (.inr (.inr rfl))))))) (pss_one (ps_ret pe_bl)) pss_nil)
  (pss_one (ps_for PassesOwn.never rfl (pi_range1 rfl B.range (pa_cons pe_int pa_nil)) (pg_name (i := 7) sc.nd rfl (Or.inl rfl)) (pss_cons (ps_par (i := 8) (j := 9) rfl sc.nd rfl rfl (by decide) rfl rfl (pa_cons (pe_c C_law_draw hr (by omega) rfl (pa_cons (pv 1) (pa_cons (pe_op op_add (pe_callB call_len_str rfl B.len (by decide +kernel) (pa_cons (pv 4) pa_nil)) pe_int) pa_nil))) (pa_cons (pe_c C_law_pick hr (by omega) rfl (pa_cons (pv 1) (pa_cons (pe_lst (pa_cons pe_str (pa_cons pe_str (pa_cons pe_str (pa_cons pe_str (pa_cons pe_str (pa_cons pe_str (pa_cons pe_str (pa_cons pe_str (pa_cons pe_str (pa_cons pe_str (pa_cons pe_str (pa_cons pe_str (pa_cons pe_str (pa_cons pe_str (pa_cons pe_str pa_nil)))))))))))))))) pa_nil))) pa_nil)) (by rfl))
  (pss_cons (ps_set (i := 10) sc.nd rfl (Or.inl rfl) (pe_c C_law_pick hr (by omega) rfl (pa_cons (pv 1) (pa_cons (pe_lst (pa_cons (pe_slice sl_str (pv 4) po_none (po_some (pv 8))) (pa_cons (pe_op op_add_str (pe_op op_add_str (pe_slice sl_str (pv 4) po_none (po_some (pv 8))) (pv 9)) (pe_slice sl_str (pv 4) (po_some (pv 8)) po_none)) (pa_cons (pe_op op_add_str (pe_op op_add_str (pe_slice sl_str (pv 4) po_none (po_some (pv 8))) (pv 9)) (pe_slice sl_str (pv 4) (po_some (pe_op op_add (pv 8) pe_int)) po_none)) (pa_cons (pe_op op_add_str (pe_slice sl_str (pv 4) po_none (po_some (pv 8))) (pe_slice sl_str (pv 4) (po_some (pe_op op_add (pv 8) pe_int)) po_none)) (pa_cons (pe_op op_add_str (pv 9) (pv 4)) (pa_cons (pe_op op_add_str (pv 4) (pv 9)) pa_nil))))))) pa_nil))))
  (pss_cons (ps_asg (pe_c C_law_o_end hr (by omega) rfl (pa_cons (pv 10) (pa_cons pe_int pa_nil))) (pg_tup rfl (pgs_cons (pg_name (i := 11) sc.nd rfl (Or.inl rfl)) (pgs_cons (pg_name (i := 12) sc.nd rfl (Or.inl rfl)) pgs_nil))))
  (pss_cons (ps_set (i := 13) sc.nd rfl (Or.inl rfl) (pe_cX CR hr (by omega) rfl (pa_cons (pv 10) pa_nil)))
  (pss_one (ps_if (PW.pt (pw_or (pt_val (pv 12)) (pw_or1 (pt_cmpR op_lt (pv 11) (pe_callB call_len_str rfl B.len (by decide +kernel) (pa_cons (pv 10) pa_nil)) (nomark _))))) (pss_one (ps_if (pt_not (pt_val (pe_c C_law_same hr (by omega) rfl (pa_cons (pv 13) (pa_cons (pe_tup (pa_cons pe_str (pa_cons (pv 11) pa_nil))) pa_nil))))) (pss_one (ps_ret pe_bl)) pss_nil)) (pss_one (ps_if (PW.pt (pw_or (pt_cmpR op_ne (pe_ix ix_tup (pv 13) pe_int (fun _ _ => rfl)) pe_str (nomark _)) (pw_or1 (pt_cmpR op_ne (pe_cX CW hr (by omega) rfl (pa_cons (pe_ix ix_tup (pv 13) pe_int (fun _ _ => rfl)) pa_nil)) (pv 10) (nomark _))))) (pss_one (ps_ret pe_bl)) pss_nil))))))))))))))))
  (pss_cons (ps_set (i := 14) sc.nd rfl (Or.inl rfl) (pe_lst (pa_cons pe_non (pa_cons pe_int (pa_cons pe_str (pa_cons pe_dnewK (pa_cons (pe_tup (pa_cons pe_str (pa_cons (pe_tup (pa_cons pe_str (pa_cons pe_str pa_nil))) (pa_cons (pe_tup (pa_cons pe_str (pa_cons pe_str pa_nil))) pa_nil)))) (pa_cons (pe_tup (pa_cons pe_str (pa_cons (pe_tup (pa_cons pe_str (pa_cons pe_str pa_nil))) (pa_cons (pe_tup (pa_cons pe_str (pa_cons pe_str pa_nil))) (pa_cons (pe_lst pa_nil) pa_nil))))) (pa_cons (pe_tup (pa_cons pe_str (pa_cons (pe_tup (pa_cons pe_str (pa_cons pe_str pa_nil))) (pa_cons (pe_tup (pa_cons pe_str (pa_cons pe_str pa_nil))) (pa_cons (pe_lst pa_nil) pa_nil))))) pa_nil)))))))))
  (pss_cons (ps_expr (pe_bm PySem.F.plainAttrs_list PySem.F.slot_list_extend PySem.F.type_list_extend mt_extend (pv 14) (pa_cons (pe_lst (pa_cons (pe_tup (pa_cons pe_str (pa_cons (pe_tup (pa_cons pe_str (pa_cons pe_str pa_nil))) (pa_cons (pe_tup (pa_cons pe_str (pa_cons pe_str pa_nil))) (pa_cons (pe_lst (pa_cons pe_int pa_nil)) pa_nil))))) (pa_cons (pe_tup (pa_cons pe_str (pa_cons (pe_tup (pa_cons pe_str (pa_cons pe_str pa_nil))) (pa_cons (pe_tup (pa_cons pe_str (pa_cons pe_str pa_nil))) (pa_cons (pe_lst pa_nil) pa_nil))))) (pa_cons (pe_tup (pa_cons pe_str (pa_cons (pe_tup (pa_cons pe_str (pa_cons pe_str pa_nil))) (pa_cons (pe_tup (pa_cons pe_str (pa_cons pe_str pa_nil))) (pa_cons (pe_lst pa_nil) pa_nil))))) pa_nil)))) pa_nil)))
  (pss_cut (ps_for PassesOwn.never rfl (pi_list (pe_op op_cat (pv 14) (pe_lst (pa_cons (pe_tup (pa_cons pe_str (pa_cons pe_str (pa_cons (pe_tup (pa_cons pe_str (pa_cons pe_str pa_nil))) (pa_cons (pe_lst pa_nil) pa_nil))))) (pa_cons (pe_tup (pa_cons pe_str (pa_cons (pe_tup (pa_cons pe_str (pa_cons pe_str pa_nil))) (pa_cons (pe_tup (pa_cons pe_str (pa_cons pe_str pa_nil))) (pa_cons pe_dnewK pa_nil))))) pa_nil))))) (pg_name (i := 15) sc.nd rfl (Or.inr rfl)) (pss_one (ps_if (pt_not (pt_val (pe_c C_law_same hr (by omega) rfl (pa_cons (pe_met (k := 135) F D_met rfl TBl rfl hml hul (hr.mono hk77) (lamS_by (sc := fnScope s_law) (by decide +kernel)) (by rfl) (fun _ _ _ _ _ => rfl) (fun A outer s H E f c' hr2 => pe_cS (E := fun _ => E) CW hr2 (by omega) rfl (fun σ => passAt (takes_of rfl rfl rfl rfl) σ) (pa_cons (pe_var (i := 15) rfl (.inr (.inr rfl))) pa_nil))) (pa_cons (pe_tup (pa_cons pe_str (pa_cons (pv 15) pa_nil))) pa_nil))))) (pss_one (ps_ret pe_bl)) pss_nil)))
  (pss_cut (ps_for PassesOwn.never rfl (pi_tup (pe_tup (pa_cons pe_non (pa_cons pe_int (pa_cons (pe_lst pa_nil) (pa_cons (pe_lst (pa_cons pe_str pa_nil)) (pa_cons pe_bl (pa_cons pe_dnewK pa_nil)))))))) (pg_name (i := 15) sc.nd rfl (Or.inr rfl)) (pss_one (ps_if (pt_not (pt_val (pe_c C_law_same hr (by omega) rfl (pa_cons (pe_met (k := 135) F D_met rfl TBl rfl hml hul (hr.mono hk77) (lamS_by (sc := fnScope s_law) (by decide +kernel)) (by rfl) (fun _ _ _ _ _ => rfl) (fun A outer s H E f c' hr2 => pe_cS (E := fun _ => E) CR hr2 (by omega) rfl (fun σ => passAt (takes_of rfl rfl rfl rfl) σ) (pa_cons (pe_var (i := 15) rfl (.inr (.inr rfl))) pa_nil))) (pa_cons (pe_tup (pa_cons pe_str (pa_cons (pv 15) pa_nil))) pa_nil))))) (pss_one (ps_ret pe_bl)) pss_nil)))
  (pss_cons (ps_if (PW.pt (pw_or (pt_not (pt_val (pe_c C_law_is_very hr (by omega) rfl (pa_cons pe_str (pa_cons (pe_gc rfl gW) pa_nil))))) (pw_or1 (pt_not (pt_val (pe_c C_law_is_very hr (by omega) rfl (pa_cons pe_str (pa_cons (pe_gc rfl gR) pa_nil)))))))) (pss_one (ps_ret pe_bl)) pss_nil)
  (pss_cons (ps_set (i := 16) sc.nd rfl (Or.inl rfl) (pe_lst (pa_cons (pe_cX CR hr (by omega) rfl (pa_cons pe_str pa_nil)) (pa_cons (pe_cX CR hr (by omega) rfl (pa_cons pe_str pa_nil)) (pa_cons (pe_cX CR hr (by omega) rfl (pa_cons pe_str pa_nil)) (pa_cons (pe_cX CR hr (by omega) rfl (pa_cons pe_str pa_nil)) (pa_cons (pe_cX CR hr (by omega) rfl (pa_cons pe_str pa_nil)) (pa_cons (pe_cX CR hr (by omega) rfl (pa_cons pe_str pa_nil)) pa_nil))))))))
  (pss_cons (ps_expr (pe_bm PySem.F.plainAttrs_list PySem.F.slot_list_extend PySem.F.type_list_extend mt_extend (pv 16) (pa_cons (pe_lst (pa_cons (pe_cX CR hr (by omega) rfl (pa_cons pe_str pa_nil)) (pa_cons (pe_cX CR hr (by omega) rfl (pa_cons pe_str pa_nil)) pa_nil))) pa_nil)))
  (pss_cons (ps_set (i := 17) sc.nd rfl (Or.inl rfl) (pe_lst (pa_cons (pe_tup (pa_cons pe_str (pa_cons pe_int pa_nil))) (pa_cons (pe_tup (pa_cons pe_str (pa_cons (pe_tup (pa_cons pe_str (pa_cons (pe_tup (pa_cons pe_str (pa_cons pe_str pa_nil))) (pa_cons (pe_tup (pa_cons pe_str (pa_cons pe_str pa_nil))) (pa_cons (pe_lst pa_nil) pa_nil))))) pa_nil))) (pa_cons (pe_tup (pa_cons pe_str (pa_cons pe_int pa_nil))) (pa_cons (pe_tup (pa_cons pe_str (pa_cons pe_int pa_nil))) (pa_cons (pe_tup (pa_cons pe_str (pa_cons pe_int pa_nil))) (pa_cons (pe_tup (pa_cons pe_str (pa_cons pe_int pa_nil))) (pa_cons (pe_tup (pa_cons pe_str (pa_cons pe_int pa_nil))) (pa_cons (pe_tup (pa_cons pe_str (pa_cons pe_int pa_nil))) pa_nil))))))))))
  (pss_one (ps_ret (pe_c C_law_same hr (by omega) rfl (pa_cons (pv 16) (pa_cons (pv 17) pa_nil))))))))))))))), ?_⟩
    refine ⟨_, rfl, a, ns, rfl, hS, fun st q0 H1 e1 hst hq0 S1 => ?_⟩
    refine ⟨fun σ' H' => S18 a st σ' ∧ Tabs T H', ?_, ?_⟩
    · refine ⟨5, rfl, by decide, by decide, for_it walk_range (fun i σ' H' => S18 a st σ' ∧ Strm H' st q0 (i * 1000) ∧ Tabs T H') ⟨⟨_, _, _, _, _, _, _, _, _, _, _, _, _, _, _, _, rfl⟩, by simpa using S1, Tabs.same hT e1⟩ (fun _ _ _ _ _ => trivial) (fun i x σ' H' H'' hi pv y => ?_) (fun σ' H' pv => ⟨pv.1, pv.2.2⟩)⟩
      obtain ⟨rfl, rfl⟩ := y
      obtain ⟨⟨x2, x3, x4, x5, x6, x7, x8, x9, x10, x11, x12, x13, x14, x15, x16, x17, rfl⟩, S0, T0⟩ := pv
      have hi5 : i < 5 := hi
      refine ⟨_, rfl, st, q0, i * 1000, 3, rfl, S0, rfl, (by show i * 1000 + 52 ≤ 2 ^ 40; omega), by decide, fun v b fp H1 ob S1 k1 n1 => ?_⟩
      have hd52 : drw 3 = 52 := rfl
      have hlen : (txt b).length ≤ 358 := ob.len.1
      have hasc := ob.len.2
      have hv := ob.valid
      have hdep : BDep 130 b := hv.dep 130 (by omega)
      have hsz : szD (dOf b) ≤ 716 := Nat.le_trans hv.sz (by omega)
      have hnod : nodes (dOf b) ≤ 716 := Nat.le_trans (nodes_sz _) hsz
      have T1 := Tabs.kp T0 k1 S0.lists
      obtain ⟨t, vb, f1, rfl, hsq, rb, hf1⟩ := pair_rep n1.rep
      refine ⟨t, _, rfl, hsq, rfl, _, _, rfl, _, _, rfl, rfl, ?_⟩
      refine ⟨_, rfl, _, rfl, st, q0, _, vb, dOf b, f1, 8, rfl, S1, rb, (fun z hz hz2 => S0.trk z hz2 (n1.fresh z (hf1 z hz))), rfl, ob.noe, by omega, fun v2 d2 fp2 H2 hn hne S2 k2 n2 => ?_⟩
      have T2 := Tabs.kp T1 k2 S1.lists
      have rb2 : Rep K H2 vb (dOf b) f1 := rb.keep k2 S1.noTup _ _ _ fun z hz hz2 => S0.trk z hz2 (n1.fresh z (hf1 z hz))
      refine ⟨_, rfl, v2, d2, fp2, 8, rfl, n2.rep, rfl, hne, fun v3 fp3 H3 e3 n3 => ?_⟩
      have hga := hv.good hn
      have hga0 := hv.good (d := dOf b) rfl
      have hs2 : szD d2 ≤ 100000 := by rw [← sz_nrm d2, hn, sz_nrm]; omega
      refine ⟨_, rfl, v2, d2, fp2, rfl, n2.rep.same e3, hga.2, hs2, (fun _ => ⟨b, hn, hdep, by omega, hasc, fun H4 e4 => ?_⟩), (fun z => absurd hga.1 z)⟩
      refine ⟨_, rfl, vb, dOf b, f1, rfl, rb2.same (e3.trans e4), hga0.2, by omega, (fun _ => ⟨b, rfl, hdep, by omega, hasc, fun H5 e5 => ?_⟩), (fun z => absurd hga0.1 z)⟩
      refine ⟨_, rfl, (by show 3 ≤ sizeLine; decide), fun La hLa => ⟨_, rfl, _, rfl, _, rfl, (by show 3 ≤ sizeLine; decide), fun Lb hLb => ?_⟩⟩
      have y1 := same_new hLa (.lst [V.str (S (txt b)), V.str (S (txt b)), v2])
      have y2 := same_new hLb (.lst [V.str (S (txt b)), V.str (S (txt b)), v3])
      have y35 := e3.trans (e4.trans e5)
      have z1 : ∃ f, Rep K (upd (upd H5 La (.lst [V.str (S (txt b)), V.str (S (txt b)), v2])) Lb (.lst [V.str (S (txt b)), V.str (S (txt b)), v3])) (.ref La) (.lst [.str (S (txt b)), .str (S (txt b)), d2]) f := ⟨_, .lst (y2 _ _ upd_same) (.cons (.str _) (.cons (.str _) (Reps.one (n2.rep.same (y35.trans (y1.trans y2))))))⟩
      have z2 : ∃ f, Rep K (upd (upd H5 La (.lst [V.str (S (txt b)), V.str (S (txt b)), v2])) Lb (.lst [V.str (S (txt b)), V.str (S (txt b)), v3])) (.ref Lb) (.lst [.str (S (txt b)), .str (S (txt b)), d2]) f := ⟨_, .lst upd_same (.cons (.str _) (.cons (.str _) (Reps.one (n3.rep.same (e4.trans (e5.trans (y1.trans y2)))))))⟩
      obtain ⟨w1, z1⟩ := z1
      obtain ⟨w2, z2⟩ := z2
      have z3 := y35.trans (y1.trans y2)
      generalize upd (upd H5 La (.lst [V.str (S (txt b)), V.str (S (txt b)), v2])) Lb (.lst [V.str (S (txt b)), V.str (S (txt b)), v3]) = H6 at z1 z2 z3 ⊢
      refine ⟨.ref La, .ref Lb, _, w1, w2, 12, rfl, z1, z2, rfl, fun ds hds => ?_, fun H7 e7 => ⟨_, rfl, ite_f rfl ?_⟩⟩
      · cases hds
        refine ⟨(by show 3 ≤ 1000; decide), fun x hx => ?_⟩
        simp only [List.mem_cons, List.not_mem_nil, or_false] at hx
        rcases hx with h | h | h
        · rw [h]; exact depLe_str _ _
        · rw [h]; exact depLe_str _ _
        · rw [h]; exact hne.dep.mono (by decide)
      -- read twice
      have S7 := S2.same (z3.trans e7)
      have T7 := Tabs.same T2 (z3.trans e7)
      have rb7 := rb2.same (z3.trans e7)
      refine ⟨_, rfl, (by show 2 ≤ sizeLine; decide), fun t0 ht0 => ⟨Tabs.same T7 (same_new ht0 _), fun H8 eN T8 => ?_⟩⟩
      have S8 := (S7.same (same_new ht0 (.tup [V.str "book", vb]))).extN eN
      have r8 : Rep K H8 (.ref t0) (.tup [.str "book", dOf b]) ([] ++ (f1 ++ [])) := Rep.extN (.tup (SqT.of upd_same) (.cons (.str _) (.cons (rb7.same (same_new ht0 _)) .nil))) eN
      have once : ∀ H9, Same H8 H9 → ∀ R : VK, (∀ v fp' H10, Same H9 H10 → New K H9 H10 v (.tup [.str "book", dOf b]) fp' → R v H10) → sp_read K CT 130 [.str (S (txt b))] H9 R C8.E0 := fun H9 e9 R hR => by
        refine ⟨.str (S (txt b)), .str (S (txt b)), [], rfl, .str _, fun x hx => ⟨txt b, by cases hx; rfl, by omega, by omega, fun k' b' p v fp' H10 ho e10 n10 => ?_⟩, fun z => absurd rfl z⟩
        obtain ⟨rfl, rfl, rfl⟩ := read_back hv ho
        refine hR v fp' H10 e10 ?_
        unfold resD at n10
        rw [if_neg (fun z => by rcases z with z | z; exact nomatch z; exact absurd z (Nat.lt_irrefl _))] at n10
        exact n10
      refine ⟨.tup [.str "book", dOf b], _, r8, ?_, ?_, fun H9 e9 R hR => ⟨_, rfl, once H9 e9 R hR⟩, fun H9 e9 R hR => ⟨_, rfl, once H9 e9 R hR⟩, fun H9 e9 => ⟨_, rfl, ite_f rfl ?_⟩⟩
      · refine ⟨(fun z => nomatch z), fun ds hds => ?_⟩
        cases hds
        refine ⟨(by show 2 ≤ 1000; decide), fun x hx => ?_⟩
        rcases List.mem_cons.mp hx with h | hx
        · rw [h]; exact noE_str _ _
        · rw [List.mem_singleton.mp hx]; exact ob.noe
      · intro ds hds
        cases hds
        refine ⟨(by show 2 ≤ 1000; decide), fun x hx => ?_⟩
        have hx' : x ∈ [Dt.str "book", spoil (dOf b)] := hx
        rcases List.mem_cons.mp hx' with h | hx'
        · rw [h]; exact depLe_str _ _
        · rw [List.mem_singleton.mp hx']; exact (ob.spo).mono (by decide)
      have S9 := S8.same e9
      have T9 := Tabs.same T8 e9
      clear once r8 eN rb7 z1 z2 z3 rb2 rb hsq n1 n2 n3
      have hc0 : i * 1000 + 52 + nodes (dOf b) + 30 ≤ (i + 1) * 1000 := by rw [Nat.succ_mul]; omega
      generalize hcc : i * 1000 + 52 + nodes (dOf b) = c0 at hc0
      have S9' : Strm H9 st q0 (c0 + 3 * 0) := by rw [← hcc]; exact S9
      refine ⟨10, rfl, by decide, by decide, for_it walk_range (fun j σ' H' => S18t a st (S (txt b)) σ' ∧ Strm H' st q0 (c0 + 3 * j) ∧ Tabs T H') ⟨⟨_, _, _, _, _, _, _, _, _, _, _, _, _, _, _, rfl⟩, S9', T9⟩ (fun _ _ _ _ _ => trivial) (fun j x σ' H' H'' hj pv y => ?_) (fun σ' H' pv => ?_)⟩
      rotate_left
      · obtain ⟨⟨_, _, _, _, _, _, _, _, _, _, _, _, _, _, _, rfl⟩, Se, Te⟩ := pv
        exact ⟨⟨_, _, _, _, _, _, _, _, _, _, _, _, _, _, _, _, rfl⟩, Se.more hc0, Te⟩
      obtain ⟨rfl, rfl⟩ := y
      obtain ⟨⟨x2, x3, x5, x6, x7, x8, x9, x10, x11, x12, x13, x14, x15, x16, x17, rfl⟩, S0, T0⟩ := pv
      have hj10 : j < 10 := hj
      have hcb : c0 + 3 * j + 3 ≤ 6000 := by omega
      have hsl : (S (txt b)).length = (txt b).length := S_len _
      have h1000 : 100000 ≤ sizeLine := by decide
      refine ⟨_, rfl, _, rfl, S (txt b), rfl, by omega, _, _, rfl, rfl, st, q0, _, _, rfl, S0, by omega, by omega, by omega, fun r H1 r0 r1 S1 k1 => ?_⟩
      have T1 := Tabs.kp T0 k1 S0.lists
      refine ⟨_, rfl, (by show 15 ≤ sizeLine; decide), fun L hL => ⟨st, q0, L, _, _, rfl, S1.same (same_new hL _), by omega, upd_same, (fun z => nomatch z), (by show 15 < 1073741824; decide), (fun z => S1.trk L (.inl z) hL), (fun z => S1.trk L (.inr z) hL), fun i2 sg H2 hsg S2 k2 => ?_⟩⟩
      have T2 := Tabs.kp (Tabs.same T1 (same_new hL _)) k2 (S1.same (same_new hL _)).lists
      obtain ⟨sg, rfl, hsg9⟩ : ∃ s : Str, sg = .str s ∧ s.length ≤ 9 := by
        have e := List.mem_of_getElem? hsg
        have e' : sg ∈ ([" ", ".", "(", ")", ",", "a", "Z", "7", "in", "int", "instance", "E", "_", "abcdefghi", ""] : List Str).map V.str := e
        obtain ⟨s, hs, rfl⟩ := List.mem_map.mp e'
        exact ⟨s, rfl, (by decide +kernel : ∀ s ∈ ([" ", ".", "(", ")", ",", "a", "Z", "7", "in", "int", "instance", "E", "_", "abcdefghi", ""] : List Str), s.length ≤ 9) s hs⟩
      refine ⟨_, _, rfl, ?_⟩
      have tl : (S (txt b)).length ≤ 358 := by omega
      have hs1 : 358 + 9 + 358 ≤ sizeLine := by omega
      refine ⟨_, rfl, ?_⟩
      refine TxEs.arg (n := 780) (k := 6) ?_ (by decide) fun ss hss1 hss2 L5 hL5 => ?_
      · refine txs_cons (m := 358) (tx_to (s := S (txt b)) (r := r) (by rfl) tl (by omega) (by rfl)) (by decide) ?_
        refine txs_cons (m := 358 + 9 + 358) (tx_add (tx_add (tx_to (s := S (txt b)) (r := r) (by rfl) tl (by omega) (by rfl)) (tx_var (s := sg) (by rfl) hsg9) (by omega)) (tx_from (s := S (txt b)) (r := r) (by rfl) tl (by omega) (by rfl)) hs1) (by decide) ?_
        refine txs_cons (m := 358 + 9 + 358) (tx_add (tx_add (tx_to (s := S (txt b)) (r := r) (by rfl) tl (by omega) (by rfl)) (tx_var (s := sg) (by rfl) hsg9) (by omega)) (tx_from1 (s := S (txt b)) (r := r) (by rfl) tl (by omega) (by rfl)) hs1) (by decide) ?_
        refine txs_cons (m := 358 + 358) (tx_add (tx_to (s := S (txt b)) (r := r) (by rfl) tl (by omega) (by rfl)) (tx_from1 (s := S (txt b)) (r := r) (by rfl) tl (by omega) (by rfl)) (by omega)) (by decide) ?_
        refine txs_cons (m := 9 + 358) (tx_add (tx_var (s := sg) (by rfl) hsg9) (tx_var (s := S (txt b)) (by rfl) tl) (by omega)) (by decide) ?_
        exact txs_cons (m := 358 + 9) (tx_add (tx_var (s := S (txt b)) (by rfl) tl) (tx_var (s := sg) (by rfl) hsg9) (by omega)) (by decide) txs_nil
      refine ⟨st, q0, L5, _, _, rfl, S2.same (same_new hL5 _), by omega, upd_same, (fun z => by rw [List.map_eq_nil_iff] at z; rw [z] at hss1; cases hss1), (by rw [List.length_map, hss1]; decide), (fun z => S2.trk L5 (.inl z) hL5), (fun z => S2.trk L5 (.inr z) hL5), fun i3 be H3 hbe S3 k3 => ?_⟩
      have T3 := Tabs.kp (Tabs.same T2 (same_new hL5 _)) k3 (S2.same (same_new hL5 _)).lists
      obtain ⟨z, rfl, hz⟩ : ∃ z : List Nat, be = .str (S z) ∧ z.length ≤ 780 := by
        obtain ⟨s, hs, rfl⟩ := List.mem_map.mp (List.mem_of_getElem? hbe)
        exact ⟨s.cps.toList, by rw [S_tl], hss2 s hs⟩
      refine ⟨_, rfl, z, 0, 130, rfl, by omega, rfl, by omega, fun te k' b' p H4 ho e4 se => ⟨te, _, rfl, se, rfl, _, _, rfl, _, _, rfl, rfl, ?_⟩⟩
      refine ⟨_, rfl, .str (S z), .str (S z), [], rfl, .str _, (fun x hx => ⟨z, by cases hx; rfl, by omega, by omega, fun k2 b2 p2 v fp' H5 ho2 e5 n5 => ?_⟩), (fun z => absurd rfl z)⟩
      obtain ⟨rfl, rfl, rfl⟩ := ho.det ho2
      have S5 := S3.same (e4.trans e5)
      have T5 := Tabs.same T3 (e4.trans e5)
      have hzl : (S z).length = z.length := S_len _
      have fin : ∀ y7 H6, Same H5 H6 → S18t a st (S (txt b)) [some (.ref a), some (.ref st), x2, x3, some (.str (S (txt b))), x5, x6, y7, some (.int r), some (.str sg), some (.str (S z)), some (.int ((k2 : Nat) : Int)), some (.bl b2), some v, x14, x15, x16, x17] ∧ Strm H6 st q0 (c0 + 3 * (j + 1)) ∧ Tabs T H6 := fun y7 H6 e6 =>
        ⟨⟨_, _, _, _, _, _, _, _, _, _, _, _, _, _, _, rfl⟩, (S5.same e6).more (by omega), Tabs.same T5 e6⟩
      refine ⟨_, rfl, _, rfl, ?_⟩
      cases b2 with
      | true =>
        refine ite_t rfl (ite_t rfl ?_)
        refine ⟨_, rfl, _, rfl, (by show 2 ≤ sizeLine; decide), fun t8 ht8 => ?_⟩
        have n5' := n5.rep.same (same_new ht8 (.tup [V.str "sign", V.int (k2 : Nat)]))
        unfold resD at n5'
        rw [if_pos (.inl rfl)] at n5'
        exact ⟨v, .ref t8, _, _, _, 12, rfl, n5', .tup (SqT.of upd_same) (.cons (.str _) (.cons (.int _) .nil)), rfl, dep_sign _ _ _, fun H6 e6 => ⟨_, rfl, ite_f rfl (fin _ H6 ((same_new ht8 _).trans e6))⟩⟩
      | false =>
        refine ite_f rfl ⟨_, rfl, _, rfl, S z, rfl, by omega, _, _, rfl, rfl, _, rfl, ite_dec (fun hlt => ?_) (fun hge => ?_)⟩
        · refine ⟨_, rfl, _, rfl, (by show 2 ≤ sizeLine; decide), fun t8 ht8 => ?_⟩
          have n5' := n5.rep.same (same_new ht8 (.tup [V.str "sign", V.int (k2 : Nat)]))
          unfold resD at n5'
          rw [if_pos (.inr (by omega))] at n5'
          exact ⟨v, .ref t8, _, _, _, 12, rfl, n5', .tup (SqT.of upd_same) (.cons (.str _) (.cons (.int _) .nil)), rfl, dep_sign _ _ _, fun H6 e6 => ⟨_, rfl, ite_f rfl (fin _ H6 ((same_new ht8 _).trans e6))⟩⟩
        have hge' : ¬ k2 < z.length := by omega
        obtain ⟨hzt, hv2⟩ := read_whole ho hge'
        have n5' := n5.rep
        unfold resD at n5'
        rw [if_neg (fun h => by rcases h with h | h; exact nomatch h; exact hge' h)] at n5'
        obtain ⟨tt, vp, fpp, rfl, hsq, rp⟩ := book_rep n5'
        have hlp : (txt p2).length ≤ 780 := by rw [← hzt]; exact hz
        have hg2 := hv2.good (d := dOf p2) rfl
        refine ⟨_, rfl, tt, _, 0, _, rfl, rfl, hsq, rfl, rfl, _, rfl, ite_f (by decide) ?_⟩
        refine ⟨_, rfl, tt, _, 1, _, rfl, rfl, hsq, rfl, vp, dOf p2, fpp, rfl, rp, hg2.2, Nat.le_trans hv2.sz (by omega), (fun _ => ⟨p2, rfl, hv2.dep 130 (by omega), by omega, hv2.asc, fun H6 e6 => ⟨_, rfl, rfl, _, rfl, ?_⟩⟩), (fun h => absurd hg2.1 h)⟩
        rw [show (!decide (V.str (S (txt p2)) = V.str (S z))) = false by rw [hzt, decide_eq_true rfl]; rfl]
        exact ite_f rfl (fin _ H6 e6)
    · rintro σ' H' ⟨⟨x2, x3, x4, x5, x6, x7, x8, x9, x10, x11, x12, x13, x14, x15, x16, x17, rfl⟩, T0⟩
      refine asg_lit (K := K) (d := .lst oA) (lit_lst (lits_cons lit_non (lits_cons (lit_int 5) (lits_cons (lit_str "by") (lits_cons lit_emp (lits_cons (lit_3 "by" (lit_pr "m" "E") (lit_pr "m" "L")) (lits_cons (lit_4 "by" (lit_pr "m" "e") (lit_pr "m" "L") lit_l0) (lits_cons (lit_4 "by" (lit_pr "m" "E") (lit_pr "m" "l") lit_l0) lits_nil))))))) (by show 7 ≤ 1000; decide)) fun v f H2 e2 n2 => ?_
      obtain ⟨LA, xsA, rfl, hLA⟩ : ∃ A xs, v = .ref A ∧ H2 A = some (.lst xs) := by
        have r := n2.rep
        cases r with
        | lst h _ => exact ⟨_, _, rfl, h⟩
      refine ⟨_, rfl, .inl ⟨rfl, _, SqL.of hLA⟩, ?_⟩
      refine Lits.go (K := K) (ds := [.lst oB]) (lits_cons (lit_lst (lits_cons (lit_4 "by" (lit_pr "m" "E") (lit_pr "" "int") (lit_lst (lits_cons (lit_int 5) lits_nil) (by show 1 ≤ 1000; decide))) (lits_cons (lit_4 "buy" (lit_pr "m" "E") (lit_pr "m" "L") lit_l0) (lits_cons (lit_4 "by" (lit_pr "m" "E") (lit_pr "int" "") lit_l0) lits_nil))) (by show 3 ≤ 1000; decide)) lits_nil) fun vs f3 H3 e3 n3 => ?_
      obtain ⟨B, f4, rfl, n4⟩ : ∃ B f, vs = [.ref B] ∧ New K H2 H3 (.ref B) (.lst oB) f := by
        obtain ⟨r, fr, nd⟩ := n3
        cases r with
        | @cons v0 vs0 _ _ f g r t =>
        cases t
        cases r with
        | @lst B xs _ f1 h rs => exact ⟨B, _, rfl, .lst h rs, fun a ha => fr a (List.mem_append_left _ ha), (List.nodup_append.mp nd).1⟩
      obtain ⟨xs, zs, g1, g2, l1, l2, gA, hh, rAB⟩ := ext_new n2 e3 n4
      have l1' : xs.length = 7 := l1
      have l2' : zs.length = 3 := l2
      refine ⟨LA, B, xs, zs, rfl, rfl, g1, g2, by rw [l1', l2']; decide, ?_⟩
      have T3 : Tabs T (upd H3 LA (.lst (xs ++ zs))) := Tabs.kp (Tabs.same T0 (e2.trans e3)) (kp_at LA _) fun a ha _ => ⟨xs, ha ▸ g1⟩
      have hAB : (upd H3 LA (.lst (xs ++ zs))) LA = some (.lst (xs ++ zs)) := upd_same
      generalize upd H3 LA (.lst (xs ++ zs)) = HU at rAB T3 hAB ⊢
      refine ⟨fun σ' H' => S18 a st σ' ∧ Tabs T H', ?_, ?_⟩
      · refine ⟨_, rfl, ?_⟩
        refine Lit.go (K := K) (d := .lst oC) (lit_lst (lits_cons (lit_4 "by" (lit_str "mE") (lit_pr "m" "L") lit_l0) (lits_cons (lit_4 "by" (lit_pr "m" "E") (lit_pr "m" "L") lit_emp) lits_nil)) (by show 2 ≤ 1000; decide)) fun v f5 H5 e5 n5 => ?_
        obtain ⟨C5, cs, rfl, hC5, rC5⟩ : ∃ A xs, v = .ref A ∧ H5 A = some (.lst xs) ∧ ∃ f, Reps K H5 xs oC f := by
          have r := n5.rep
          cases r with
          | lst h rs => exact ⟨_, _, rfl, h, _, rs⟩
        obtain ⟨f6, rC5⟩ := rC5
        have lcs : cs.length = 2 := rC5.len
        refine ⟨LA, C5, xs ++ zs, cs, rfl, rfl, e5 _ _ hAB, hC5, by rw [List.length_append, l1', l2', lcs]; decide, fun PL hPL => ⟨PL, rfl, ⟨_, SqL.of upd_same⟩, ?_⟩⟩
        have e6 := same_new hPL (.lst (xs ++ zs ++ cs))
        have rP : Reps K (upd H5 PL (.lst (xs ++ zs ++ cs))) (xs ++ zs ++ cs) ((oA ++ oB) ++ oC) (hh ++ f6) := (rAB.same (e5.trans e6)).app (rC5.same e6)
        have hP : (upd H5 PL (.lst (xs ++ zs ++ cs))) PL = some (.lst (xs ++ zs ++ cs)) := upd_same
        have T6 := Tabs.same T3 (e5.trans e6)
        generalize upd H5 PL (.lst (xs ++ zs ++ cs)) = HV at rP hP T6 ⊢
        generalize xs ++ zs ++ cs = XS at rP hP
        refine for_it walk_list (fun i σ' H' => S18 a st σ' ∧ Tabs T H' ∧ H' PL = some (.lst XS) ∧ Reps K H' XS ((oA ++ oB) ++ oC) (hh ++ f6)) ⟨⟨_, _, _, _, _, _, _, _, _, _, _, _, _, _, _, _, rfl⟩, T6, hP, rP⟩ (fun i σ' H' _ pv => SqL.of pv.2.2.1) (fun i x σ' H' H'' hi pv y => ?_) (fun σ' H' pv => ⟨pv.1, pv.2.1⟩)
        obtain ⟨rfl, hx⟩ := y
        obtain ⟨⟨x2, x3, x4, x5, x6, x7, x8, x9, x10, x11, x12, x13, x14, x15, x16, x17, rfl⟩, Tv, hPv, rPv⟩ := pv
        obtain ⟨d, fd, _, hd, rx, _⟩ := rPv.at hx
        obtain ⟨o1, o2, o3, o4⟩ := odds_ok d hd
        refine ⟨Tv, fun H1 eN T1 => ⟨_, rfl, x, d, fd, rfl, rx.extN eN, askN_ok 3 o2, o3, (fun hg => by rw [goodN_ok 3 hg] at o1; cases o1), fun _ dx H2 hdx e2 hx2 => .inl ⟨rfl, dx, _, rfl, hx2, fun t ht => ?_⟩⟩⟩
        refine ⟨_, rfl, (by show 2 ≤ sizeLine; decide), fun t2 ht2 => ?_⟩
        have y1 := same_new ht (.tup [V.str "book", x])
        have y2 := same_new ht2 (.tup [V.str "book", x])
        have rx2 := (rx.extN eN).same (e2.trans (y1.trans y2))
        refine ⟨.ref t, .ref t2, .tup [.str "book", d], _, _, 12, rfl, .tup (SqT.of (y2 _ _ upd_same)) (.cons (.str _) (Reps.one rx2)), .tup (SqT.of upd_same) (.cons (.str _) (Reps.one rx2)), rfl, (dep_pair (depN_ok 6 o4)).mono (by decide), fun H6 e6 => ⟨_, rfl, ite_f rfl ?_⟩⟩
        have ee := e2.trans (y1.trans (y2.trans e6))
        exact ⟨⟨_, _, _, _, _, _, _, _, _, _, _, _, _, _, _, _, rfl⟩, Tabs.same T1 ee, ee _ _ (eN _ _ hPv (fun ps z => nomatch z)), (rPv.extN eN).same ee⟩
      clear rAB hAB T3
      rintro σ' H' ⟨⟨x2, x3, x4, x5, x6, x7, x8, x9, x10, x11, x12, x13, x14, x15, x16, x17, rfl⟩, T0⟩
      refine ⟨fun σ' H' => S18 a st σ' ∧ Tabs T H', ?_, ?_⟩
      · refine Lit.go (K := K) (d := .tup oD) (lit_tup (lits_cons lit_non (lits_cons (lit_int 5) (lits_cons lit_l0 (lits_cons (lit_lst (lits_cons (lit_str "m.E int") lits_nil) (by show 1 ≤ 1000; decide)) (lits_cons (lit_bl true) (lits_cons lit_emp lits_nil)))))) (by show 6 ≤ 1000; decide)) fun v f5 H5 e5 n5 => ?_
        obtain ⟨PL, XS, rfl, hP, f6, rP⟩ : ∃ A xs, v = .ref A ∧ SqT K H5 A xs ∧ ∃ f, Reps K H5 xs oD f := by
          have r := n5.rep
          cases r with
          | tup h rs => exact ⟨_, _, rfl, h, _, rs⟩
        have T6 := Tabs.same T0 e5
        refine ⟨PL, rfl, ⟨_, hP⟩, ?_⟩
        refine for_it walk_tup (fun i σ' H' => S18 a st σ' ∧ Tabs T H' ∧ SqT K H' PL XS ∧ Reps K H' XS oD f6) ⟨⟨_, _, _, _, _, _, _, _, _, _, _, _, _, _, _, _, rfl⟩, T6, hP, rP⟩ (fun i σ' H' _ pv => pv.2.2.1) (fun i x σ' H' H'' hi pv y => ?_) (fun σ' H' pv => ⟨pv.1, pv.2.1⟩)
        obtain ⟨rfl, hx⟩ := y
        obtain ⟨⟨x2, x3, x4, x5, x6, x7, x8, x9, x10, x11, x12, x13, x14, x15, x16, x17, rfl⟩, Tv, hPv, rPv⟩ := pv
        obtain ⟨d, fd, _, hd, rx, _⟩ := rPv.at hx
        obtain ⟨o1, o4⟩ := oddt_ok d hd
        refine ⟨Tv, fun H1 eN T1 => ⟨_, rfl, x, d, fd, rfl, rx.extN eN, (fun y hy => by subst hy; exact nomatch o1), fun _ dx H2 hdx e2 hx2 => .inr ⟨rfl, dx, _, rfl, hx2, fun t ht => ?_⟩⟩⟩
        refine ⟨_, rfl, (by show 2 ≤ sizeLine; decide), fun t2 ht2 => ?_⟩
        have y1 := same_new ht (.tup [V.str "text", x])
        have y2 := same_new ht2 (.tup [V.str "text", x])
        have rx2 := (rx.extN eN).same (e2.trans (y1.trans y2))
        refine ⟨.ref t, .ref t2, .tup [.str "text", d], _, _, 12, rfl, .tup (SqT.of (y2 _ _ upd_same)) (.cons (.str _) (Reps.one rx2)), .tup (SqT.of upd_same) (.cons (.str _) (Reps.one rx2)), rfl, (dep_pair (depN_ok 6 o4)).mono (by decide), fun H6 e6 => ⟨_, rfl, ite_f rfl ?_⟩⟩
        have ee := e2.trans (y1.trans (y2.trans e6))
        exact ⟨⟨_, _, _, _, _, _, _, _, _, _, _, _, _, _, _, _, rfl⟩, Tabs.same T1 ee, Same.sqT ee (sqT_kp (ExtN.kp eN) nt_tbl hPv), (rPv.extN eN).same ee⟩
      rintro σ' H' ⟨⟨x2, x3, x4, x5, x6, x7, x8, x9, x10, x11, x12, x13, x14, x15, x16, x17, rfl⟩, T0⟩
      refine ⟨"book", fW, rfl, .inl ⟨rfl, rfl⟩, T0, fun H1 eN1 T1 => ⟨_, rfl, ite_f rfl ?_⟩⟩
      refine ⟨"text", fR, rfl, .inr ⟨rfl, rfl⟩, T1, fun H2 eN2 T2 => ⟨_, rfl, ite_f rfl ?_⟩⟩
      refine asg_lit (K := K) (d := .lst dF1) lit_F1 fun v f H3 e3 n3 => ?_
      obtain ⟨LA, xsA, rfl, hLA⟩ : ∃ A xs, v = .ref A ∧ H3 A = some (.lst xs) := by
        have r := n3.rep
        cases r with
        | lst h _ => exact ⟨_, _, rfl, h⟩
      refine ⟨_, rfl, .inl ⟨rfl, _, SqL.of hLA⟩, ?_⟩
      refine Lits.go (K := K) (ds := [.lst dF2]) (lits_cons lit_F2 lits_nil) fun vs f4 H4 e4 n4 => ?_
      obtain ⟨B, f5, rfl, n5⟩ : ∃ B f, vs = [.ref B] ∧ New K H3 H4 (.ref B) (.lst dF2) f := by
        obtain ⟨r, fr, nd⟩ := n4
        cases r with
        | @cons v0 vs0 _ _ f g r t =>
        cases t
        cases r with
        | @lst B xs _ f1 h rs => exact ⟨B, _, rfl, .lst h rs, fun a ha => fr a (List.mem_append_left _ ha), (List.nodup_append.mp nd).1⟩
      obtain ⟨xs, zs, g1, g2, l1, l2, gA, hh, rAB⟩ := ext_new n3 e4 n5
      have l1' : xs.length = 6 := l1
      have l2' : zs.length = 2 := l2
      refine ⟨LA, B, xs, zs, rfl, rfl, g1, g2, by rw [l1', l2']; decide, ?_⟩
      have hAB : (upd H4 LA (.lst (xs ++ zs))) LA = some (.lst (xs ++ zs)) := upd_same
      generalize upd H4 LA (.lst (xs ++ zs)) = HU at rAB hAB ⊢
      refine asg_lit (K := K) (d := .lst (dF1 ++ dF2)) (lit_lst (lits_cons (lit_sg 0) (lits_cons (lit_bk (lit_4 "by" (lit_pr "m" "E") (lit_pr "" "int") lit_l0)) (lits_cons (lit_sg 4) (lits_cons (lit_sg 15) (lits_cons (lit_sg 3) (lits_cons (lit_sg 6) (lits_cons (lit_sg 7) (lits_cons (lit_sg 11) lits_nil)))))))) (by show 8 ≤ 1000; decide)) fun v f H5 e5 n6 => ?_
      exact ⟨_, rfl, _, rfl, .ref LA, v, .lst (dF1 ++ dF2), _, _, 12, rfl, .lst (e5 _ _ hAB) (rAB.same e5), n6.rep, rfl, dF_dep, fun H6 e6 => q H6⟩
end
end K54
set_option Elab.async false
set_option linter.all false
set_option maxRecDepth 100000
set_option maxHeartbeats 4000000
/-! K23: from what stands at the top to the law's promise. -/
namespace K54
open PySem PySem.Spec PyProof.Rows L2 C8 RZ LiI SX LamX
/-- a def of the top -/
def FD (K : PySem.W.Frag) (x : Str) (st : Stmt) : Prop := ∃ (f : Addr) (oc : Value) (od : Option Addr) (kV dc pm : Value) (an : Option Addr) (cd ct : Value) (sl : Array (Option Value)), PySem.W.nsIn K mainGlobals x = some (some (.ref f)) ∧
  K.lookup f = some ⟨oc, od, .func (PySem.W.fnOf x x (fnArgs st) (fnBody st) (fnScope st) .none kV dc pm an cd ct), sl⟩ ∧ PySem.W.codeIn K cd x = true ∧ PySem.W.keepIn K (.ref f) = true
/-- .. with its code object -/
def FT (K : PySem.W.Frag) (x : Str) (st : Stmt) (c : Addr) : Prop := ∃ (f : Addr) (oc : Value) (od : Option Addr) (kV dc pm : Value) (an : Option Addr) (ct : Value) (sl : Array (Option Value)), PySem.W.nsIn K mainGlobals x = some (some (.ref f)) ∧
  K.lookup f = some ⟨oc, od, .func (PySem.W.fnOf x x (fnArgs st) (fnBody st) (fnScope st) .none kV dc pm an (.ref c) ct), sl⟩ ∧ PySem.W.codeIn K (.ref c) x = true ∧ PySem.W.keepIn K (.ref f) = true
/-- a def within the class at C -/
def FM (K : PySem.W.Frag) (C : Addr) (m q : Str) (st : Stmt) : Prop := ∃ (f : Addr) (oc : Value) (od : Option Addr) (kV dc pm : Value) (an : Option Addr) (cd ct : Value) (sl : Array (Option Value)), PySem.W.findIn K (.ref C) m = some (some (.ref f)) ∧
  K.lookup f = some ⟨oc, od, .func (PySem.W.fnOf m q (fnArgs st) (fnBody st) (fnScope st) .none kV dc pm an cd ct), sl⟩ ∧ PySem.W.codeIn K cd q = true ∧ PySem.W.keepIn K (.ref f) = true ∧ PySem.W.isFn K (.ref f) = true ∧ PySem.W.typeIn K (.ref f) = some (.type "function")
/-- an own error at C -/
structure FE (K : PySem.W.Frag) (x : Str) (a : Str) (C kk : Addr) : Prop where
  gl : PySem.W.nsIn K mainGlobals x = some (some (.ref C))
  cl : ∃ (nm q : Str) (N : Addr) (bs : List Value) (sn : List Str) (sub : List Value) (ab : Bool) (col : Option Bool) (dd : Option Addr) (m0 m1 m2 m3 m5 : Option Value), K.lookup C = some (excClassObj nm q C N bs [.ref kk, .type "ValueError", .type "Exception", .type "BaseException", .type "object"] true sn sub ab col dd m0 m1 m2 m3 m5 "ValueError.__new__")
  sa : PySem.W.findIn K (.ref C) "__setattr__" = some (some (.builtin "object.__setattr__"))
  ga : PySem.W.findIn K (.ref C) "__getattribute__" = some (some (.builtin "BaseException.__getattribute__"))
  gg : PySem.W.findIn K (.ref C) "__getattr__" = some none
  na : PySem.W.findIn K (.ref C) a = some none
  kC : PySem.W.keepIn K (.ref C) = true
  eC : PySem.W.subIn K (.ref C) (.type "BaseException") = some true
  tC : PySem.W.typeIn K (.ref C) = some (.type "type")
  hC : PySem.W.hasDictIn K C = true
  iC : PySem.W.isClsIn K C = true
theorem exm_by {K : PySem.W.Frag} {S c : Addr} {b : Bool} (h1 : PySem.W.subIn K (.ref S) (.type "BaseException") = some true) (h2 : PySem.W.isClsIn K S = true) (h3 : PySem.W.typeIn K (.ref S) = some (.type "type")) (h4 : PySem.W.subIn K (.ref c) (.ref S) = some b) :
    PySem.W.exmOne K (.ref c) (.ref S) = some b := by
  have a1 : (PySem.W.subIn K (.ref S) (.type "BaseException") == some true) = true := by rw [h1] <;> rfl
  have a2 : ((PySem.W.clsIn K S).isSome && PySem.W.typeIn K (.ref S) == some (.type "type")) = true := by
    rw [show (PySem.W.clsIn K S).isSome = true from h2, h3] <;> rfl
  refine (if_pos a1).trans ?_
  exact (if_pos a2).trans h4
section
variable {P : Program} {w : World} {K : PySem.W.Frag} {h : Heap} {mg : Str → Option Value}
theorem FD.db {x : Str} {st : Stmt} {ps : List Str} (F : FD K x st) (X : K.In h) (G : h.Ns mainGlobals mg) (hb : ∀ (kV doc pm : Value) (an : Option Addr) (cdv ct : Value) (us : List Value), us.length = ps.length → bindArgs (PySem.W.fnOf x x (fnArgs st) (fnBody st) (fnScope st) .none kV doc pm an cdv ct) ⟨us, []⟩ = pure (ps.zip us))
    (hk : ∀ (n : Str), ps = [n] → ∀ (kV doc pm : Value) (an : Option Addr) (cdv ct u : Value), bindArgs (PySem.W.fnOf x x (fnArgs st) (fnBody st) (fnScope st) .none kV doc pm an cdv ct) ⟨[], [(n, u)]⟩ = pure [(n, u)]) : DefB K mg x st ps := by
  obtain ⟨f, oc, od, kV, dc, pm, an, cd, ct, sl, a, l, c, k⟩ := F
  have m := PySem.W.mg_of X G a
  refine ⟨⟨f, _, ⟨⟨_, _, _, _, _, _, _, _, _, _, rfl, l, c⟩, m, k⟩, .all (hb kV dc pm an cd ct)⟩, fun f2 fd2 D2 n e s u _ => ?_⟩
  have ef : f2 = f := by
    have z := D2.mgf.symm.trans m
    cases z
    rfl
  subst ef
  obtain ⟨oc2, od2, dV2, kV2, doc2, pm2, an2, cdv2, ct2, osl2, rfl, l2, _⟩ := D2.fn.ex
  rw [l] at l2
  cases l2
  exact .of_eq (hk n e _ _ _ _ _ _ u)
theorem FT.dc {x : Str} {st : Stmt} {ps : List Str} {c : Addr} (F : FT K x st c) (X : K.In h) (G : h.Ns mainGlobals mg) (hb : ∀ (kV doc pm : Value) (an : Option Addr) (cdv ct : Value) (us : List Value), us.length = ps.length → bindArgs (PySem.W.fnOf x x (fnArgs st) (fnBody st) (fnScope st) .none kV doc pm an cdv ct) ⟨us, []⟩ = pure (ps.zip us)) : DefC K mg x st ps c := by
  obtain ⟨f, oc, od, kV, dc, pm, an, ct, sl, a, l, c, k⟩ := F
  exact ⟨f, oc, od, .none, kV, dc, pm, an, ct, sl, l, c, PySem.W.mg_of X G a, k, .all (hb kV dc pm an (.ref _) ct)⟩
theorem FM.md {C : Addr} {m q : Str} {st : Stmt} {ps : List Str} (F : FM K C m q st) (hc : Cls K C) (hb : ∀ (kV doc pm : Value) (an : Option Addr) (cdv ct : Value) (us : List Value), us.length = ps.length → bindArgs (PySem.W.fnOf m q (fnArgs st) (fnBody st) (fnScope st) .none kV doc pm an cdv ct) ⟨us, []⟩ = pure (ps.zip us)) : MetD K C m q st ps := by
  obtain ⟨f, oc, od, kV, dc, pm, an, cd, ct, sl, a, l, c, k, i, _⟩ := F
  exact ⟨f, _, hc, ⟨a, i, k⟩, ⟨_, _, _, _, _, _, _, _, _, _, rfl, l, c⟩, .all (hb kV dc pm an cd ct)⟩
theorem FE.ox {x a : Str} {C kk : Addr} (F : FE K x a C kk) : OexC K C := by
  obtain ⟨nm, q, N, bs, sn, sub, ab, col, dd, m0, m1, m2, m3, m5, l⟩ := F.cl
  exact ⟨⟨nm, q, N, bs, _, sn, sub, ab, col, dd, m0, m1, m2, m3, m5, l, by rfl⟩, F.sa, F.eC, F.tC, F.kC⟩
theorem FE.xf {x a : Str} {C kk : Addr} (F : FE K x a C kk) : XfC K C := ⟨F.ga, F.gg, F.eC, F.hC⟩
theorem fd_mk {K : PySem.W.Frag} {x : Str} {st : Stmt} {f : Addr} {oc : Value} {od : Option Addr} {kV dc pm : Value} {an : Option Addr} {cd ct : Value} {sl : Array (Option Value)} (a : PySem.W.nsIn K mainGlobals x = some (some (.ref f))) (l : K.lookup f = some ⟨oc, od, .func (PySem.W.fnOf x x (fnArgs st) (fnBody st) (fnScope st) .none kV dc pm an cd ct), sl⟩) (c : PySem.W.codeIn K cd x = true) (k : PySem.W.keepIn K (.ref f) = true) : FD K x st := ⟨f, oc, od, kV, dc, pm, an, cd, ct, sl, a, l, c, k⟩
theorem ft_mk {K : PySem.W.Frag} {x : Str} {st : Stmt} {cc f : Addr} {oc : Value} {od : Option Addr} {kV dc pm : Value} {an : Option Addr} {ct : Value} {sl : Array (Option Value)} (a : PySem.W.nsIn K mainGlobals x = some (some (.ref f))) (l : K.lookup f = some ⟨oc, od, .func (PySem.W.fnOf x x (fnArgs st) (fnBody st) (fnScope st) .none kV dc pm an (.ref cc) ct), sl⟩) (c : PySem.W.codeIn K (.ref cc) x = true) (k : PySem.W.keepIn K (.ref f) = true) : FT K x st cc := ⟨f, oc, od, kV, dc, pm, an, ct, sl, a, l, c, k⟩
theorem fm_mk {K : PySem.W.Frag} {C : Addr} {m q : Str} {st : Stmt} {f : Addr} {oc : Value} {od : Option Addr} {kV dc pm : Value} {an : Option Addr} {cd ct : Value} {sl : Array (Option Value)} (a : PySem.W.findIn K (.ref C) m = some (some (.ref f))) (l : K.lookup f = some ⟨oc, od, .func (PySem.W.fnOf m q (fnArgs st) (fnBody st) (fnScope st) .none kV dc pm an cd ct), sl⟩) (c : PySem.W.codeIn K cd q = true) (k : PySem.W.keepIn K (.ref f) = true)
    (i : PySem.W.isFn K (.ref f) = true) (t : PySem.W.typeIn K (.ref f) = some (.type "function")) : FM K C m q st := ⟨f, oc, od, kV, dc, pm, an, cd, ct, sl, a, l, c, k, i, t⟩
theorem fe_mk {K : PySem.W.Frag} {x a : Str} {C kk : Addr} {nm q : Str} {N : Addr} {bs : List Value} {sn : List Str} {sub : List Value} {ab : Bool} {col : Option Bool} {dd : Option Addr} {m0 m1 m2 m3 m5 : Option Value} (gl : PySem.W.nsIn K mainGlobals x = some (some (.ref C)))
    (cl : K.lookup C = some (excClassObj nm q C N bs [.ref kk, .type "ValueError", .type "Exception", .type "BaseException", .type "object"] true sn sub ab col dd m0 m1 m2 m3 m5 "ValueError.__new__")) (sa : PySem.W.findIn K (.ref C) "__setattr__" = some (some (.builtin "object.__setattr__")))
    (ga : PySem.W.findIn K (.ref C) "__getattribute__" = some (some (.builtin "BaseException.__getattribute__"))) (gg : PySem.W.findIn K (.ref C) "__getattr__" = some none) (na : PySem.W.findIn K (.ref C) a = some none) (kC : PySem.W.keepIn K (.ref C) = true) (eC : PySem.W.subIn K (.ref C) (.type "BaseException") = some true) (tC : PySem.W.typeIn K (.ref C) = some (.type "type")) (hC : PySem.W.hasDictIn K C = true)
    (iC : PySem.W.isClsIn K C = true) : FE K x a C kk := ⟨gl, ⟨nm, q, N, bs, sn, sub, ab, col, dd, m0, m1, m2, m3, m5, cl⟩, sa, ga, gg, na, kC, eC, tC, hC, iC⟩
/-- what stands at the top -/
structure Facts (K : PySem.W.Frag) (cl Pl cv Pv : Addr) : Prop where
  tl : PySem.W.codeHdIn K cl Pl = true
  tv : PySem.W.codeHdIn K cv Pv = true
  nl : K.lookup Pl = none
  nv : K.lookup Pv = none
  law : FT K "law" s_law cl
  very : FT K "_law_is_very" s_is_very cv
  d_is_list : FD K "is_list" s_is_list
  d_is_row : FD K "is_row" s_is_row
  d_is_sign_row : FD K "is_sign_row" s_is_sign_row
  d_is_small : FD K "is_small" s_is_small
  d_is_great : FD K "is_great" s_is_great
  d_is_great_name : FD K "is_great_name" s_is_great_name
  d_is_int_name : FD K "is_int_name" s_is_int_name
  d_is_book_shape : FD K "is_book_shape" s_is_book_shape
  d_need_text : FD K "need_text" s_need_text
  d_text_of : FD K "text_of" s_text_of
  d_written_book : FD K "written_book" s_written_book
  d_read_book : FD K "read_book" s_read_book
  dl_stream : FD K "_law_stream" s_stream
  dl_draw : FD K "_law_draw" s_draw
  dl_pick : FD K "_law_pick" s_pick
  dl_same : FD K "_law_same" s_same
  dl_spoilt : FD K "_law_spoilt" s_spoilt
  dl_copied : FD K "_law_copied" s_copied
  dl_loose : FD K "_law_loose" s_loose
  dl_twice : FD K "_law_twice" s_twice
  dl_met : FD K "_law_met" s_met
  dl_o_book : FD K "_law_o_book" s_o_book
  dl_o_signs : FD K "_law_o_signs" s_o_signs
  dl_o_word : FD K "_law_o_word" s_o_word
  dl_o_name : FD K "_law_o_name" s_o_name
  dl_o_end : FD K "_law_o_end" s_o_end
  b_isinstance : PySem.W.nsIn K mainGlobals "isinstance" = some none
  b_list : PySem.W.nsIn K mainGlobals "list" = some none
  b_tuple : PySem.W.nsIn K mainGlobals "tuple" = some none
  b_dict : PySem.W.nsIn K mainGlobals "dict" = some none
  b_len : PySem.W.nsIn K mainGlobals "len" = some none
  b_type : PySem.W.nsIn K mainGlobals "type" = some none
  b_str : PySem.W.nsIn K mainGlobals "str" = some none
  b_all : PySem.W.nsIn K mainGlobals "all" = some none
  b_zip : PySem.W.nsIn K mainGlobals "zip" = some none
  b_abs : PySem.W.nsIn K mainGlobals "abs" = some none
  b_int : PySem.W.nsIn K mainGlobals "int" = some none
  b_bool : PySem.W.nsIn K mainGlobals "bool" = some none
  b_range : PySem.W.nsIn K mainGlobals "range" = some none
  b_min : PySem.W.nsIn K mainGlobals "min" = some none
  exc : ∃ CB CT kk fB fT : Addr, FE K "BadBook" "book" CB kk ∧ FE K "BadText" "text" CT kk ∧ FM K CB "__init__" "BadBook.__init__" s_eBook ∧ FM K CT "__init__" "BadText.__init__" s_eText ∧ PySem.W.subIn K (.ref CB) (.ref CB) = some true ∧ PySem.W.subIn K (.ref CT) (.ref CB) = some false ∧ PySem.W.subIn K (.ref CT) (.ref CT) = some true ∧ fB = fB ∧ fT = fT
  rdr : ∃ C : Addr, PySem.W.nsIn K mainGlobals "BookReader" = some (some (.ref C)) ∧ PySem.W.plainGet K C Str.empty = true ∧ PySem.W.hasDictIn K C = true ∧ PySem.W.plainOver K C = true ∧ PySem.W.findIn K (.ref C) "__setattr__" = some (some (.builtin "object.__setattr__")) ∧ PySem.W.makesIn K C = true ∧ PySem.W.keepIn K (.ref C) = true ∧
    PySem.W.findIn K (.ref C) "line" = some none ∧ PySem.W.findIn K (.ref C) "at" = some none ∧ PySem.W.findIn K (.ref C) "is_stuck" = some none ∧ FM K C "__init__" "BookReader.__init__" s_rinit ∧ FM K C "sign" "BookReader.sign" s_BookReader_sign ∧ FM K C "need" "BookReader.need" s_BookReader_need ∧ FM K C "read_word" "BookReader.read_word" s_BookReader_read_word ∧ FM K C "read_name" "BookReader.read_name" s_BookReader_read_name ∧ FM K C "head" "BookReader.head" s_BookReader_head ∧ FM K C "read_one" "BookReader.read_one" s_BookReader_read_one
  wrd : ∃ (aW : Addr) (oc : Option Addr) (n : Nat) (sl : Array (Option Value)) (t0 t1 t2 t3 t4 t5 t6 t7 t8 t9 t10 t11 t12 t13 t14 t15 t16 : Tok), PySem.W.nsIn K mainGlobals "WORDS" = some (some (.ref aW)) ∧ K.lookup aW = some ⟨.type "tuple", oc, .seq #[.str "module" t0, .str "use" t1, .str "data" t2, .str "class" t3, .str "under" t4, .str "instance" t5, .str "with" t6, .str "fun" t7, .str "let" t8, .str "in" t9, .str "case" t10, .str "of" t11, .str "if" t12, .str "then" t13, .str "else" t14, .str "print" t15, .str "int" t16] n, sl⟩
  inm : ∃ (aN : Addr) (oc : Option Addr) (n : Nat) (sl : Array (Option Value)) (t0 t1 : Tok), PySem.W.nsIn K mainGlobals "INT_NAME" = some (some (.ref aN)) ∧ K.lookup aN = some ⟨.type "tuple", oc, .seq #[.str "" t0, .str "int" t1] n, sl⟩
  let_ : ∃ t, PySem.W.nsIn K mainGlobals "LETTERS" = some (some (.str LET t))
  gre_ : ∃ t, PySem.W.nsIn K mainGlobals "GREATS" = some (some (.str GRE t))
  fig_ : ∃ t, PySem.W.nsIn K mainGlobals "FIGURES" = some (some (.str FIG t))
theorem exc_mk {K : PySem.W.Frag} {CB CT kk : Addr} (eB : FE K "BadBook" "book" CB kk) (eT : FE K "BadText" "text" CT kk) (mB : FM K CB "__init__" "BadBook.__init__" s_eBook) (mT : FM K CT "__init__" "BadText.__init__" s_eText) (s1 : PySem.W.subIn K (.ref CB) (.ref CB) = some true) (s2 : PySem.W.subIn K (.ref CT) (.ref CB) = some false) (s3 : PySem.W.subIn K (.ref CT) (.ref CT) = some true) :
    ∃ CB CT kk fB fT : Addr, FE K "BadBook" "book" CB kk ∧ FE K "BadText" "text" CT kk ∧ FM K CB "__init__" "BadBook.__init__" s_eBook ∧ FM K CT "__init__" "BadText.__init__" s_eText ∧ PySem.W.subIn K (.ref CB) (.ref CB) = some true ∧ PySem.W.subIn K (.ref CT) (.ref CB) = some false ∧ PySem.W.subIn K (.ref CT) (.ref CT) = some true ∧ fB = fB ∧ fT = fT := ⟨CB, CT, kk, 0, 0, eB, eT, mB, mT, s1, s2, s3, rfl, rfl⟩
theorem ex1 {A : Type} {p : A → Prop} {a : A} (h : p a) : ∃ a, p a := ⟨a, h⟩
theorem wrd_mk {K : PySem.W.Frag} {aW : Addr} {oc : Option Addr} {n : Nat} {sl : Array (Option Value)} {t0 t1 t2 t3 t4 t5 t6 t7 t8 t9 t10 t11 t12 t13 t14 t15 t16 : Tok} (h1 : PySem.W.nsIn K mainGlobals "WORDS" = some (some (.ref aW))) (h2 : K.lookup aW = some ⟨.type "tuple", oc, .seq #[.str "module" t0, .str "use" t1, .str "data" t2, .str "class" t3, .str "under" t4, .str "instance" t5, .str "with" t6, .str "fun" t7, .str "let" t8, .str "in" t9, .str "case" t10, .str "of" t11, .str "if" t12, .str "then" t13, .str "else" t14, .str "print" t15, .str "int" t16] n, sl⟩) : ∃ (aW : Addr) (oc : Option Addr) (n : Nat) (sl : Array (Option Value)) (t0 t1 t2 t3 t4 t5 t6 t7 t8 t9 t10 t11 t12 t13 t14 t15 t16 : Tok), PySem.W.nsIn K mainGlobals "WORDS" = some (some (.ref aW)) ∧ K.lookup aW = some ⟨.type "tuple", oc, .seq #[.str "module" t0, .str "use" t1, .str "data" t2, .str "class" t3, .str "under" t4, .str "instance" t5, .str "with" t6, .str "fun" t7, .str "let" t8, .str "in" t9, .str "case" t10, .str "of" t11, .str "if" t12, .str "then" t13, .str "else" t14, .str "print" t15, .str "int" t16] n, sl⟩ := ⟨aW, oc, n, sl, t0, t1, t2, t3, t4, t5, t6, t7, t8, t9, t10, t11, t12, t13, t14, t15, t16, h1, h2⟩
theorem inm_mk {K : PySem.W.Frag} {aN : Addr} {oc : Option Addr} {n : Nat} {sl : Array (Option Value)} {t0 t1 : Tok} (h1 : PySem.W.nsIn K mainGlobals "INT_NAME" = some (some (.ref aN))) (h2 : K.lookup aN = some ⟨.type "tuple", oc, .seq #[.str "" t0, .str "int" t1] n, sl⟩) : ∃ (aN : Addr) (oc : Option Addr) (n : Nat) (sl : Array (Option Value)) (t0 t1 : Tok), PySem.W.nsIn K mainGlobals "INT_NAME" = some (some (.ref aN)) ∧ K.lookup aN = some ⟨.type "tuple", oc, .seq #[.str "" t0, .str "int" t1] n, sl⟩ := ⟨aN, oc, n, sl, t0, t1, h1, h2⟩
theorem law_at {l : PySem.W.OpenLaw} {cl Pl cv Pv fa : Addr} (F : Facts K cl Pl cv Pv) (X : K.In h) (G : h.Ns mainGlobals mg) (hfa : mg "law" = some (.ref fa)) (hne : Pv ≠ Pl) (hl : h.get? Pl = some { cls := .none, data := .fields #[] }) (hv : h.get? Pv = some { cls := .none, data := .fields #[] }) :
    LawAtS l w K C8.CX0 141 63 "script" mg fa h := by
  obtain ⟨fL, oc, od, kV, dc, pm, an, ct, sl, aL, lL, cL, kL⟩ := F.law
  have e := hfa.symm.trans (PySem.W.mg_of X G aL)
  cases e
  obtain ⟨CB, CT, kk, fB, fT, EB, ET, MB, MT, s1, s2, s3, _, _⟩ := F.exc
  obtain ⟨C, gC, p1, p2, p3, p4, p5, p6, n1, n2, n3, M0, M1, M2, M3, M4, M5, M6⟩ := F.rdr
  obtain ⟨aW, ocW, nW, slW, t0, t1, t2, t3, t4, t5, t6, t7, t8, t9, t10, t11, t12, t13, t14, t15, t16, gW, lW⟩ := F.wrd
  obtain ⟨aN, ocN, nN, slN, u0, u1, gN, lN⟩ := F.inm
  obtain ⟨tL, gL⟩ := F.let_
  obtain ⟨tG, gG⟩ := F.gre_
  obtain ⟨tF, gF⟩ := F.fig_
  have B : Bt mg := ⟨PySem.W.mg_none_of X G F.b_isinstance, PySem.W.mg_none_of X G F.b_list, PySem.W.mg_none_of X G F.b_tuple, PySem.W.mg_none_of X G F.b_dict, PySem.W.mg_none_of X G F.b_len, PySem.W.mg_none_of X G F.b_type, PySem.W.mg_none_of X G F.b_str, PySem.W.mg_none_of X G F.b_all, PySem.W.mg_none_of X G F.b_zip, PySem.W.mg_none_of X G F.b_abs, PySem.W.mg_none_of X G F.b_int, PySem.W.mg_none_of X G F.b_bool, PySem.W.mg_none_of X G F.b_range, PySem.W.mg_none_of X G F.b_min⟩
  have TX : Tx K mg aW aN := ⟨⟨_, PySem.W.mg_of X G gW, rfl⟩, ⟨_, PySem.W.mg_of X G gN, rfl⟩, ⟨_, PySem.W.mg_of X G gL, ⟨_, rfl⟩⟩, ⟨_, PySem.W.mg_of X G gG, ⟨_, rfl⟩⟩, ⟨_, PySem.W.mg_of X G gF, ⟨_, rfl⟩⟩,
    fun H => .inr ⟨_, _, _, lW, rfl, rfl, (by show 17 ≤ sizeLine; decide), (.cons ⟨_, rfl⟩ (.cons ⟨_, rfl⟩ (.cons ⟨_, rfl⟩ (.cons ⟨_, rfl⟩ (.cons ⟨_, rfl⟩ (.cons ⟨_, rfl⟩ (.cons ⟨_, rfl⟩ (.cons ⟨_, rfl⟩ (.cons ⟨_, rfl⟩ (.cons ⟨_, rfl⟩ (.cons ⟨_, rfl⟩ (.cons ⟨_, rfl⟩ (.cons ⟨_, rfl⟩ (.cons ⟨_, rfl⟩ (.cons ⟨_, rfl⟩ (.cons ⟨_, rfl⟩ (.cons ⟨_, rfl⟩ .nil)))))))))))))))))⟩,
    fun H => .inr ⟨_, _, _, lN, rfl, rfl, (by show 2 ≤ sizeLine; decide), .cons ⟨_, rfl⟩ (.cons ⟨_, rfl⟩ .nil)⟩⟩
  have hC : Cls K C := ⟨p1, p2, p3, p4⟩
  have RC : RdC K C := ⟨hC, n1, n2, n3⟩
  have EX : ExF K mg CB CT := ⟨PySem.W.mg_of X G EB.gl, PySem.W.mg_of X G ET.gl, EB.xf, ET.xf, EB.na, ET.na, exm_by EB.eC EB.iC EB.tC s1, exm_by EB.eC EB.iC EB.tC s2, exm_by ET.eC ET.iC ET.tC s3⟩
  have D_is_list : DefB K mg "is_list" s_is_list ["thing"] := F.d_is_list.db X G (fun _ _ _ _ _ _ us hl => match us, hl with | [_], _ => rfl) (fun n e _ _ _ _ _ _ u => by cases e; rfl)
  have D_is_row : DefB K mg "is_row" s_is_row ["thing", "many"] := F.d_is_row.db X G (fun _ _ _ _ _ _ us hl => match us, hl with | [_, _], _ => rfl) (fun n e => nomatch e)
  have D_is_sign_row : DefB K mg "is_sign_row" s_is_sign_row ["thing", "firsts"] := F.d_is_sign_row.db X G (fun _ _ _ _ _ _ us hl => match us, hl with | [_, _], _ => rfl) (fun n e => nomatch e)
  have D_is_small : DefB K mg "is_small" s_is_small ["thing"] := F.d_is_small.db X G (fun _ _ _ _ _ _ us hl => match us, hl with | [_], _ => rfl) (fun n e _ _ _ _ _ _ u => by cases e; rfl)
  have D_is_great : DefB K mg "is_great" s_is_great ["thing"] := F.d_is_great.db X G (fun _ _ _ _ _ _ us hl => match us, hl with | [_], _ => rfl) (fun n e _ _ _ _ _ _ u => by cases e; rfl)
  have D_is_great_name : DefB K mg "is_great_name" s_is_great_name ["thing"] := F.d_is_great_name.db X G (fun _ _ _ _ _ _ us hl => match us, hl with | [_], _ => rfl) (fun n e _ _ _ _ _ _ u => by cases e; rfl)
  have D_is_int_name : DefB K mg "is_int_name" s_is_int_name ["thing"] := F.d_is_int_name.db X G (fun _ _ _ _ _ _ us hl => match us, hl with | [_], _ => rfl) (fun n e _ _ _ _ _ _ u => by cases e; rfl)
  have D_is_book_shape : DefB K mg "is_book_shape" s_is_book_shape ["thing"] := F.d_is_book_shape.db X G (fun _ _ _ _ _ _ us hl => match us, hl with | [_], _ => rfl) (fun n e _ _ _ _ _ _ u => by cases e; rfl)
  have D_need_text : DefB K mg "need_text" s_need_text ["text"] := F.d_need_text.db X G (fun _ _ _ _ _ _ us hl => match us, hl with | [_], _ => rfl) (fun n e _ _ _ _ _ _ u => by cases e; rfl)
  have D_text_of : DefB K mg "text_of" s_text_of ["book"] := F.d_text_of.db X G (fun _ _ _ _ _ _ us hl => match us, hl with | [_], _ => rfl) (fun n e _ _ _ _ _ _ u => by cases e; rfl)
  have D_written_book : DefB K mg "written_book" s_written_book ["book"] := F.d_written_book.db X G (fun _ _ _ _ _ _ us hl => match us, hl with | [_], _ => rfl) (fun n e _ _ _ _ _ _ u => by cases e; rfl)
  have D_read_book : DefB K mg "read_book" s_read_book ["text"] := F.d_read_book.db X G (fun _ _ _ _ _ _ us hl => match us, hl with | [_], _ => rfl) (fun n e _ _ _ _ _ _ u => by cases e; rfl)
  have D_law_stream : DefB K mg "_law_stream" s_stream ["script"] := F.dl_stream.db X G (fun _ _ _ _ _ _ us hl => match us, hl with | [_], _ => rfl) (fun n e _ _ _ _ _ _ u => by cases e; rfl)
  have D_law_draw : DefB K mg "_law_draw" s_draw ["stream", "many"] := F.dl_draw.db X G (fun _ _ _ _ _ _ us hl => match us, hl with | [_, _], _ => rfl) (fun n e => nomatch e)
  have D_law_pick : DefB K mg "_law_pick" s_pick ["stream", "things"] := F.dl_pick.db X G (fun _ _ _ _ _ _ us hl => match us, hl with | [_, _], _ => rfl) (fun n e => nomatch e)
  have D_law_same : DefB K mg "_law_same" s_same ["found", "due"] := F.dl_same.db X G (fun _ _ _ _ _ _ us hl => match us, hl with | [_, _], _ => rfl) (fun n e => nomatch e)
  have D_law_spoilt : DefB K mg "_law_spoilt" s_spoilt ["thing"] := F.dl_spoilt.db X G (fun _ _ _ _ _ _ us hl => match us, hl with | [_], _ => rfl) (fun n e _ _ _ _ _ _ u => by cases e; rfl)
  have D_law_copied : DefB K mg "_law_copied" s_copied ["thing"] := F.dl_copied.db X G (fun _ _ _ _ _ _ us hl => match us, hl with | [_], _ => rfl) (fun n e _ _ _ _ _ _ u => by cases e; rfl)
  have D_law_loose : DefB K mg "_law_loose" s_loose ["stream", "thing"] := F.dl_loose.db X G (fun _ _ _ _ _ _ us hl => match us, hl with | [_, _], _ => rfl) (fun n e => nomatch e)
  have D_law_twice : DefB K mg "_law_twice" s_twice ["due", "first", "other"] := F.dl_twice.db X G (fun _ _ _ _ _ _ us hl => match us, hl with | [_, _, _], _ => rfl) (fun n e => nomatch e)
  have D_law_met : DefB K mg "_law_met" s_met ["ask"] := F.dl_met.db X G (fun _ _ _ _ _ _ us hl => match us, hl with | [_], _ => rfl) (fun n e _ _ _ _ _ _ u => by cases e; rfl)
  have D_law_o_book : DefB K mg "_law_o_book" s_o_book ["stream", "depth"] := F.dl_o_book.db X G (fun _ _ _ _ _ _ us hl => match us, hl with | [_, _], _ => rfl) (fun n e => nomatch e)
  have D_law_o_signs : DefB K mg "_law_o_signs" s_o_signs [] := F.dl_o_signs.db X G (fun _ _ _ _ _ _ us hl => match us, hl with | [], _ => rfl) (fun n e => nomatch e)
  have D_law_o_word : DefB K mg "_law_o_word" s_o_word ["text", "at", "firsts"] := F.dl_o_word.db X G (fun _ _ _ _ _ _ us hl => match us, hl with | [_, _, _], _ => rfl) (fun n e => nomatch e)
  have D_law_o_name : DefB K mg "_law_o_name" s_o_name ["text", "at", "is_head"] := F.dl_o_name.db X G (fun _ _ _ _ _ _ us hl => match us, hl with | [_, _, _], _ => rfl) (fun n e => nomatch e)
  have D_law_o_end : DefB K mg "_law_o_end" s_o_end ["text", "at"] := F.dl_o_end.db X G (fun _ _ _ _ _ _ us hl => match us, hl with | [_, _], _ => rfl) (fun n e => nomatch e)
  have D_very : DefC K mg "_law_is_very" s_is_very ["word", "ask"] cv := F.very.dc X G (fun _ _ _ _ _ _ us hl => match us, hl with | [_, _], _ => rfl)
  have D_rsign : MetD K C "sign" "BookReader.sign" s_BookReader_sign ["self"] := M1.md hC (fun _ _ _ _ _ _ us hl => match us, hl with | [_], _ => rfl)
  have D_rneed : MetD K C "need" "BookReader.need" s_BookReader_need ["self", "sign"] := M2.md hC (fun _ _ _ _ _ _ us hl => match us, hl with | [_, _], _ => rfl)
  have D_rread_word : MetD K C "read_word" "BookReader.read_word" s_BookReader_read_word ["self", "firsts"] := M3.md hC (fun _ _ _ _ _ _ us hl => match us, hl with | [_, _], _ => rfl)
  have D_rread_name : MetD K C "read_name" "BookReader.read_name" s_BookReader_read_name ["self"] := M4.md hC (fun _ _ _ _ _ _ us hl => match us, hl with | [_], _ => rfl)
  have D_rhead : MetD K C "head" "BookReader.head" s_BookReader_head ["self"] := M5.md hC (fun _ _ _ _ _ _ us hl => match us, hl with | [_], _ => rfl)
  have D_rread_one : MetD K C "read_one" "BookReader.read_one" s_BookReader_read_one ["self"] := M6.md hC (fun _ _ _ _ _ _ us hl => match us, hl with | [_], _ => rfl)
  obtain ⟨fi, oci, odi, kVi, dci, pmi, ani, cdi, cti, sli, ai, li, ci, ki, ii, ti⟩ := M0
  have D_rinit : MakD K mg "BookReader" C "BookReader.__init__" s_rinit ["self", "text"] := ⟨fi, _, ⟨p5, ai, ii, p6⟩, PySem.W.mg_of X G gC, ⟨_, _, _, _, _, _, _, _, _, _, rfl, li, ci⟩, .all (fun us hl => match us, hl with | [_, _], _ => rfl)⟩
  obtain ⟨fb, ocb, odb, kVb, dcb, pmb, anb, cdb, ctb, slb, ab, lb, cb, kb, ib, tb⟩ := MB
  obtain ⟨ft, oct, odt, kVt, dct, pmt, ant, cdt, ctt, slt, at_, lt, ct_, kt, it, tt⟩ := MT
  refine ⟨PySem.W.fnOf "law" "law" (fnArgs s_law) (fnBody s_law) (fnScope s_law) .none kV dc pm an (.ref cl) ct, [(cl, Pl), (cv, Pv)], sp_law K [(Pl, qLaw), (Pv, qVery)], ?_, ?_, ?_, fun s u => .of_eq rfl, fun H a ns _ _ hT hS => ⟨a, ns, rfl, hS, ?_, fun _ => rfl⟩, fun base KX _ TB => ?_⟩
  · intro p hp
    simp only [List.mem_cons, List.not_mem_nil, or_false] at hp
    rcases hp with rfl | rfl
    · exact hl
    · exact hv
  · intro p hp
    simp only [List.mem_cons, List.not_mem_nil, or_false] at hp
    rcases hp with rfl | rfl
    · exact F.nl
    · exact F.nv
  · intro p hp
    simp only [List.mem_cons, List.not_mem_nil, or_false] at hp
    rcases hp with rfl | rfl
    · exact PySem.W.codeHd_of_K X F.tl
    · exact PySem.W.codeHd_of_K X F.tv
  · intro p hp
    simp only [List.mem_cons, List.not_mem_nil, or_false] at hp
    rcases hp with rfl | rfl
    · exact TabS.nil (hT (cl, Pl) (by simp))
    · exact TabS.nil (hT (cv, Pv) (by simp))
  have Q1 : Exq l.prog w K mg base 1 "BadBook" CB "book" := ⟨fb, _, _, EB.ox, ab, tb, ok_eBook ⟨_, _, _, _, _, _, _, _, _, _, rfl, lb, cb⟩ EB.ox EB.na, .all (fun us hl => match us, hl with | [_, _], _ => rfl), PySem.W.mg_of X G EB.gl⟩
  have Q2 : Exq l.prog w K mg base 1 "BadText" CT "text" := ⟨ft, _, _, ET.ox, at_, tt, ok_eText ⟨_, _, _, _, _, _, _, _, _, _, rfl, lt, ct_⟩ ET.ox ET.na, .all (fun us hl => match us, hl with | [_, _], _ => rfl), PySem.W.mg_of X G ET.gl⟩
  have c_list := ok_is_list (P := l.prog) (w := w) (base := base) D_is_list B
  have c_row := ok_is_row D_is_row B c_list
  have c_sr := ok_is_sign_row (P := l.prog) (w := w) (base := base) D_is_sign_row B TX
  have c_gn := ok_is_great_name D_is_great_name c_row (ok_is_small D_is_small TX c_sr) (ok_is_great D_is_great TX c_sr)
  have c_in := ok_is_int_name D_is_int_name B c_row
  have c_sh := ok_is_book_shape D_is_book_shape B c_row c_gn c_in
  have CW := ok_written_book (n := 130) D_written_book Q1 c_sh (ok_text_of D_text_of B TX 130)
  have m_sign := ok_rsign (P := l.prog) (w := w) (mg := mg) (base := base) D_rsign RC
  have m_need := ok_rneed D_rneed RC m_sign
  have m_word := ok_rword D_rread_word RC B TX m_sign
  have m_name := ok_rname D_rread_name RC B TX m_need m_word
  have m_head := ok_rhead D_rhead RC B TX m_need m_word
  have m_one := ok_rone D_rread_one RC m_sign m_need m_name m_head 131
  have CR := ok_read_book (n := 130) D_read_book B RC (ok_need_text D_need_text B Q2) (ok_rinit D_rinit RC) m_one
  have c_draw := ok_draw (P := l.prog) (w := w) (base := base) D_law_draw B
  have c_pick := ok_pick D_law_pick B c_draw
  have c_same := ok_same (P := l.prog) (w := w) (base := base) D_law_same B
  have c_copied := ok_copied (P := l.prog) (w := w) (base := base) D_law_copied B
  have c_spoilt := ok_spoilt (P := l.prog) (w := w) (base := base) D_law_spoilt B
  have c_end := ok_oend D_law_o_end B (ok_oname D_law_o_name B (ok_oword D_law_o_word B (ok_osigns (P := l.prog) (w := w) (base := base) D_law_o_signs))) 131
  have c_very := ok_very (T := [(Pl, qLaw), (Pv, qVery)]) (N := 137) D_very B EX D_law_met (TB (cv, Pv) (by simp)) (by simp) (fun p hp e => by
    simp only [List.mem_cons, List.not_mem_nil, or_false] at hp
    rcases hp with rfl | rfl
    · exact absurd e.symm hne
    · rfl) CW CR (PySem.W.mg_of X G F.d_written_book.choose_spec.choose_spec.choose_spec.choose_spec.choose_spec.choose_spec.choose_spec.choose_spec.choose_spec.choose_spec.1) (PySem.W.mg_of X G F.d_read_book.choose_spec.choose_spec.choose_spec.choose_spec.choose_spec.choose_spec.choose_spec.choose_spec.choose_spec.choose_spec.1) (c_same 4) (by decide) (by decide) (by decide)
  exact ok_law lL cL B EX D_law_met D_law_twice (TB (cl, Pl) (by simp)) (by simp) (fun p hp e => by
    simp only [List.mem_cons, List.not_mem_nil, or_false] at hp
    rcases hp with rfl | rfl
    · rfl
    · exact absurd e hne) CW CR (PySem.W.mg_of X G F.d_written_book.choose_spec.choose_spec.choose_spec.choose_spec.choose_spec.choose_spec.choose_spec.choose_spec.choose_spec.choose_spec.1) (PySem.W.mg_of X G F.d_read_book.choose_spec.choose_spec.choose_spec.choose_spec.choose_spec.choose_spec.choose_spec.choose_spec.choose_spec.choose_spec.1)
    (c_same 13) (c_same 12) (c_copied 10) (c_spoilt 11) (c_copied 9) (ok_stream D_law_stream B) c_draw c_pick (ok_obook D_law_o_book B c_draw c_pick 4) (ok_loose D_law_loose B c_draw 9) c_end c_very
theorem walk54 {l : PySem.W.OpenLaw} {q : Program} {loose : List Str} {XP : (Str → Option Value) → Heap → Prop} {YP : World → Heap → Prop} {d : DefRec} {K : Params → PySem.W.Frag} (hn : l.most = some 63) (hdf : d.params.defaults = []) (hY : ∀ (w : World) (h : Heap), YP w h → (K w.params).In h)
    (F : ∀ (w : World) (mg : Str → Option Value) (fa : Addr) (h : Heap), YP w h → (K w.params).In h → h.Ns mainGlobals mg → mg d.name = some (.ref fa) → LawAtS l w (K w.params) C8.CX0 141 63 "script" mg fa h) : PySem.W.WalkO q loose XP YP l.row.toRowW d [] (fun f vs => PySem.call f vs) :=
  walk_ofTs (n := 63) (k := 141) (x := "script") (CX := fun _ => C8.CX0) hn (by decide) hdf ⟨rfl, by decide, by decide⟩ hY F fun _ _ _ _ _ z => z
end
end K54

set_option Elab.async false
set_option linter.all false
open PySem PySem.W PyProof.Rows
set_option maxRecDepth 100000 in
set_option maxHeartbeats 0 in
theorem PySem.Challenge.cw_kindcopies_k54_whole_texts_of_books_holds : PySem.Challenge.rw_kindcopies_k54_whole_texts_of_books.Holds := by
  w_on; o_law; k_head; (case hw => w_witness2)
  k_fill
  refine K54.walk54 (l := PySem.Challenge.rw_kindcopies_k54_whole_texts_of_books) rfl rfl (fun w h Y => PySem.W.km_in_of Y) ?F
  case F =>
    intro w mg fa h Y KX G hmg
    have tabs := PySem.W.km_tabs_of Y
    refine' K54.law_at (Pl := 309) (Pv := 255) ?FF KX G hmg (by decide) (tabs 309 (by simp)) (tabs 255 (by simp))
    case FF =>
      refine' K54.Facts.mk ?tl ?tv ?nl ?nv ?law ?very ?d0 ?d1 ?d2 ?d3 ?d4 ?d5 ?d6 ?d7 ?d8 ?d9 ?d10 ?d11 ?d12 ?d13 ?d14 ?d15 ?d16 ?d17 ?d18 ?d19 ?d20 ?d21 ?d22 ?d23 ?d24 ?d25 ?b0 ?b1 ?b2 ?b3 ?b4 ?b5 ?b6 ?b7 ?b8 ?b9 ?b10 ?b11 ?b12 ?b13 ?exc ?rdr ?wrd ?inm ?let_ ?gre_ ?fig_
      (case law => refine' K54.ft_mk ?a ?l ?c ?k; (case a => k_is); (case l => k_is); (case c => k_is); (case k => k_is))
      (case very => refine' K54.ft_mk ?a ?l ?c ?k; (case a => k_is); (case l => k_is); (case c => k_is); (case k => k_is))
      (case tl => first | rfl | kernel_rfl | decide)
      (case tv => first | rfl | kernel_rfl | decide)
      (case nl => first | rfl | kernel_rfl | decide)
      (case nv => first | rfl | kernel_rfl | decide)
      (case d0 => refine' K54.fd_mk ?a ?l ?c ?k; (case a => k_is); (case l => k_is); (case c => k_is); (case k => k_is))
      (case d1 => refine' K54.fd_mk ?a ?l ?c ?k; (case a => k_is); (case l => k_is); (case c => k_is); (case k => k_is))
      (case d2 => refine' K54.fd_mk ?a ?l ?c ?k; (case a => k_is); (case l => k_is); (case c => k_is); (case k => k_is))
      (case d3 => refine' K54.fd_mk ?a ?l ?c ?k; (case a => k_is); (case l => k_is); (case c => k_is); (case k => k_is))
      (case d4 => refine' K54.fd_mk ?a ?l ?c ?k; (case a => k_is); (case l => k_is); (case c => k_is); (case k => k_is))
      (case d5 => refine' K54.fd_mk ?a ?l ?c ?k; (case a => k_is); (case l => k_is); (case c => k_is); (case k => k_is))
      (case d6 => refine' K54.fd_mk ?a ?l ?c ?k; (case a => k_is); (case l => k_is); (case c => k_is); (case k => k_is))
      (case d7 => refine' K54.fd_mk ?a ?l ?c ?k; (case a => k_is); (case l => k_is); (case c => k_is); (case k => k_is))
      (case d8 => refine' K54.fd_mk ?a ?l ?c ?k; (case a => k_is); (case l => k_is); (case c => k_is); (case k => k_is))
      (case d9 => refine' K54.fd_mk ?a ?l ?c ?k; (case a => k_is); (case l => k_is); (case c => k_is); (case k => k_is))
      (case d10 => refine' K54.fd_mk ?a ?l ?c ?k; (case a => k_is); (case l => k_is); (case c => k_is); (case k => k_is))
      (case d11 => refine' K54.fd_mk ?a ?l ?c ?k; (case a => k_is); (case l => k_is); (case c => k_is); (case k => k_is))
      (case d12 => refine' K54.fd_mk ?a ?l ?c ?k; (case a => k_is); (case l => k_is); (case c => k_is); (case k => k_is))
      (case d13 => refine' K54.fd_mk ?a ?l ?c ?k; (case a => k_is); (case l => k_is); (case c => k_is); (case k => k_is))
      (case d14 => refine' K54.fd_mk ?a ?l ?c ?k; (case a => k_is); (case l => k_is); (case c => k_is); (case k => k_is))
      (case d15 => refine' K54.fd_mk ?a ?l ?c ?k; (case a => k_is); (case l => k_is); (case c => k_is); (case k => k_is))
      (case d16 => refine' K54.fd_mk ?a ?l ?c ?k; (case a => k_is); (case l => k_is); (case c => k_is); (case k => k_is))
      (case d17 => refine' K54.fd_mk ?a ?l ?c ?k; (case a => k_is); (case l => k_is); (case c => k_is); (case k => k_is))
      (case d18 => refine' K54.fd_mk ?a ?l ?c ?k; (case a => k_is); (case l => k_is); (case c => k_is); (case k => k_is))
      (case d19 => refine' K54.fd_mk ?a ?l ?c ?k; (case a => k_is); (case l => k_is); (case c => k_is); (case k => k_is))
      (case d20 => refine' K54.fd_mk ?a ?l ?c ?k; (case a => k_is); (case l => k_is); (case c => k_is); (case k => k_is))
      (case d21 => refine' K54.fd_mk ?a ?l ?c ?k; (case a => k_is); (case l => k_is); (case c => k_is); (case k => k_is))
      (case d22 => refine' K54.fd_mk ?a ?l ?c ?k; (case a => k_is); (case l => k_is); (case c => k_is); (case k => k_is))
      (case d23 => refine' K54.fd_mk ?a ?l ?c ?k; (case a => k_is); (case l => k_is); (case c => k_is); (case k => k_is))
      (case d24 => refine' K54.fd_mk ?a ?l ?c ?k; (case a => k_is); (case l => k_is); (case c => k_is); (case k => k_is))
      (case d25 => refine' K54.fd_mk ?a ?l ?c ?k; (case a => k_is); (case l => k_is); (case c => k_is); (case k => k_is))
      (case b0 => k_is)
      (case b1 => k_is)
      (case b2 => k_is)
      (case b3 => k_is)
      (case b4 => k_is)
      (case b5 => k_is)
      (case b6 => k_is)
      (case b7 => k_is)
      (case b8 => k_is)
      (case b9 => k_is)
      (case b10 => k_is)
      (case b11 => k_is)
      (case b12 => k_is)
      (case b13 => k_is)
      case exc =>
        refine' K54.exc_mk ?eB ?eT ?mB ?mT ?s1 ?s2 ?s3
        (case eB => refine' K54.fe_mk ?gl ?cl ?sa ?ga ?gg ?na ?kC ?eC ?tC ?hC ?iC; (case gl => k_is); (case cl => k_is); (case sa => k_is); (case ga => k_is); (case gg => k_is); (case na => k_is); (case kC => k_is); (case eC => k_is); (case tC => k_is); (case hC => k_is); (case iC => k_is))
        (case eT => refine' K54.fe_mk ?gl ?cl ?sa ?ga ?gg ?na ?kC ?eC ?tC ?hC ?iC; (case gl => k_is); (case cl => k_is); (case sa => k_is); (case ga => k_is); (case gg => k_is); (case na => k_is); (case kC => k_is); (case eC => k_is); (case tC => k_is); (case hC => k_is); (case iC => k_is))
        (case mB => refine' K54.fm_mk ?a ?l ?c ?k ?i ?t; (case a => k_is); (case l => k_is); (case c => k_is); (case k => k_is); (case i => k_is); (case t => k_is))
        (case mT => refine' K54.fm_mk ?a ?l ?c ?k ?i ?t; (case a => k_is); (case l => k_is); (case c => k_is); (case k => k_is); (case i => k_is); (case t => k_is))
        (case s1 => first | rfl | k_is); (case s2 => first | rfl | k_is); (case s3 => first | rfl | k_is)
      case rdr =>
        refine' K54.ex1 ⟨?g, ?p1, ?p2, ?p3, ?p4, ?p5, ?p6, ?n1, ?n2, ?n3, ?m0, ?m1, ?m2, ?m3, ?m4, ?m5, ?m6⟩
        (case g => k_is); (case p1 => k_is); (case p2 => k_is); (case p3 => k_is); (case p4 => k_is); (case p5 => k_is); (case p6 => k_is); (case n1 => k_is); (case n2 => k_is); (case n3 => k_is)
        (case m0 => refine' K54.fm_mk ?a ?l ?c ?k ?i ?t; (case a => k_is); (case l => k_is); (case c => k_is); (case k => k_is); (case i => k_is); (case t => k_is))
        (case m1 => refine' K54.fm_mk ?a ?l ?c ?k ?i ?t; (case a => k_is); (case l => k_is); (case c => k_is); (case k => k_is); (case i => k_is); (case t => k_is))
        (case m2 => refine' K54.fm_mk ?a ?l ?c ?k ?i ?t; (case a => k_is); (case l => k_is); (case c => k_is); (case k => k_is); (case i => k_is); (case t => k_is))
        (case m3 => refine' K54.fm_mk ?a ?l ?c ?k ?i ?t; (case a => k_is); (case l => k_is); (case c => k_is); (case k => k_is); (case i => k_is); (case t => k_is))
        (case m4 => refine' K54.fm_mk ?a ?l ?c ?k ?i ?t; (case a => k_is); (case l => k_is); (case c => k_is); (case k => k_is); (case i => k_is); (case t => k_is))
        (case m5 => refine' K54.fm_mk ?a ?l ?c ?k ?i ?t; (case a => k_is); (case l => k_is); (case c => k_is); (case k => k_is); (case i => k_is); (case t => k_is))
        (case m6 => refine' K54.fm_mk ?a ?l ?c ?k ?i ?t; (case a => k_is); (case l => k_is); (case c => k_is); (case k => k_is); (case i => k_is); (case t => k_is))
      (case wrd => refine' K54.wrd_mk ?a ?b; (case a => k_is); (case b => k_is))
      (case inm => refine' K54.inm_mk ?a ?b; (case a => k_is); (case b => k_is))
      (case let_ => refine' K54.ex1 ?a; (case a => k_is))
      (case gre_ => refine' K54.ex1 ?a; (case a => k_is))
      (case fig_ => refine' K54.ex1 ?a; (case a => k_is))
