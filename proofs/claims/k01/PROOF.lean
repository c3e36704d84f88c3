import PyProof.Rows.All
import Wide.All
import OpenK.AllK
import Wide.FinOn
import HandS.ForExc
import HandS.ForMost
import HandS.Deep
import HandS.TupAny
import HandS.TupMul
import HandS.IsInst
import HandS.Walk
import HandS.Zip
import HandS.Flow
import HandS.Style
import PyProof.ListMulRoad
import PyProof.FactsAll.tuple_2
import HandS.Defaults
import KE.GoesMore
import KE.GoesEnum
import HandS.Dict
import PySem.Challenge.RW_manycaches_k01_not_protocols
set_option Elab.async false
set_option linter.all false
set_option maxRecDepth 100000
set_option maxHeartbeats 4000000
/-! DL: readings over plain data. A value is data (PyData), frozen in a part G of the tracked heap; lists that a def changes are its own. -/
namespace DL
open PySem PySem.Spec PyProof.Rows L2
/-! ## 1. data frozen in G -/
mutual
inductive WD (G : Hp) : V → PyData → Prop
  | non : WD G .non .none
  | bl (b : Bool) : WD G (.bl b) (.bool b)
  | int (i : Int) : WD G (.int i) (.int i)
  | str (x : Str) : WD G (.str x) (.str x)
  | lst {a : Addr} {xs : List V} {ds : List PyData} : G a = some (.lst xs) → ds.length ≤ sizeLine → WDs G xs ds → WD G (.ref a) (.list ds)
  | tup {a : Addr} {xs : List V} {ds : List PyData} : G a = some (.tup xs) → ds.length ≤ sizeLine → WDs G xs ds → WD G (.ref a) (.tuple ds)
inductive WDs (G : Hp) : List V → List PyData → Prop
  | nil : WDs G [] []
  | cons {v : V} {d : PyData} {vs : List V} {ds : List PyData} : WD G v d → WDs G vs ds → WDs G (v :: vs) (d :: ds)
end
mutual
theorem WD.mono {G G' : Hp} (e : Same G G') : ∀ (d : PyData) (v : V), WD G v d → WD G' v d
  | .none, _, h => by cases h; exact .non
  | .bool b, _, h => by cases h; exact .bl b
  | .int i, _, h => by cases h; exact .int i
  | .str x, _, h => by cases h; exact .str x
  | .list ds, _, h => by
    cases h with
    | lst h1 h2 h3 => exact .lst (e _ _ h1) h2 (WDs.mono e ds _ h3)
  | .tuple ds, _, h => by
    cases h with
    | tup h1 h2 h3 => exact .tup (e _ _ h1) h2 (WDs.mono e ds _ h3)
  | .dict _, _, h => by cases h
theorem WDs.mono {G G' : Hp} (e : Same G G') : ∀ (ds : List PyData) (vs : List V), WDs G vs ds → WDs G' vs ds
  | [], _, h => by cases h; exact .nil
  | d :: ds, _, h => by
    cases h with
    | cons h1 h2 => exact .cons (WD.mono e d _ h1) (WDs.mono e ds _ h2)
end
mutual
theorem WD.dp {K : PySem.W.Frag} {G H : Hp} (e : Same G H) : ∀ (d : PyData) (v : V), WD G v d → Dp K H v d
  | .none, _, h => by cases h; exact .non
  | .bool b, _, h => by cases h; exact .bl b
  | .int i, _, h => by cases h; exact .int i
  | .str x, _, h => by cases h; exact .str x
  | .list ds, _, h => by
    cases h with
    | lst h1 h2 h3 => exact .lst (.of (e _ _ h1)) (WDs.dp e ds _ h3)
  | .tuple ds, _, h => by
    cases h with
    | tup h1 h2 h3 => exact .tup (.of (e _ _ h1)) (WDs.dp e ds _ h3)
  | .dict _, _, h => by cases h
theorem WDs.dp {K : PySem.W.Frag} {G H : Hp} (e : Same G H) : ∀ (ds : List PyData) (vs : List V), WDs G vs ds → DpAll K H vs ds
  | [], _, h => by cases h; exact .nil
  | d :: ds, _, h => by
    cases h with
    | cons h1 h2 => exact .cons (WD.dp e d _ h1) (WDs.dp e ds _ h2)
end
theorem WDs.length {G : Hp} : ∀ {ds : List PyData} {vs : List V}, WDs G vs ds → vs.length = ds.length
  | [], _, h => by cases h; rfl
  | d :: ds, _, h => by
    cases h with
    | cons h1 h2 => rw [List.length_cons, List.length_cons, WDs.length h2]
theorem WDs.append {G : Hp} : ∀ {ds es : List PyData} {vs us : List V}, WDs G vs ds → WDs G us es → WDs G (vs ++ us) (ds ++ es)
  | [], _, _, _, h, k => by cases h; exact k
  | d :: ds, _, _, _, h, k => by
    cases h with
    | cons h1 h2 => exact .cons h1 (WDs.append h2 k)
theorem WDs.get {G : Hp} : ∀ {ds : List PyData} {vs : List V} {i : Nat} {d : PyData}, WDs G vs ds → ds[i]? = some d → ∃ v, vs[i]? = some v ∧ WD G v d
  | [], _, _, _, h, e => by simp at e
  | d :: ds, _, 0, d', h, e => by
    cases h with
    | cons h1 h2 =>
      simp only [List.getElem?_cons_zero, Option.some.injEq] at e
      subst e
      exact ⟨_, rfl, h1⟩
  | d :: ds, _, i + 1, d', h, e => by
    cases h with
    | cons h1 h2 =>
      obtain ⟨v, e1, e2⟩ := WDs.get (i := i) h2 (by simpa using e)
      exact ⟨v, by simpa using e1, e2⟩
theorem WDs.getV {G : Hp} {ds : List PyData} {vs : List V} {i : Nat} {v : V} (h : WDs G vs ds) (e : vs[i]? = some v) : ∃ d, ds[i]? = some d ∧ WD G v d := by
  obtain ⟨hi, _⟩ := List.getElem?_eq_some_iff.mp e
  have hl := h.length
  have e2 : ds[i]? = some (ds[i]'(by omega)) := List.getElem?_eq_getElem (by omega)
  obtain ⟨v', e3, w⟩ := WDs.get h e2
  rw [e] at e3
  cases e3
  exact ⟨_, e2, w⟩
theorem WDs.set {G : Hp} {d : PyData} {v : V} (w : WD G v d) : ∀ {ds : List PyData} {vs : List V} (i : Nat), WDs G vs ds → WDs G (vs.set i v) (ds.set i d)
  | [], _, _, h => by cases h; exact .nil
  | _ :: _, _, 0, h => by
    cases h with
    | cons h1 h2 => exact .cons w h2
  | _ :: _, _, i + 1, h => by
    cases h with
    | cons h1 h2 => exact .cons h1 (WDs.set w i h2)
theorem WDs.drop {G : Hp} : ∀ {ds : List PyData} {vs : List V} (n : Nat), WDs G vs ds → WDs G (vs.drop n) (ds.drop n)
  | _, _, 0, h => h
  | [], _, n + 1, h => by cases h; exact .nil
  | _ :: _, _, n + 1, h => by
    cases h with
    | cons h1 h2 => exact WDs.drop n h2
theorem WDs.take {G : Hp} : ∀ {ds : List PyData} {vs : List V} (n : Nat), WDs G vs ds → WDs G (vs.take n) (ds.take n)
  | _, _, 0, _ => .nil
  | [], _, n + 1, h => by cases h; exact .nil
  | _ :: _, _, n + 1, h => by
    cases h with
    | cons h1 h2 => exact .cons h1 (WDs.take n h2)
theorem WDs.reverse {G : Hp} : ∀ {ds : List PyData} {vs : List V}, WDs G vs ds → WDs G vs.reverse ds.reverse
  | [], _, h => by cases h; exact .nil
  | _ :: _, _, h => by
    cases h with
    | cons h1 h2 =>
      rw [List.reverse_cons, List.reverse_cons]
      exact WDs.append (WDs.reverse h2) (.cons h1 .nil)
theorem WDs.flat {G : Hp} {ds : List PyData} {vs : List V} (h : WDs G vs ds) : ∀ n : Nat, WDs G (List.replicate n vs).flatten (List.replicate n ds).flatten
  | 0 => .nil
  | n + 1 => by
    rw [List.replicate_succ, List.replicate_succ, List.flatten_cons, List.flatten_cons]
    exact WDs.append h (WDs.flat h n)
theorem WDs.ints {G : Hp} : ∀ {ns : List Int} {vs : List V}, WDs G vs (ns.map .int) → vs = ns.map .int
  | [], _, h => by cases h; rfl
  | n :: ns, _, h => by
    cases h with
    | cons h1 h2 => cases h1; rw [WDs.ints h2]; rfl
theorem WDs.bools {G : Hp} : ∀ {ns : List Bool} {vs : List V}, WDs G vs (ns.map .bool) → vs = ns.map .bl
  | [], _, h => by cases h; rfl
  | n :: ns, _, h => by
    cases h with
    | cons h1 h2 => cases h1; rw [WDs.bools h2]; rfl
theorem WDs.of_ints {G : Hp} : ∀ ns : List Int, WDs G (ns.map .int) (ns.map .int)
  | [] => .nil
  | n :: ns => .cons (.int n) (WDs.of_ints ns)
/-! ## 2. the drawing's state, extensions -/
abbrev Tw := Option (Addr × Addr)
def Vol : Tw → Addr → Prop
  | none, _ => False
  | some (t, r), b => b = t ∨ b = r
def RestsOk (rs : List (Key × V)) : Prop := (rs.map (·.1)).Nodup ∧ ∀ p ∈ rs, ∃ (k : Nat) (i : Int), p = (.inl (k : Int), .int i) ∧ k < 63
def TownOk (H : Hp) (t r : Addr) : Prop := t ≠ r ∧ ∃ (n : Int) (rs : List (Key × V)), H t = some (.dK [(.inr "count", .int n), (.inr "rests", .ref r)]) ∧ H r = some (.dK rs) ∧ RestsOk rs
def TwOk : Tw → Hp → Prop
  | none, _ => True
  | some (t, r), H => TownOk H t r
theorem TwOk.dk {tw : Tw} {H : Hp} (h : TwOk tw H) {b : Addr} (v : Vol tw b) : ∃ kvs, H b = some (.dK kvs) := by
  cases tw with
  | none => exact v.elim
  | some p =>
    obtain ⟨t, r⟩ := p
    obtain ⟨_, n, rs, h1, h2, _⟩ := h
    rcases v with rfl | rfl
    · exact ⟨_, h1⟩
    · exact ⟨_, h2⟩
structure Ext (tw : Tw) (G H G' H' : Hp) : Prop where
  gg : Same G G'
  gh : Same G' H'
  hh : ∀ b o, H b = some o → ¬ Vol tw b → H' b = some o
  tk : TwOk tw H'
  nv : ∀ b, Vol tw b → G' b = none
  new : ∀ a o, G' a = some o → G a = some o ∨ H a = none
structure Ok (tw : Tw) (G H : Hp) : Prop where
  gh : Same G H
  tk : TwOk tw H
  nv : ∀ b, Vol tw b → G b = none
section
variable {tw : Tw} {G H G1 H1 G2 H2 : Hp}
theorem Ext.ok (e : Ext tw G H G1 H1) : Ok tw G1 H1 := ⟨e.gh, e.tk, e.nv⟩
theorem Ok.refl (o : Ok tw G H) : Ext tw G H G H := ⟨fun _ _ h => h, o.gh, fun _ _ h _ => h, o.tk, o.nv, fun _ _ h => .inl h⟩
theorem Ext.nonvol (o : TwOk tw H) {a : Addr} {u : HO} (h : H a = some u) (n : ∀ kvs, u ≠ .dK kvs) : ¬ Vol tw a := fun v => by
  obtain ⟨kvs, e⟩ := o.dk v
  rw [h] at e
  exact n kvs (Option.some.inj e)
theorem Ext.free (e : Ext tw G H G1 H1) {a : Addr} (h : H1 a = none) : H a = none := by
  cases q : H a with
  | none => rfl
  | some u =>
    by_cases v : Vol tw a
    · obtain ⟨kvs, z⟩ := e.tk.dk v
      rw [h] at z
      cases z
    · rw [e.hh a u q v] at h
      cases h
theorem Ext.trans (e : Ext tw G H G1 H1) (f : Ext tw G1 H1 G2 H2) : Ext tw G H G2 H2 where
  gg := fun b o h => f.gg b o (e.gg b o h)
  gh := f.gh
  hh := fun b o h v => f.hh b o (e.hh b o h v) v
  tk := f.tk
  nv := f.nv
  new := fun a o h => by
    rcases f.new a o h with q | q
    · exact e.new a o q
    · exact .inr (e.free q)
/-- a new object, frozen -/
theorem Ok.put (k : Ok tw G H) {p : Addr} {o : HO} (hp : H p = none) : Ext tw G H (upd G p o) (upd H p o) := by
  have gp : G p = none := by
    cases q : G p with
    | none => rfl
    | some u =>
      rw [k.gh p u q] at hp
      cases hp
  refine ⟨fun b u h => ?_, fun b u h => ?_, fun b u h _ => ?_, ?_, fun b v => ?_, fun a u h => ?_⟩
  · rw [upd_ne (ne_of_none h gp)]
    exact h
  · by_cases hb : b = p
    · subst hb
      rw [upd_same] at h ⊢
      exact h
    · rw [upd_ne hb] at h ⊢
      exact k.gh b u h
  · rw [upd_ne (ne_of_none h hp)]
    exact h
  · cases tw with
    | none => trivial
    | some z =>
      obtain ⟨t, r⟩ := z
      obtain ⟨h0, n, rs, h1, h2, h3⟩ := k.tk
      exact ⟨h0, n, rs, by rw [upd_ne (ne_of_none h1 hp)]; exact h1, by rw [upd_ne (ne_of_none h2 hp)]; exact h2, h3⟩
  · obtain ⟨kvs, e⟩ := k.tk.dk v
    rw [upd_ne (ne_of_none e hp)]
    exact k.nv b v
  · by_cases hb : a = p
    · subst hb
      exact .inr hp
    · rw [upd_ne hb] at h
      exact .inl h
/-- a new object, not frozen -/
theorem Ok.putH (k : Ok tw G H) {p : Addr} {o : HO} (hp : H p = none) : Ext tw G H G (upd H p o) := by
  refine ⟨fun b u h => h, fun b u h => ?_, fun b u h _ => ?_, ?_, k.nv, fun a u h => .inl h⟩
  · rw [upd_ne (ne_of_none (k.gh b u h) hp)]
    exact k.gh b u h
  · rw [upd_ne (ne_of_none h hp)]
    exact h
  · cases tw with
    | none => trivial
    | some z =>
      obtain ⟨t, r⟩ := z
      obtain ⟨h0, n, rs, h1, h2, h3⟩ := k.tk
      exact ⟨h0, n, rs, by rw [upd_ne (ne_of_none h1 hp)]; exact h1, by rw [upd_ne (ne_of_none h2 hp)]; exact h2, h3⟩
/-- an object of H is frozen -/
theorem Ext.freeze (e : Ext tw G H G1 H1) {a : Addr} {vs : List V} (h : H1 a = some (.lst vs)) (g : G1 a = none) (n : H a = none) : Ext tw G H (upd G1 a (.lst vs)) H1 := by
  refine ⟨fun b u q => ?_, fun b u q => ?_, e.hh, e.tk, fun b v => ?_, fun b u q => ?_⟩
  · have z := e.gg b u q
    rw [upd_ne (ne_of_none z g)]
    exact z
  · by_cases hb : b = a
    · subst hb
      rw [upd_same] at q
      rw [← q]
      exact h
    · rw [upd_ne hb] at q
      exact e.gh b u q
  · have hb : b ≠ a := fun z => Ext.nonvol e.tk h (fun _ z => nomatch z) (z ▸ v)
    rw [upd_ne hb]
    exact e.nv b v
  · by_cases hb : b = a
    · subst hb
      exact .inr n
    · rw [upd_ne hb] at q
      exact e.new b u q
theorem same_freeze {a : Addr} {u : HO} (g : G a = none) : Same G (upd G a u) := fun b o h => by
  rw [upd_ne (ne_of_none h g)]
  exact h
/-- an own object (not in G, not the drawing's) is written -/
theorem Ok.write (k : Ok tw G H) {a : Addr} {o u : HO} (g : G a = none) (v : ¬ Vol tw a) : Ok tw G (upd H a u) := by
  refine ⟨fun b o h => ?_, ?_, k.nv⟩
  · rw [upd_ne (ne_of_none h g)]
    exact k.gh b o h
  · cases tw with
    | none => trivial
    | some z =>
      obtain ⟨t, r⟩ := z
      obtain ⟨h0, n, rs, h1, h2, h3⟩ := k.tk
      exact ⟨h0, n, rs, by rw [upd_ne (fun e => v (.inl e.symm))]; exact h1, by rw [upd_ne (fun e => v (.inr e.symm))]; exact h2, h3⟩
end
/-! ## 3. slots, values -/
inductive SV where
  /-- data, frozen -/
  | d (x : PyData)
  /-- a list of one's own (in a slot); a new list that nobody holds (a value) -/
  | own (l : List PyData)
  /-- a list that a slot holds (a value alone) -/
  | bor (l : List PyData)
  /-- the drawing's state -/
  | town
  /-- a value itself: a class, a type -/
  | v (x : V)
  /-- anything else that stands -/
  | abs (φ : V → Hp → Prop) (m : ∀ v G G', Same G G' → φ v G → φ v G')
/-- a value behind an expression that began at H; H0: the def's entry -/
def VR (tw : Tw) (H0 H G' H' : Hp) (v : V) : SV → Prop
  | .d x => WD G' v x
  | .own l => ∃ a vs, v = .ref a ∧ H' a = some (.lst vs) ∧ G' a = none ∧ H a = none ∧ WDs G' vs l ∧ l.length ≤ sizeLine
  | .bor l => ∃ a vs, v = .ref a ∧ H' a = some (.lst vs) ∧ G' a = none ∧ H0 a = none ∧ WDs G' vs l ∧ l.length ≤ sizeLine
  | .town => ∃ t r, tw = some (t, r) ∧ v = .ref t
  | .v x => v = x
  | .abs φ _ => φ v G'
/-- a slot's value -/
def SR (tw : Tw) (H0 G H : Hp) (v : V) : SV → Prop
  | .d x => WD G v x
  | .own l => ∃ a vs, v = .ref a ∧ H a = some (.lst vs) ∧ G a = none ∧ H0 a = none ∧ WDs G vs l ∧ l.length ≤ sizeLine
  | .bor _ => False
  | .town => ∃ t r, tw = some (t, r) ∧ v = .ref t
  | .v x => v = x
  | .abs φ _ => φ v G
/-- a value that is handed on: frozen -/
def FR (tw : Tw) (G : Hp) (v : V) : SV → Prop
  | .d x => WD G v x
  | .own _ => False
  | .bor _ => False
  | .town => ∃ t r, tw = some (t, r) ∧ v = .ref t
  | .v x => v = x
  | .abs φ _ => φ v G
abbrev Env := List (Option SV)
structure Rep (tw : Tw) (G0 H0 G : Hp) (σ : L2.St) (H : Hp) (δ : Env) : Prop where
  ext : Ext tw G0 H0 G H
  len : σ.length = δ.length
  sl : ∀ (i : Nat) (s : SV), δ[i]? = some (some s) → ∃ v, σ[i]? = some (some v) ∧ SR tw H0 G H v s
  own : ∀ (i j : Nat) (l l' : List PyData) (a : Addr), δ[i]? = some (some (.own l)) → δ[j]? = some (some (.own l')) → σ[i]? = some (some (.ref a)) → σ[j]? = some (some (.ref a)) → i = j
section
variable {tw : Tw} {G0 H0 G H G' H' : Hp} {σ : L2.St} {δ : Env}
theorem Rep.ok (r : Rep tw G0 H0 G σ H δ) : Ok tw G H := r.ext.ok
theorem SR.go {v : V} {s : SV} (h : SR tw H0 G H v s) (o : TwOk tw H) (e : Ext tw G H G' H') : SR tw H0 G' H' v s := by
  cases s with
  | d x => exact WD.mono e.gg x v h
  | own l =>
    obtain ⟨a, vs, e1, e2, e3, e4, e5, e6⟩ := h
    refine ⟨a, vs, e1, e.hh a _ e2 (Ext.nonvol o e2 fun _ z => nomatch z), ?_, e4, WDs.mono e.gg _ _ e5, e6⟩
    cases q : G' a with
    | none => rfl
    | some u =>
      rcases e.new a u q with z | z
      · rw [e3] at z; cases z
      · rw [e2] at z; cases z
  | bor l => exact h
  | town => exact h
  | v x => exact h
  | abs φ m => exact m v G G' e.gg h
theorem Rep.go (r : Rep tw G0 H0 G σ H δ) (e : Ext tw G H G' H') : Rep tw G0 H0 G' σ H' δ :=
  ⟨r.ext.trans e, r.len, fun i s h => let ⟨v, e1, e2⟩ := r.sl i s h; ⟨v, e1, e2.go r.ext.tk e⟩, r.own⟩
theorem VR.go {H1 G1 : Hp} {v : V} {s : SV} (h : VR tw H0 H G1 H1 v s) (o : TwOk tw H1) (e : Ext tw G1 H1 G' H') : VR tw H0 H G' H' v s := by
  have key : ∀ {a vs}, H1 a = some (.lst vs) → G1 a = none → H' a = some (.lst vs) ∧ G' a = none := fun {a vs} e2 e3 => by
    refine ⟨e.hh a _ e2 (Ext.nonvol o e2 fun _ z => nomatch z), ?_⟩
    cases q : G' a with
    | none => rfl
    | some u =>
      rcases e.new a u q with z | z
      · rw [e3] at z; cases z
      · rw [e2] at z; cases z
  cases s with
  | d x => exact WD.mono e.gg x v h
  | own l =>
    obtain ⟨a, vs, e1, e2, e3, e4, e5, e6⟩ := h
    obtain ⟨k1, k2⟩ := key e2 e3
    exact ⟨a, vs, e1, k1, k2, e4, WDs.mono e.gg _ _ e5, e6⟩
  | bor l =>
    obtain ⟨a, vs, e1, e2, e3, e4, e5, e6⟩ := h
    obtain ⟨k1, k2⟩ := key e2 e3
    exact ⟨a, vs, e1, k1, k2, e4, WDs.mono e.gg _ _ e5, e6⟩
  | town => exact h
  | v x => exact h
  | abs φ m => exact m v G1 G' e.gg h
theorem FR.go {v : V} {s : SV} (h : FR tw G v s) (e : Same G G') : FR tw G' v s := by
  cases s with
  | d x => exact WD.mono e x v h
  | own l => exact h
  | bor l => exact h
  | town => exact h
  | v x => exact h
  | abs φ m => exact m v G G' e h
/-- an earlier beginning -/
theorem VR.from {H1 G1 G2 H2 : Hp} {v : V} {s : SV} (h : VR tw H0 H1 G2 H2 v s) (e : Ext tw G H G1 H1) : VR tw H0 H G2 H2 v s := by
  cases s with
  | own l =>
    obtain ⟨a, vs, e1, e2, e3, e4, e5, e6⟩ := h
    exact ⟨a, vs, e1, e2, e3, e.free e4, e5, e6⟩
  | d x => exact h
  | bor l => exact h
  | town => exact h
  | v x => exact h
  | abs φ m => exact h
end
/-- a value as it is handed on: a new list is frozen -/
def asF : SV → Option SV
  | .d x => some (.d x)
  | .own l => some (.d (.list l))
  | .bor _ => none
  | .town => some .town
  | .v x => some (.v x)
  | .abs φ m => some (.abs φ m)
def asD : SV → Option PyData
  | .d x => some x
  | .own l => some (.list l)
  | _ => none
/-- items of a list or a tuple, held or not -/
def asL : SV → Option (List PyData)
  | .d (.list l) => some l
  | .own l => some l
  | .bor l => some l
  | _ => none
section
variable {tw : Tw} {G0 H0 G H G' H' : Hp}
theorem VR.froze {v : V} {s s' : SV} (h : VR tw H0 H G' H' v s) (e : Ext tw G H G' H') (a : asF s = some s') : ∃ G2, Ext tw G H G2 H' ∧ Same G' G2 ∧ FR tw G2 v s' := by
  cases s with
  | d x => cases a; exact ⟨G', e, fun _ _ h => h, h⟩
  | own l =>
    cases a
    obtain ⟨a, vs, e1, e2, e3, e4, e5, e6⟩ := h
    subst e1
    exact ⟨_, e.freeze e2 e3 e4, same_freeze e3, .lst upd_same e6 (WDs.mono (same_freeze e3) _ _ e5)⟩
  | bor l => cases a
  | town => cases a; exact ⟨G', e, fun _ _ h => h, h⟩
  | v x => cases a; exact ⟨G', e, fun _ _ h => h, h⟩
  | abs φ m => cases a; exact ⟨G', e, fun _ _ h => h, h⟩
theorem FR.vr {v : V} {s : SV} (h : FR tw G' v s) : VR tw H0 H G' H' v s := by
  cases s with
  | d x => exact h
  | own l => exact h.elim
  | bor l => exact h.elim
  | town => exact h
  | v x => exact h
  | abs φ m => exact h
theorem FR.sr {v : V} {s : SV} (h : FR tw G' v s) : SR tw H0 G' H' v s := by
  cases s with
  | d x => exact h
  | own l => exact h.elim
  | bor l => exact h.elim
  | town => exact h
  | v x => exact h
  | abs φ m => exact h
theorem asF_asD {s : SV} {x : PyData} (h : asD s = some x) : asF s = some (.d x) := by
  cases s with
  | d y => cases h; rfl
  | own l => cases h; rfl
  | bor l => cases h
  | town => cases h
  | v x => cases h
  | abs φ m => cases h
/-- a list, held or not -/
theorem VR.list {v : V} {s : SV} {l : List PyData} (h : VR tw H0 H G' H' v s) (e : Same G' H') (a : asL s = some l) : ∃ a vs, v = .ref a ∧ H' a = some (.lst vs) ∧ WDs G' vs l ∧ l.length ≤ sizeLine := by
  cases s with
  | d x =>
    cases x with
    | list l' =>
      cases a
      cases h with
      | lst h1 h2 h3 => exact ⟨_, _, rfl, e _ _ h1, h3, h2⟩
    | none => cases a
    | bool _ => cases a
    | int _ => cases a
    | str _ => cases a
    | tuple _ => cases a
    | dict _ => cases a
  | own l' =>
    cases a
    obtain ⟨a, vs, e1, e2, _, _, e5, e6⟩ := h
    exact ⟨a, vs, e1, e2, e5, e6⟩
  | bor l' =>
    cases a
    obtain ⟨a, vs, e1, e2, _, _, e5, e6⟩ := h
    exact ⟨a, vs, e1, e2, e5, e6⟩
  | town => cases a
  | v x => cases a
  | abs φ m => cases a
end
end DL
/-! DL 2: readings of expressions over slots that hold data. -/
namespace DL
open PySem PySem.Spec PyProof.Rows L2
abbrev XP := Value → Prop
abbrev DT := Env → (SV → Prop) → XP → Prop
abbrev DB := Env → (Bool → Prop) → XP → Prop
abbrev DA := Env → (List SV → Prop) → XP → Prop
/-- where one stands -/
structure At (tw : Tw) (E : XK) (G0 H0 G : Hp) (σ : L2.St) (H : Hp) (δ : Env) (Ex : XP) : Prop where
  rep : Rep tw G0 H0 G σ H δ
  exc : ∀ c G' H', Ex c → Ext tw G0 H0 G' H' → E c none H'
def lift (E : XK) (t : DT) : TE := fun σ H R => ∃ (tw : Tw) (G0 H0 G : Hp) (δ : Env) (Q : SV → Prop) (Ex : XP), At tw E G0 H0 G σ H δ Ex ∧ t δ Q Ex ∧
  ∀ s v G' H', Q s → VR tw H0 H G' H' v s → Ext tw G H G' H' → R v H'
def liftB (E : XK) (t : DB) : TT := fun σ H R => ∃ (tw : Tw) (G0 H0 G : Hp) (δ : Env) (Q : Bool → Prop) (Ex : XP), At tw E G0 H0 G σ H δ Ex ∧ t δ Q Ex ∧
  ∀ b G' H', Q b → Ext tw G H G' H' → R b H'
def FRs (tw : Tw) (G : Hp) : List V → List SV → Prop
  | [], [] => True
  | v :: vs, s :: ss => FR tw G v s ∧ FRs tw G vs ss
  | _, _ => False
theorem FRs.go {tw : Tw} {G G' : Hp} (e : Same G G') : ∀ {vs : List V} {ss : List SV}, FRs tw G vs ss → FRs tw G' vs ss
  | [], [], _ => trivial
  | _ :: _, _ :: _, h => ⟨h.1.go e, FRs.go e h.2⟩
  | [], _ :: _, h => h.elim
  | _ :: _, [], h => h.elim
theorem FRs.length {tw : Tw} {G : Hp} : ∀ {vs : List V} {ss : List SV}, FRs tw G vs ss → vs.length = ss.length
  | [], [], _ => rfl
  | _ :: _, _ :: _, h => by rw [List.length_cons, List.length_cons, FRs.length h.2]
  | [], _ :: _, h => h.elim
  | _ :: _, [], h => h.elim
/-- arguments, each frozen -/
def liftA (E : XK) (t : DA) : TA := fun σ H R => ∃ (tw : Tw) (G0 H0 G : Hp) (δ : Env) (Q : List SV → Prop) (Ex : XP), At tw E G0 H0 G σ H δ Ex ∧ t δ Q Ex ∧
  ∀ ss vs G' H', Q ss → FRs tw G' vs ss → Ext tw G H G' H' → R vs H'
section
variable {tw : Tw} {E : XK} {G0 H0 G H G' H' : Hp} {σ : L2.St} {δ : Env} {Ex : XP}
theorem At.go (a : At tw E G0 H0 G σ H δ Ex) (e : Ext tw G H G' H') : At tw E G0 H0 G' σ H' δ Ex := ⟨a.rep.go e, a.exc⟩
theorem At.ok (a : At tw E G0 H0 G σ H δ Ex) : Ok tw G H := a.rep.ok
theorem At.self (a : At tw E G0 H0 G σ H δ Ex) : Ext tw G H G H := a.rep.ok.refl
end
/- weaker readings -/
section
variable {X : Cx} {e : Expr}
theorem peW {t t' : TE} (h : PE X e t) (w : ∀ σ H R, t' σ H R → t σ H R) : PE X e t' := ⟨fun p s σ H Q I q => h.run p s σ H Q I (w σ H Q q)⟩
theorem ptW {t t' : TT} (h : PT X e t) (w : ∀ σ H R, t' σ H R → t σ H R) : PT X e t' := ⟨fun p s σ H Q I q => h.run p s σ H Q I (w σ H Q q)⟩
theorem pwW {t t' : TT} (h : PW X e t) (w : ∀ σ H R, t' σ H R → t σ H R) : PW X e t' := ⟨fun b p s σ H Q I q => h.run b p s σ H Q I (w σ H Q q)⟩
theorem paW {es : List Expr} {t t' : TA} (h : PA X es t) (w : ∀ σ H R, t' σ H R → t σ H R) : PA X es t' := ⟨fun b p s σ H Q I q => h.run b p s σ H Q I (w σ H Q q)⟩
end
/-! ### names, constants -/
def vS (s : SV) (Q : SV → Prop) : Prop := match s with
  | .own l => Q (.bor l)
  | s => Q s
theorem vS_d {x : PyData} {Q : SV → Prop} : vS (.d x) Q = Q (.d x) := rfl
theorem vS_own {l : List PyData} {Q : SV → Prop} : vS (.own l) Q = Q (.bor l) := rfl
theorem vS_town {Q : SV → Prop} : vS .town Q = Q .town := rfl
theorem vS_v {x : V} {Q : SV → Prop} : vS (.v x) Q = Q (.v x) := rfl
def dVar (i : Nat) : DT := fun δ Q _ => match δ[i]? with
  | some (some s) => vS s Q
  | _ => False
def dC (s : SV) : DT := fun _ Q _ => Q s
section
variable {X : Cx} {E : XK} {pos : Pos}
theorem de_var {i : Nat} {x : Str} (hN : X.N[i]? = some x := by rfl) (hv : Vis X.env.scope x := by first | exact Or.inl rfl | exact Or.inr (Or.inl rfl) | exact Or.inr (Or.inr rfl))
    (hd : (x == ("__debug__" : Str)) = false := by decide) (hcd : (x == ("__classdict__" : Str)) = false := by decide) : PE X (.Name x pos) (lift E (dVar i)) := by
  refine peW (pe_var (i := i) hN hv hd hcd) ?_
  rintro σ H R ⟨tw, G0, H0, G, δ, Q, Ex, a, h, q⟩
  unfold dVar at h
  cases e : δ[i]? with
  | none => rw [e] at h; exact h.elim
  | some os =>
    cases os with
    | none => rw [e] at h; exact h.elim
    | some s =>
      obtain ⟨v, e1, e2⟩ := a.rep.sl i s e
      refine ⟨v, e1, ?_⟩
      rw [e] at h
      cases s with
      | own l => exact q _ v G H h e2 a.self
      | d x => exact q _ v G H h e2 a.self
      | bor l => exact e2.elim
      | town => exact q _ v G H h e2 a.self
      | v x => exact q _ v G H h e2 a.self
      | abs φ m => exact q _ v G H h e2 a.self
theorem de_c {e : Expr} {v : V} {s : SV} (h : PE X e (tC v)) (r : ∀ tw G, FR tw G v s) : PE X e (lift E (dC s)) := by
  refine peW h ?_
  rintro σ H R ⟨tw, G0, H0, G, δ, Q, Ex, a, h, q⟩
  exact q s v G H h (r tw G).vr a.self
theorem de_int {i : Int} {j} : PE X (.Constant (.int i) j pos) (lift E (dC (.d (.int i)))) := de_c pe_int fun _ _ => .int i
theorem de_bl {b : Bool} {j} : PE X (.Constant (.bool b) j pos) (lift E (dC (.d (.bool b)))) := de_c pe_bl fun _ _ => .bl b
theorem de_non {j} : PE X (.Constant .none j pos) (lift E (dC (.d .none))) := de_c pe_non fun _ _ => .non
theorem de_str {x : Str} {j} : PE X (.Constant (.str x) j pos) (lift E (dC (.d (.str x)))) := de_c pe_str fun _ _ => .str x
/-- a class, a type, a module's constant -/
theorem de_glob {x : Str} {v : V} {u : Value} (hg : Gl X x) (hm : X.mg x = some u) (r : RelV v u) (hd : (x == ("__debug__" : Str)) = false := by decide) : PE X (.Name x pos) (lift E (dC (.v v))) := de_c (pe_glob hg hm r hd) fun _ _ => rfl
theorem de_gint {x : Str} {i : Int} {u : Value} (hg : Gl X x) (hm : X.mg x = some u) (r : RelV (.int i) u) (hd : (x == ("__debug__" : Str)) = false := by decide) : PE X (.Name x pos) (lift E (dC (.d (.int i)))) := de_c (pe_glob hg hm r hd) fun _ _ => .int i
theorem de_bltn {x : Str} {v : V} {u : Value} (hg : Gl X x) (hm : X.mg x = none) (hv : bootBuiltins x = some u) (r : RelV v u) (hn : x ≠ "__name__" := by decide) (hd : (x == ("__debug__" : Str)) = false := by decide) : PE X (.Name x pos) (lift E (dC (.v v))) := de_c (pe_bltn hg hm hv r hn hd) fun _ _ => rfl
end
/-! ### operators by values -/
abbrev W2 := SV → SV → (SV → Prop) → Prop
/-- what a rule of two values gives -/
structure OpD (X : Cx) (f : Value → Value → Sem Value) (op : W2) : Prop where
  ex : ∃ r : R2, OpR X f r ∧ ∀ (tw : Tw) (H0 H G1 H1 : Hp) (x y : SV) (vx vy : V) (Q : SV → Prop) (R : VK), VR tw H0 H G1 H1 vx x → VR tw H0 H G1 H1 vy y → Ok tw G1 H1 → op x y Q →
    (∀ s v G2 H2, Q s → VR tw H0 H1 G2 H2 v s → Ext tw G1 H1 G2 H2 → R v H2) → r vx vy H1 R
theorem OpD.or {X : Cx} {f : Value → Value → Sem Value} {op op' : W2} (h : OpD X f op) (h' : OpD X f op') : OpD X f (fun x y Q => op x y Q ∨ op' x y Q) := by
  obtain ⟨r, o, k⟩ := h.ex
  obtain ⟨r', o', k'⟩ := h'.ex
  refine ⟨_, o.or o', fun tw H0 H G1 H1 x y vx vy Q R hx hy ok hq c => ?_⟩
  rcases hq with hq | hq
  · exact .inl (k tw H0 H G1 H1 x y vx vy Q R hx hy ok hq c)
  · exact .inr (k' tw H0 H G1 H1 x y vx vy Q R hx hy ok hq c)
theorem OpD.imp {X : Cx} {f : Value → Value → Sem Value} {op op' : W2} (h : OpD X f op) (w : ∀ x y Q, op' x y Q → op x y Q) : OpD X f op' := by
  obtain ⟨r, o, k⟩ := h.ex
  exact ⟨r, o, fun tw H0 H G1 H1 x y vx vy Q R hx hy ok hq c => k tw H0 H G1 H1 x y vx vy Q R hx hy ok (w x y Q hq) c⟩
def dOp (op : W2) (ta tb : DT) : DT := fun δ Q Ex => ta δ (fun x => tb δ (fun y => op x y Q) Ex) Ex
theorem lift_two {E : XK} {ta tb : DT} {op : W2} {r : R2} (k : ∀ (tw : Tw) (H0 H G1 H1 : Hp) (x y : SV) (vx vy : V) (Q : SV → Prop) (R : VK), VR tw H0 H G1 H1 vx x → VR tw H0 H G1 H1 vy y → Ok tw G1 H1 → op x y Q →
    (∀ s v G2 H2, Q s → VR tw H0 H1 G2 H2 v s → Ext tw G1 H1 G2 H2 → R v H2) → r vx vy H1 R) : ∀ σ H R, lift E (dOp op ta tb) σ H R → tOp r (lift E ta) (lift E tb) σ H R := by
  rintro σ H R ⟨tw, G0, H0, G, δ, Q, Ex, a, h, q⟩
  refine ⟨tw, G0, H0, G, δ, _, Ex, a, h, fun x vx G1 H1 hx rx e1 => ?_⟩
  refine ⟨tw, G0, H0, G1, δ, _, Ex, a.go e1, hx, fun y vy G2 H2 hy ry e2 => ?_⟩
  exact k tw H0 H G2 H2 x y vx vy Q R (rx.go e1.tk e2) (ry.from e1) e2.ok hy fun s v G3 H3 hs rs e3 => q s v G3 H3 hs (rs.from (e1.trans e2)) ((e1.trans e2).trans e3)
section
variable {X : Cx} {E : XK} {a b c : Expr} {ta tb tc : DT} {pos : Pos}
theorem de_op {o : Operator} {op : W2} (ho : OpD X (binaryOp o) op) (ha : PE X a (lift E ta)) (hb : PE X b (lift E tb)) : PE X (.BinOp a o b pos) (lift E (dOp op ta tb)) := by
  obtain ⟨r, or_, k⟩ := ho.ex
  exact peW (pe_op or_ ha hb) (lift_two k)
theorem de_cmp {o : CmpOp} {op : W2} (ho : OpD X (compareOp o) op) (ha : PE X a (lift E ta)) (hb : PE X b (lift E tb)) (hm : behindInMarks o b = false := by first | exact nomark _ | rfl) : PE X (.Compare a [o] [b] pos) (lift E (dOp op ta tb)) := by
  obtain ⟨r, or_, k⟩ := ho.ex
  exact peW (pe_cmpR or_ ha hb hm) (lift_two k)
end
/-! ### the operators -/
section
variable {X : Cx}
def wInt2 (g : Int → Int → PyData) : W2 := fun x y Q => match x, y with
  | .d (.int i), .d (.int j) => Q (.d (g i j))
  | _, _ => False
theorem VR.int {tw : Tw} {H0 H G1 H1 : Hp} {v : V} {i : Int} (h : VR tw H0 H G1 H1 v (.d (.int i))) : v = .int i := by
  have h' : WD G1 v (.int i) := h
  cases h'
  rfl
theorem od_int {f : Value → Value → Sem Value} {g : Int → Int → V} {gd : Int → Int → PyData} (h : OpR X f (rI0 g)) (k : ∀ G i j, WD G (g i j) (gd i j)) : OpD X f (wInt2 gd) := by
  refine ⟨_, h, fun tw H0 H G1 H1 x y vx vy Q R hx hy ok hq c => ?_⟩
  unfold wInt2 at hq
  split at hq
  · rename_i i j
    exact ⟨i, j, VR.int hx, VR.int hy, c _ _ G1 H1 hq (k G1 i j) ok.refl⟩
  · exact hq.elim
theorem od_lt : OpD X (compareOp .Lt) (wInt2 fun i j => .bool (decide (i < j))) := od_int op_lt fun _ _ _ => .bl _
theorem od_le : OpD X (compareOp .LtE) (wInt2 fun i j => .bool (decide (i ≤ j))) := od_int op_le fun _ _ _ => .bl _
theorem od_gt : OpD X (compareOp .Gt) (wInt2 fun i j => .bool (decide (j < i))) := od_int op_gt fun _ _ _ => .bl _
theorem od_ge : OpD X (compareOp .GtE) (wInt2 fun i j => .bool (decide (j ≤ i))) := od_int op_ge fun _ _ _ => .bl _
theorem od_sub : OpD X (binaryOp .Sub) (wInt2 fun i j => .int (i - j)) := od_int op_sub fun _ _ _ => .int _
/-- + : ints, texts, tuples, lists -/
def wAdd : W2 := fun x y Q => match x, y with
  | .d (.int i), .d (.int j) => Q (.d (.int (i + j)))
  | .d (.str i), .d (.str j) => i.length + j.length ≤ sizeLine ∧ Q (.d (.str (i ++ j)))
  | .d (.tuple xs), .d (.tuple ys) => xs.length + ys.length ≤ sizeLine ∧ Q (.d (.tuple (xs ++ ys)))
  | x, y => ∃ xs ys, asL x = some xs ∧ asL y = some ys ∧ xs.length + ys.length ≤ sizeLine ∧ Q (.own (xs ++ ys))
theorem VR.tup {tw : Tw} {H0 H G1 H1 : Hp} {v : V} {ds : List PyData} (h : VR tw H0 H G1 H1 v (.d (.tuple ds))) : ∃ a vs, v = .ref a ∧ G1 a = some (.tup vs) ∧ WDs G1 vs ds ∧ ds.length ≤ sizeLine := by
  have h' : WD G1 v (.tuple ds) := h
  cases h' with
  | tup h1 h2 h3 => exact ⟨_, _, rfl, h1, h3, h2⟩
theorem VR.str {tw : Tw} {H0 H G1 H1 : Hp} {v : V} {i : Str} (h : VR tw H0 H G1 H1 v (.d (.str i))) : v = .str i := by
  have h' : WD G1 v (.str i) := h
  cases h'
  rfl
theorem put_tup {tw : Tw} {G H : Hp} {p : Addr} {vs : List V} {ds : List PyData} (k : Ok tw G H) (hp : H p = none) (w : WDs G vs ds) (hz : ds.length ≤ sizeLine) : Ext tw G H (upd G p (.tup vs)) (upd H p (.tup vs)) ∧ WD (upd G p (.tup vs)) (.ref p) (.tuple ds) := by
  have e := k.put (o := .tup vs) hp
  exact ⟨e, .tup upd_same hz (WDs.mono e.gg _ _ w)⟩
theorem put_own {tw : Tw} {H0 G H : Hp} {p : Addr} {vs : List V} {ds : List PyData} (k : Ok tw G H) (hp : H p = none) (w : WDs G vs ds) (hz : ds.length ≤ sizeLine) : Ext tw G H G (upd H p (.lst vs)) ∧ VR tw H0 H G (upd H p (.lst vs)) (.ref p) (.own ds) := by
  refine ⟨k.putH hp, p, vs, rfl, upd_same, ?_, hp, w, hz⟩
  cases q : G p with
  | none => rfl
  | some u =>
    rw [k.gh p u q] at hp
    cases hp
theorem od_add : OpD X (binaryOp .Add) wAdd := by
  refine ⟨_, ((op_add.or op_add_str).or op_catA).or op_cat, fun tw H0 H G1 H1 x y vx vy Q R hx hy ok hq c => ?_⟩
  unfold wAdd at hq
  split at hq
  · rename_i i j
    exact .inl (.inl (.inl ⟨i, j, hx.int, hy.int, c _ _ G1 H1 hq (WD.int _) ok.refl⟩))
  · rename_i i j
    exact .inl (.inl (.inr ⟨i, j, hx.str, hy.str, hq.1, c _ _ G1 H1 hq.2 (WD.str _) ok.refl⟩))
  · rename_i xs ys
    obtain ⟨a, vs, rfl, e1, w1, z1⟩ := hx.tup
    obtain ⟨b, us, rfl, e2, w2, zz2⟩ := hy.tup
    have l1 := w1.length
    have l2 := w2.length
    refine .inl (.inr ⟨a, b, vs, us, rfl, rfl, .of (ok.gh _ _ e1), .of (ok.gh _ _ e2), by rw [l1, l2]; exact hq.1, fun z => ?_, fun z z2 => ?_, fun z z2 p hp => ?_⟩)
    · have z' : xs = [] := by rw [z] at l1; exact List.eq_nil_of_length_eq_zero l1.symm
      subst z'
      exact c _ _ G1 H1 hq.2 (WD.tup e2 zz2 w2) ok.refl
    · have z' : ys = [] := by rw [z2] at l2; exact List.eq_nil_of_length_eq_zero l2.symm
      subst z'
      refine c _ _ G1 H1 hq.2 (WD.tup e1 ?_ ?_) ok.refl
      · rw [List.append_nil]; exact z1
      · rw [List.append_nil]; exact w1
    · obtain ⟨e, w⟩ := put_tup ok hp (w1.append w2) (by rw [List.length_append]; exact hq.1)
      exact c _ _ _ _ hq.2 w e
  · obtain ⟨xs, ys, a1, a2, hz, hq⟩ := hq
    obtain ⟨a, vs, rfl, e1, w1, z1⟩ := hx.list ok.gh a1
    obtain ⟨b, us, rfl, e2, w2, z2⟩ := hy.list ok.gh a2
    refine .inr ⟨a, b, vs, us, rfl, rfl, e1, e2, by rw [w1.length, w2.length]; exact hz, fun p hp => ?_⟩
    obtain ⟨e, w⟩ := put_own (H0 := H0) ok hp (w1.append w2) (by rw [List.length_append]; exact hz)
    exact c _ _ _ _ hq w e
/-- == of data -/
def wEqD (g : Bool → Bool) : W2 := fun x y Q => ∃ dx dy, (asD x = some dx ∨ ∃ l, x = .bor l ∧ dx = .list l) ∧ (asD y = some dy ∨ ∃ l, y = .bor l ∧ dy = .list l) ∧ SeqAt.shaped dx = true ∧ SeqAt.shaped dy = true ∧ Q (.d (.bool (g (PyData.eqv dx dy))))
theorem VR.dp {K : PySem.W.Frag} {tw : Tw} {H0 H G1 H1 : Hp} {v : V} {s : SV} {dx : PyData} (h : VR tw H0 H G1 H1 v s) (e : Same G1 H1) (a : asD s = some dx ∨ ∃ l, s = .bor l ∧ dx = .list l) : Dp K H1 v dx := by
  rcases a with a | ⟨l, rfl, rfl⟩
  · cases s with
    | d x => cases a; exact WD.dp e _ _ h
    | own l =>
      cases a
      obtain ⟨a, vs, rfl, e2, _, _, e5, _⟩ := h
      exact .lst (.of e2) (WDs.dp e _ _ e5)
    | bor l => cases a
    | town => cases a
    | v x => cases a
    | abs φ m => cases a
  · obtain ⟨a, vs, rfl, e2, _, _, e5, _⟩ := h
    exact .lst (.of e2) (WDs.dp e _ _ e5)
theorem od_eq (hu : X.A.units + 64 < cLine) : OpD X (compareOp .Eq) (wEqD fun b => b) := by
  refine ⟨_, op_eqD hu, fun tw H0 H G1 H1 x y vx vy Q R hx hy ok hq c => ?_⟩
  obtain ⟨dx, dy, ax, ay, s1, s2, hq⟩ := hq
  exact ⟨dx, dy, hx.dp ok.gh ax, hy.dp ok.gh ay, s1, s2, c _ _ G1 H1 hq (WD.bl _) ok.refl⟩
theorem od_ne (hu : X.A.units + 64 < cLine) : OpD X (compareOp .NotEq) (wEqD fun b => !b) := by
  refine ⟨_, op_neD hu, fun tw H0 H G1 H1 x y vx vy Q R hx hy ok hq c => ?_⟩
  obtain ⟨dx, dy, ax, ay, s1, s2, hq⟩ := hq
  exact ⟨dx, dy, hx.dp ok.gh ax, hy.dp ok.gh ay, s1, s2, c _ _ G1 H1 hq (WD.bl _) ok.refl⟩
/-- is None -/
def isN : PyData → Bool
  | .none => true
  | _ => false
def wIsN (g : Bool → Bool) : W2 := fun x y Q => y = .d .none ∧ ((∃ d, x = .d d ∧ Q (.d (.bool (g (isN d))))))
theorem WD.isnone {G : Hp} {v : V} {d : PyData} (h : WD G v d) : decide (v = .non) = isN d := by
  cases h <;> rfl
theorem od_isN : OpD X (compareOp .Is) (wIsN fun b => b) := by
  refine ⟨_, op_isN, fun tw H0 H G1 H1 x y vx vy Q R hx hy ok hq c => ?_⟩
  obtain ⟨rfl, d, rfl, hq⟩ := hq
  have hy' : WD G1 vy .none := hy
  cases hy'
  refine ⟨rfl, c _ _ G1 H1 hq ?_ ok.refl⟩
  rw [WD.isnone hx]
  exact WD.bl _
theorem od_notN : OpD X (compareOp .IsNot) (wIsN fun b => !b) := by
  refine ⟨_, op_notN, fun tw H0 H G1 H1 x y vx vy Q R hx hy ok hq c => ?_⟩
  obtain ⟨rfl, d, rfl, hq⟩ := hq
  have hy' : WD G1 vy .none := hy
  cases hy'
  refine ⟨rfl, c _ _ G1 H1 hq ?_ ok.refl⟩
  rw [WD.isnone hx]
  exact WD.bl _
end
end DL
/-! DL 3: more operators, places, slices, displays, tests. -/
namespace DL
open PySem PySem.Spec PyProof.Rows L2
/-! ### in, not in -/
def wIn (g : Bool → Bool) : W2 := fun x y Q => ∃ dx ys, asD x = some dx ∧ (asL y = some ys ∨ y = .d (.tuple ys)) ∧ SeqAt.shaped dx = true ∧ PyData.canLayAll0 ys = true ∧ Q (.d (.bool (g (ys.any fun z => PyData.eqv z dx))))
section
variable {X : Cx}
theorem room_in {A : Around} {n : Nat} {d : PyData} (h : SeqAt.shaped d = true) (hu : A.units + 65 < cLine) : A.units + 1 + min n d.depth < cLine := by
  have h1 := SeqAt.depth_of_shaped h
  have h2 : min n d.depth ≤ d.depth := Nat.min_le_right _ _
  omega
def rInB (K : PySem.W.Frag) (g : Bool → Bool) : R2 := fun x y H Q => ∃ d ds, Dp K H x d ∧ (Dp K H y (.list ds) ∨ Dp K H y (.tuple ds)) ∧ SeqAt.shaped d = true ∧ PyData.canLayAll0 ds = true ∧ Q (.bl (g (ds.any fun z => PyData.eqv z d))) H
theorem op_inB (hu : X.A.units + 65 < cLine) : OpR X (compareOp .In) (rInB X.K fun b => b) := by
  intro pins s σ H x y v u Q I rx ry h
  obtain ⟨d, ds, hd, he, sd, se, q⟩ := h
  obtain ⟨as, r1⟩ := Dp.reads I d x v hd rx
  rcases he with he | he
  · obtain ⟨bs, r2⟩ := Dp.reads I (.list ds) y u he ry
    exact SeqAt.in_list_reads r2 r1 se (SeqAt.canLay_of_shaped sd) (room_in sd hu) ⟨.bl _, H, I, rfl, q⟩
  · obtain ⟨bs, r2⟩ := Dp.reads I (.tuple ds) y u he ry
    exact SeqAt.in_tuple_reads r2 r1 se (SeqAt.canLay_of_shaped sd) (room_in sd hu) ⟨.bl _, H, I, rfl, q⟩
theorem op_notInB (hu : X.A.units + 65 < cLine) : OpR X (compareOp .NotIn) (rInB X.K fun b => !b) := by
  intro pins s σ H x y v u Q I rx ry h
  obtain ⟨d, ds, hd, he, sd, se, q⟩ := h
  obtain ⟨as, r1⟩ := Dp.reads I d x v hd rx
  rcases he with he | he
  · obtain ⟨bs, r2⟩ := Dp.reads I (.list ds) y u he ry
    exact SeqAt.notIn_list_reads r2 r1 se (SeqAt.canLay_of_shaped sd) (room_in sd hu) ⟨.bl _, H, I, rfl, q⟩
  · obtain ⟨bs, r2⟩ := Dp.reads I (.tuple ds) y u he ry
    exact SeqAt.notIn_tuple_reads r2 r1 se (SeqAt.canLay_of_shaped sd) (room_in sd hu) ⟨.bl _, H, I, rfl, q⟩
theorem VR.seqDp {K : PySem.W.Frag} {tw : Tw} {H0 H G1 H1 : Hp} {v : V} {s : SV} {ys : List PyData} (h : VR tw H0 H G1 H1 v s) (e : Same G1 H1) (a : asL s = some ys ∨ s = .d (.tuple ys)) : Dp K H1 v (.list ys) ∨ Dp K H1 v (.tuple ys) := by
  rcases a with a | rfl
  · obtain ⟨p, vs, rfl, e1, w, _⟩ := h.list e a
    exact .inl (.lst (.of e1) (WDs.dp e _ _ w))
  · exact .inr (WD.dp e _ _ h)
theorem od_in (hu : X.A.units + 65 < cLine) : OpD X (compareOp .In) (wIn fun b => b) := by
  refine ⟨_, op_inB hu, fun tw H0 H G1 H1 x y vx vy Q R hx hy ok hq c => ?_⟩
  obtain ⟨dx, ys, ax, ay, s1, s2, hq⟩ := hq
  exact ⟨dx, ys, hx.dp ok.gh (.inl ax), hy.seqDp ok.gh ay, s1, s2, c _ _ G1 H1 hq (WD.bl _) ok.refl⟩
theorem od_notIn (hu : X.A.units + 65 < cLine) : OpD X (compareOp .NotIn) (wIn fun b => !b) := by
  refine ⟨_, op_notInB hu, fun tw H0 H G1 H1 x y vx vy Q R hx hy ok hq c => ?_⟩
  obtain ⟨dx, ys, ax, ay, s1, s2, hq⟩ := hq
  exact ⟨dx, ys, hx.dp ok.gh (.inl ax), hy.seqDp ok.gh ay, s1, s2, c _ _ G1 H1 hq (WD.bl _) ok.refl⟩
/-! ### arithmetic with bounds -/
def wIntC (C : Int → Int → Prop) (g : Int → Int → Int) : W2 := fun x y Q => ∃ i j, x = .d (.int i) ∧ y = .d (.int j) ∧ C i j ∧ Q (.d (.int (g i j)))
theorem od_intC {f : Value → Value → Sem Value} {C : Int → Int → Prop} {g : Int → Int → Int} (h : OpR X f (rI C fun i j => .int (g i j))) : OpD X f (wIntC C g) := by
  refine ⟨_, h, fun tw H0 H G1 H1 x y vx vy Q R hx hy ok hq c => ?_⟩
  obtain ⟨i, j, rfl, rfl, hc, hq⟩ := hq
  exact ⟨i, j, hx.int, hy.int, hc, c _ _ G1 H1 hq (WD.int _) ok.refl⟩
theorem od_mod : OpD X (binaryOp .Mod) (wIntC (fun _ j => 0 < j) fun i j => i % j) := od_intC op_mod
theorem od_fdiv : OpD X (binaryOp .FloorDiv) (wIntC CDiv fun i j => i / j) := od_intC op_fdiv
theorem od_pow : OpD X (binaryOp .Pow) (wIntC CPow fun i j => i ^ j.toNat) := od_intC op_pow
end
/-! ### tuple times 0, 1 -/
section
variable {X : Cx}
theorem tuple_mul_one (l : Addr) (items : Array Value) (n : Nat) (dd : Option Addr) (sl : Array (Option Value)) (u : Tok) :
    Meets (Builtin.«tuple.__mul__» ⟨[.ref l, .int 1 u], []⟩) (fun _ R s => s.heap.get? l = some { cls := .type "tuple", dict := dd, data := .seq items n, slots := sl } ∧ R (.ok (.ret (.ref l))) s) :=
  .of_wp fun prog w A R s h => by
    obtain ⟨hp, g, d, tk, os⟩ := s
    obtain ⟨hl, h⟩ := h
    have f1 := AutoSeq1.idx_int
    have b1 : (items.isEmpty || (1 : Int) == 1) = true := by simp
    wp_walk using wpAny_loadPart' hl
    repeat (first
      | (refine wpAny_ite_true (decide_eq_true b1) ?_; wp_walk using wpAny_loadPart' hl)
      | (refine wpAny_ite_false (by decide) ?_; wp_walk using wpAny_loadPart' hl))
    exact ⟨_, rfl, h⟩
theorem tuple_mul_zero (l : Addr) (items : Array Value) (n : Nat) (dd : Option Addr) (sl : Array (Option Value)) (u : Tok) (hne : items.isEmpty = false) :
    Meets (Builtin.«tuple.__mul__» ⟨[.ref l, .int 0 u], []⟩) (fun _ R s => s.heap.get? l = some { cls := .type "tuple", dict := dd, data := .seq items n, slots := sl } ∧
      R (.ok (.ret (Value.ref s.heap.objs.size))) { s with heap := s.heap.push { cls := Value.type "tuple", data := Data.seq #[] }, toks := s.toks }) :=
  .of_wp fun prog w A R s h => by
    obtain ⟨hp, g, d, tk, os⟩ := s
    obtain ⟨hl, h⟩ := h
    have f1 := AutoSeq1.idx_int
    have b1 : (items.isEmpty || (0 : Int) == 1) = false := by simp [hne]
    have b2 : (decide ((0 : Int) ≤ 0) || items.isEmpty) = true := by simp
    wp_walk using wpAny_loadPart' hl
    repeat (first
      | (refine wpAny_ite_true (decide_eq_true b2) ?_; wp_walk using wpAny_loadPart' hl)
      | (refine wpAny_ite_false (decide_eq_false (by rw [b1]; exact Bool.false_ne_true)) ?_; wp_walk using wpAny_loadPart' hl)
      | (refine wpAny_ite_false (by decide) ?_; wp_walk using wpAny_loadPart' hl))
    exact ⟨_, rfl, h⟩
/-- t * 1 -/
def rRep1 (K : PySem.W.Frag) : R2 := fun x y H Q => ∃ l xs, x = .ref l ∧ y = .int 1 ∧ SqT K H l xs ∧ Q (.ref l) H
theorem op_rep1 : OpR X (binaryOp .Mult) (rRep1 X.K) := by
  intro pins s σ H x y v u Q I rx ry h
  obtain ⟨l, xs, rfl, rfl, hT, q⟩ := h
  cases rx
  obtain ⟨t, rfl⟩ := ry
  obtain ⟨its, r, ⟨⟨cls, dd, data, sl⟩, ho, hc, n, hd⟩, hs⟩ := I.tuple hT
  simp only at hc hd
  subst hc hd
  exact wpAny_binaryOp_repeat_ref (T := "tuple") (U := "int") (by decide) ⟨_, ho, rfl⟩ (fun s' => typeIs_int s' 1 t) noFill_tuple_mul F.fills_int_mul F.slot_int_rmul repeat_tuple F.slot_int_index.lookup
    (call_meets F.slot_int_rmul (typeIs_int s 1 t) F.entry_int_rmul (F.args_int_rmul_2 _ _) (int_rmul_tuple 1 t l its.toArray n dd sl)
      ⟨ho, rfl, ⟨_, ho, rfl⟩, call_meets F.slot_tuple_mul ⟨_, ho, rfl⟩ F.entry_tuple_mul (F.args_tuple_mul_2 _ _) (tuple_mul_one l its.toArray n dd sl t) ⟨ho, .ref l, H, I, rfl, q⟩⟩)
/-- t * 0 -/
def rRep0 (K : PySem.W.Frag) : R2 := fun x y H Q => ∃ l xs, x = .ref l ∧ y = .int 0 ∧ SqT K H l xs ∧ xs ≠ [] ∧ ∀ p, H p = none → Q (.ref p) (upd H p (.tup []))
theorem op_rep0 : OpR X (binaryOp .Mult) (rRep0 X.K) := by
  intro pins s σ H x y v u Q I rx ry h
  obtain ⟨l, xs, rfl, rfl, hT, hne, q⟩ := h
  cases rx
  obtain ⟨t, rfl⟩ := ry
  obtain ⟨its, r, ⟨⟨cls, dd, data, sl⟩, ho, hc, n, hd⟩, hs⟩ := I.tuple hT
  simp only at hc hd
  subst hc hd
  have hi : its.toArray.isEmpty = false := by
    cases its with
    | nil =>
      cases r
      exact absurd rfl hne
    | cons a b => rfl
  refine wpAny_binaryOp_repeat_ref (T := "tuple") (U := "int") (by decide) ⟨_, ho, rfl⟩ (fun s' => typeIs_int s' 0 t) noFill_tuple_mul F.fills_int_mul F.slot_int_rmul repeat_tuple F.slot_int_index.lookup
    (call_meets F.slot_int_rmul (typeIs_int s 0 t) F.entry_int_rmul (F.args_int_rmul_2 _ _) (int_rmul_tuple 0 t l its.toArray n dd sl)
      ⟨ho, rfl, ⟨_, ho, rfl⟩, call_meets F.slot_tuple_mul ⟨_, ho, rfl⟩ F.entry_tuple_mul (F.args_tuple_mul_2 _ _) (tuple_mul_zero l its.toArray n dd sl t hi) ⟨ho, ?_⟩⟩)
  refine ⟨.ref s.heap.objs.size, _, I.laid (t' := s.toks) (o := .tup []) (fun b ob q => Heap.get?_push_of_some _ q) (Nat.le_refl _) ?_, rfl, q _ (I.hok.fresh (Nat.le_refl _))⟩
  exact ⟨Nat.zero_le _, [], .nil, IsTup.new _ _⟩
/-- * : ints, a tuple times, a list times -/
def wMul : W2 := fun x y Q => match x, y with
  | .d (.int i), .d (.int j) => CMul i j ∧ Q (.d (.int (i * j)))
  | .d (.tuple xs), .d (.int k) => xs ≠ [] ∧ 0 ≤ k ∧ k ≤ 1000 ∧ xs.length ≤ 1000 ∧ Q (.d (.tuple (List.replicate k.toNat xs).flatten))
  | x, .d (.int k) => ∃ xs, asL x = some xs ∧ 0 ≤ k ∧ k ≤ 1000 ∧ xs.length ≤ 1000 ∧ Q (.own (List.replicate k.toNat xs).flatten)
  | _, _ => False
theorem flat_len {α : Type} (xs : List α) (k : Nat) : (List.replicate k xs).flatten.length = k * xs.length := by
  induction k with
  | zero => simp
  | succ k ih => rw [List.replicate_succ, List.flatten_cons, List.length_append, ih, Nat.succ_mul, Nat.add_comm]
theorem flat_small {α : Type} {xs : List α} {k : Nat} (h1 : k ≤ 1000) (h2 : xs.length ≤ 1000) : (List.replicate k xs).flatten.length ≤ sizeLine := by
  rw [flat_len, sizeLine_eq]
  have a1 : k * xs.length ≤ 1000 * 1000 := Nat.mul_le_mul h1 h2
  omega
theorem od_mul : OpD X (binaryOp .Mult) wMul := by
  refine ⟨_, (((op_mul.or op_rep1).or op_rep0).or op_repT).or op_rep, fun tw H0 H G1 H1 x y vx vy Q R hx hy ok hq c => ?_⟩
  unfold wMul at hq
  split at hq
  · rename_i i j
    exact .inl (.inl (.inl (.inl ⟨i, j, hx.int, hy.int, hq.1, c _ _ G1 H1 hq.2 (WD.int _) ok.refl⟩)))
  · rename_i xs k
    obtain ⟨hne, h0, h1, h2, hq⟩ := hq
    obtain ⟨a, vs, rfl, e1, w1, z1⟩ := hx.tup
    have l1 := w1.length
    have ek := hy.int
    subst ek
    by_cases c1 : k = 1
    · subst c1
      refine .inl (.inl (.inl (.inr ⟨a, vs, rfl, rfl, .of (ok.gh _ _ e1), c _ _ G1 H1 hq ?_ ok.refl⟩)))
      have z : (List.replicate (Int.toNat 1) xs).flatten = xs := by simp
      rw [z]
      exact WD.tup e1 z1 w1
    · have hvne : vs ≠ [] := fun z => by
        rw [z] at l1
        exact hne (List.eq_nil_of_length_eq_zero l1.symm)
      by_cases c0 : k = 0
      · subst c0
        refine .inl (.inl (.inr ⟨a, vs, rfl, rfl, .of (ok.gh _ _ e1), hvne, fun p hp => ?_⟩))
        obtain ⟨e, w⟩ := put_tup (vs := []) (ds := []) ok hp .nil (Nat.zero_le _)
        exact c _ _ _ _ hq w e
      · refine .inl (.inr ⟨a, k, vs, rfl, rfl, .of (ok.gh _ _ e1), hvne, by omega, h1, by omega, fun p hp => ?_⟩)
        obtain ⟨e, w⟩ := put_tup ok hp (w1.flat k.toNat) (flat_small (by omega) h2)
        exact c _ _ _ _ hq w e
  · obtain ⟨xs, a1, h0, h1, h2, hq⟩ := hq
    obtain ⟨a, vs, rfl, e1, w1, z1⟩ := hx.list ok.gh a1
    have ek := hy.int
    subst ek
    refine .inr ⟨a, _, vs, rfl, rfl, e1, by omega, by omega, ?_, fun p hp => ?_⟩
    · have l1 := w1.length
      rw [sizeLine_eq, l1, Nat.mul_comm]
      have a1 : Int.toNat ‹Int› * xs.length ≤ 1000 * 1000 := Nat.mul_le_mul (by omega) h2
      omega
    · exact c _ _ _ _ hq (put_own (H0 := H0) ok hp (w1.flat _) (flat_small (by omega) h2)).2 (put_own (H0 := H0) ok hp (w1.flat _) (flat_small (by omega) h2)).1
  · exact hq.elim
end
end DL
/-! DL 4: places, slices, displays, arguments, calls, tests. -/
namespace DL
open PySem PySem.Spec PyProof.Rows L2
/-! ### places -/
def wIx : W2 := fun x y Q => ∃ ds i d, (asL x = some ds ∨ x = .d (.tuple ds)) ∧ y = .d (.int i) ∧ atI ds i = some d ∧ Q (.d d)
theorem WDs.atI {G : Hp} {ds : List PyData} {vs : List V} {i : Int} {d : PyData} (h : WDs G vs ds) (e : L2.atI ds i = some d) : ∃ v, L2.atI vs i = some v ∧ WD G v d := by
  unfold L2.atI at e ⊢
  rw [h.length]
  cases q : ixN ds.length i with
  | none => rw [q] at e; cases e
  | some j =>
    rw [q] at e
    exact h.get e
section
variable {X : Cx} {E : XK} {a b c : Expr} {ta tb tc : DT} {pos : Pos}
theorem de_ix (ha : PE X a (lift E ta)) (hb : PE X b (lift E tb)) (hs : PlainIx b) : PE X (.Subscript a b pos) (lift E (dOp wIx ta tb)) := by
  refine peW (pe_ix (ix_list.or ix_tup) ha hb hs) (lift_two fun tw H0 H G1 H1 x y vx vy Q R hx hy ok hq k => ?_)
  obtain ⟨ds, i, d, ax, rfl, at_, hq⟩ := hq
  have ey := hy.int
  subst ey
  rcases ax with ax | rfl
  · obtain ⟨p, vs, rfl, e1, w, z⟩ := hx.list ok.gh ax
    obtain ⟨v, e2, wv⟩ := w.atI at_
    exact .inl ⟨p, vs, i, v, rfl, rfl, .of e1, e2, k _ _ G1 H1 hq wv ok.refl⟩
  · obtain ⟨p, vs, rfl, e1, w, z⟩ := hx.tup
    obtain ⟨v, e2, wv⟩ := w.atI at_
    exact .inr ⟨p, vs, i, v, rfl, rfl, .of (ok.gh _ _ e1), e2, k _ _ G1 H1 hq wv ok.refl⟩
/-! ### slices -/
abbrev DO := Env → (Option Int → Prop) → XP → Prop
def liftO (E : XK) (t : DO) : TO := fun σ H R => ∃ (tw : Tw) (G0 H0 G : Hp) (δ : Env) (Q : Option Int → Prop) (Ex : XP), At tw E G0 H0 G σ H δ Ex ∧ t δ Q Ex ∧
  ∀ b G' H', Q b → Ext tw G H G' H' → R b H'
theorem poW {e : Option Expr} {t t' : TO} (h : PO X e t) (w : ∀ σ H R, t' σ H R → t σ H R) : PO X e t' := ⟨fun p s σ H Q I q => h.run p s σ H Q I (w σ H Q q)⟩
def doNone : DO := fun _ Q _ => Q none
def doSome (t : DT) : DO := fun δ Q Ex => t δ (fun s => ∃ i, s = .d (.int i) ∧ Q (some i)) Ex
theorem do_none : PO X none (liftO E doNone) := by
  refine poW po_none ?_
  rintro σ H R ⟨tw, G0, H0, G, δ, Q, Ex, a, h, q⟩
  exact q none G H h a.self
theorem do_some (h : PE X a (lift E ta)) : PO X (some a) (liftO E (doSome ta)) := by
  refine poW (po_some h) ?_
  rintro σ H R ⟨tw, G0, H0, G, δ, Q, Ex, a, h, q⟩
  refine ⟨tw, G0, H0, G, δ, _, Ex, a, h, fun s v G1 H1 ⟨i, es, hq⟩ r e => ?_⟩
  subst es
  exact ⟨i, r.int, q _ G1 H1 hq e⟩
/-- the items of a slice -/
def cut (xs : List PyData) (lo hi : Option Int) : List PyData := (xs.drop (HT.sIx xs.length 0 lo)).take (HT.sIx xs.length xs.length hi - HT.sIx xs.length 0 lo)
theorem WDs.cut {G : Hp} {ds : List PyData} {vs : List V} (h : WDs G vs ds) (lo hi : Option Int) : WDs G (cutV vs lo hi) (cut ds lo hi) := by
  unfold cutV DL.cut
  rw [h.length]
  exact WDs.take _ (WDs.drop _ h)
theorem cut_len (ds : List PyData) (lo hi : Option Int) : (cut ds lo hi).length ≤ ds.length := by
  unfold cut
  rw [List.length_take, List.length_drop]
  omega
theorem cut_whole {ds : List PyData} {lo hi : Option Int} (h : HT.sIx ds.length 0 lo = 0 ∧ HT.sIx ds.length ds.length hi = ds.length) : cut ds lo hi = ds := by
  unfold cut
  rw [h.1, h.2]
  simp
def dSl (te : DT) (tl th : DO) : DT := fun δ Q Ex => te δ (fun x => tl δ (fun lo => th δ (fun hi => match x with
  | .d (.tuple ds) => Q (.d (.tuple (cut ds lo hi)))
  | x => ∃ ds, asL x = some ds ∧ Q (.own (cut ds lo hi))) Ex) Ex) Ex
theorem de_slice {lo hi : Option Expr} {tl th : DO} {p2 : Pos} (ha : PE X a (lift E ta)) (hl : PO X lo (liftO E tl)) (hh : PO X hi (liftO E th)) : PE X (.Subscript a (.Slice lo hi none p2) pos) (lift E (dSl ta tl th)) := by
  refine peW (pe_slice (sl_tupA.or sl_list) ha hl hh) ?_
  rintro σ H R ⟨tw, G0, H0, G, δ, Q, Ex, at_, h, q⟩
  refine ⟨tw, G0, H0, G, δ, _, Ex, at_, h, fun x vx G1 H1 hx rx e1 => ?_⟩
  refine ⟨tw, G0, H0, G1, δ, _, Ex, at_.go e1, hx, fun l G2 H2 hl e2 => ?_⟩
  refine ⟨tw, G0, H0, G2, δ, _, Ex, (at_.go e1).go e2, hl, fun u G3 H3 hu e3 => ?_⟩
  have e := (e1.trans e2).trans e3
  have rx3 := (rx.go e1.tk e2).go e2.tk e3
  have ok := e3.ok
  split at hu
  · rename_i ds
    obtain ⟨p, vs, rfl, g1, w, z⟩ := rx3.tup
    have hl := w.length
    refine .inl ⟨p, vs, rfl, .of (ok.gh _ _ g1), fun z2 => ?_, fun z2 p' hp => ?_⟩
    · rw [hl] at z2
      rw [cut_whole z2] at hu
      exact q _ _ G3 H3 hu (WD.tup g1 z w) e
    · obtain ⟨e4, w4⟩ := put_tup ok hp (w.cut l u) (Nat.le_trans (cut_len ds l u) z)
      exact q _ _ _ _ hu w4 (e.trans e4)
  · obtain ⟨ds, ax, hu⟩ := hu
    obtain ⟨p, vs, rfl, g1, w, z⟩ := rx3.list ok.gh ax
    refine .inr ⟨p, vs, rfl, .of g1, fun p' hp => ?_⟩
    obtain ⟨e4, w4⟩ := put_own (H0 := H0) ok hp (w.cut l u) (Nat.le_trans (cut_len ds l u) z)
    exact q _ _ _ _ hu (w4.from e) (e.trans e4)
/-! ### arguments -/
def fz (s : SV) (k : SV → Prop) : Prop := match asF s with
  | some s' => k s'
  | none => False
theorem fz_d {x : PyData} {k : SV → Prop} : fz (.d x) k = k (.d x) := rfl
theorem fz_own {x : List PyData} {k : SV → Prop} : fz (.own x) k = k (.d (.list x)) := rfl
theorem fz_town {k : SV → Prop} : fz .town k = k .town := rfl
theorem fz_v {x : V} {k : SV → Prop} : fz (.v x) k = k (.v x) := rfl
theorem fz_abs {φ m} {k : SV → Prop} : fz (.abs φ m) k = k (.abs φ m) := rfl
theorem fz_ex {s : SV} {k : SV → Prop} (h : fz s k) : ∃ s', asF s = some s' ∧ k s' := by
  unfold fz at h
  cases e : asF s with
  | none => rw [e] at h; exact h.elim
  | some s' => rw [e] at h; exact ⟨s', rfl, h⟩
def daNil : DA := fun _ Q _ => Q []
def daCons (t : DT) (u : DA) : DA := fun δ Q Ex => t δ (fun s => fz s fun s' => u δ (fun ss => Q (s' :: ss)) Ex) Ex
theorem da_nil : PA X [] (liftA E daNil) := by
  refine paW pa_nil ?_
  rintro σ H R ⟨tw, G0, H0, G, δ, Q, Ex, a, h, q⟩
  exact q [] [] G H h trivial a.self
theorem liftA_cons {t : DT} {u : DA} : ∀ σ H R, liftA E (daCons t u) σ H R → tCons (lift E t) (liftA E u) σ H R := by
  rintro σ H R ⟨tw, G0, H0, G, δ, Q, Ex, a, h, q⟩
  refine ⟨tw, G0, H0, G, δ, _, Ex, a, h, fun s v G1 H1 hs r e => ?_⟩
  obtain ⟨s', es, hs⟩ := fz_ex hs
  obtain ⟨G2, e2, sm, f⟩ := r.froze e es
  refine ⟨tw, G0, H0, G2, δ, _, Ex, a.go e2, hs, fun ss vs G3 H3 hss rs e3 => ?_⟩
  exact q _ (v :: vs) G3 H3 hss ⟨f.go e3.gg, rs⟩ (e2.trans e3)
theorem da_cons {es : List Expr} {u : DA} (ha : PE X a (lift E ta)) (hr : PA X es (liftA E u)) (hs : starEach (a :: es) X.env = (false, eval a X.env) :: starEach es X.env := by rfl) : PA X (a :: es) (liftA E (daCons ta u)) :=
  paW (pa_cons ha hr hs) liftA_cons
theorem pkW {es : List Keyword} {t t' : TA} (h : PK X es t) (w : ∀ σ H R, t' σ H R → t σ H R) : PK X es t' := ⟨fun b p s σ H Q I q => h.run b p s σ H Q I (w σ H Q q)⟩
theorem dk_nil : PK X [] (liftA E daNil) := by
  refine pkW pk_nil ?_
  rintro σ H R ⟨tw, G0, H0, G, δ, Q, Ex, a, h, q⟩
  exact q [] [] G H h trivial a.self
theorem dk_cons {nm : Option Str} {kpos : Pos} {kws : List Keyword} {u : DA} (ha : PE X a (lift E ta)) (hr : PK X kws (liftA E u)) : PK X (⟨nm, a, kpos⟩ :: kws) (liftA E (daCons ta u)) :=
  pkW (pk_cons ha hr) liftA_cons
/-! ### displays -/
def asDs : List SV → Option (List PyData)
  | [] => some []
  | .d x :: r => (asDs r).map (x :: ·)
  | _ :: _ => none
theorem FRs.wds {tw : Tw} {G : Hp} : ∀ {ss : List SV} {vs : List V} {ds : List PyData}, FRs tw G vs ss → asDs ss = some ds → WDs G vs ds
  | [], [], _, _, e => by cases e; exact .nil
  | [], _ :: _, _, h, _ => h.elim
  | s :: ss, [], _, h, _ => h.elim
  | .d x :: ss, v :: vs, ds, h, e => by
    unfold asDs at e
    cases q : asDs ss with
    | none => rw [q] at e; cases e
    | some r =>
      rw [q] at e
      cases e
      exact .cons h.1 (FRs.wds h.2 q)
  | .own _ :: _, _ :: _, _, _, e => by cases e
  | .bor _ :: _, _ :: _, _, _, e => by cases e
  | .town :: _, _ :: _, _, _, e => by cases e
  | .v _ :: _, _ :: _, _, _, e => by cases e
  | .abs _ _ :: _, _ :: _, _, _, e => by cases e
def dTup (ta : DA) : DT := fun δ Q Ex => ta δ (fun ss => ∃ ds, asDs ss = some ds ∧ ds.length ≤ 1000 ∧ Q (.d (.tuple ds))) Ex
def dLst (ta : DA) : DT := fun δ Q Ex => ta δ (fun ss => ∃ ds, asDs ss = some ds ∧ ds.length ≤ 1000 ∧ Q (.own ds)) Ex
theorem line1000 {n : Nat} (h : n ≤ 1000) : n ≤ sizeLine := Nat.le_of_lt (small1000 h)
theorem de_tup {es : List Expr} {u : DA} {x1} (h : PA X es (liftA E u)) : PE X (.Tuple es x1 pos) (lift E (dTup u)) := by
  refine peW (pe_tup h) ?_
  rintro σ H R ⟨tw, G0, H0, G, δ, Q, Ex, a, h, q⟩
  refine ⟨tw, G0, H0, G, δ, _, Ex, a, h, fun ss vs G1 H1 ⟨ds, e1, z, hq⟩ r e => ?_⟩
  have w := r.wds e1
  refine ⟨by rw [w.length]; exact line1000 z, fun p hp => ?_⟩
  obtain ⟨e2, w2⟩ := put_tup e.ok hp w (line1000 z)
  exact q _ _ _ _ hq w2 (e.trans e2)
theorem de_lst {es : List Expr} {u : DA} (h : PA X es (liftA E u)) : PE X (.List es pos) (lift E (dLst u)) := by
  refine peW (pe_lst h) ?_
  rintro σ H R ⟨tw, G0, H0, G, δ, Q, Ex, a, h, q⟩
  refine ⟨tw, G0, H0, G, δ, _, Ex, a, h, fun ss vs G1 H1 ⟨ds, e1, z, hq⟩ r e => ?_⟩
  have w := r.wds e1
  refine ⟨by rw [w.length]; exact line1000 z, fun p hp => ?_⟩
  obtain ⟨e2, w2⟩ := put_own (H0 := H0) e.ok hp w (line1000 z)
  exact q _ _ _ _ hq (w2.from e) (e.trans e2)
end
/-! ### calls of one's own defs -/
abbrev Spec := List SV → (SV → Prop) → XP → Prop
def spD (sp : Spec) : Sp := fun vs H Q E => ∃ (tw : Tw) (G : Hp) (ss : List SV) (Qd : SV → Prop) (Ed : XP), Ok tw G H ∧ FRs tw G vs ss ∧ sp ss Qd Ed ∧
  (∀ s v G' H', Qd s → VR tw H H G' H' v s → Ext tw G H G' H' → Q v H') ∧ ∀ c G' H', Ed c → Ext tw G H G' H' → E c none H'
def dCall (sp : Spec) (ta : DA) : DT := fun δ Q Ex => ta δ (fun ss => sp ss Q Ex) Ex
theorem VR.ent {tw : Tw} {G0 H0 G H G1 H1 G2 H2 : Hp} {v : V} {s : SV} (h : VR tw H1 H1 G2 H2 v s) (e0 : Ext tw G0 H0 G1 H1) (e : Ext tw G H G1 H1) : VR tw H0 H G2 H2 v s := by
  cases s with
  | own l =>
    obtain ⟨a, vs, e1, e2, e3, e4, e5, e6⟩ := h
    exact ⟨a, vs, e1, e2, e3, e.free e4, e5, e6⟩
  | bor l =>
    obtain ⟨a, vs, e1, e2, e3, e4, e5, e6⟩ := h
    exact ⟨a, vs, e1, e2, e3, e0.free e4, e5, e6⟩
  | d x => exact h
  | town => exact h
  | v x => exact h
  | abs φ m => exact h
theorem sp_at {tw : Tw} {E : XK} {G0 H0 G H : Hp} {σ : L2.St} {δ : Env} {Ex : XP} {sp : Spec} {Q : SV → Prop} {R : VK} (a : At tw E G0 H0 G σ H δ Ex) (q : ∀ s v G' H', Q s → VR tw H0 H G' H' v s → Ext tw G H G' H' → R v H')
    {ss : List SV} {vs : List V} {G1 H1 : Hp} (hs : sp ss Q Ex) (r : FRs tw G1 vs ss) (e : Ext tw G H G1 H1) : spD sp vs H1 R E :=
  ⟨tw, G1, ss, Q, Ex, e.ok, r, hs, fun s v G2 H2 h1 r2 e2 => q s v G2 H2 h1 (r2.ent (a.rep.ext.trans e) e) (e.trans e2), fun c G2 H2 hc e2 => a.exc c G2 H2 hc (a.rep.ext.trans (e.trans e2))⟩
section
variable {X : Cx} {E : XK} {CX : CXT} {k n : Nat} {f : Addr} {fd : FuncData} {ps ks : List Str} {sp : Spec} {x : Str} {p pos : Pos} {e : Expr} {es : List Expr} {ta tk : DA} {kws : List Keyword}
theorem de_call (F : FnOk X.prog X.w X.K X.mg X.base CX k f fd ps (spD sp)) (hr : Room k X.A) (hg : Gl X x) (hm : X.mg x = some (.ref f)) (hk : PySem.W.keepIn X.K (.ref f) = true) (hb : Binds X.K fd ps []) (hx : Passes CX X E) (ha : PA X (e :: es) (liftA E ta))
    (hdb : (x == ("__debug__" : Str)) = false := by decide) (he : starEach (e :: es) X.env = (false, eval e X.env) :: starEach es X.env := by rfl) (hpl : (backTo pos (starEach es X.env)).any (·.1) = false := by rfl) :
    PE X (.Call (.Name x p) (e :: es) [] pos) (lift E (dCall sp ta)) := by
  refine peW (pe_call F hr hg hm hk hb .nil hx ha hdb he hpl) ?_
  rintro σ H R ⟨tw, G0, H0, G, δ, Q, Ex, a, h, q⟩
  refine ⟨tw, G0, H0, G, δ, _, Ex, a, h, fun ss vs G1 H1 hs r e => ?_⟩
  show spD sp (vs ++ []) H1 R E
  rw [List.append_nil]
  exact sp_at a q hs r e
theorem de_call0 (F : FnOk X.prog X.w X.K X.mg X.base CX k f fd ps (spD sp)) (hr : Room k X.A) (hg : Gl X x) (hm : X.mg x = some (.ref f)) (hk : PySem.W.keepIn X.K (.ref f) = true) (hb : Binds X.K fd ps []) (hx : Passes CX X E)
    (hdb : (x == ("__debug__" : Str)) = false := by decide) : PE X (.Call (.Name x p) [] [] pos) (lift E (dCall sp daNil)) := by
  refine peW (pe_call0 F hr hg hm hk hb .nil hx hdb) ?_
  rintro σ H R ⟨tw, G0, H0, G, δ, Q, Ex, a, h, q⟩
  exact sp_at a q (ss := []) (vs := []) h trivial a.self
def dCallK (sp : Spec) (n m : Nat) (ta tk : DA) : DT := fun δ Q Ex => ta δ (fun ss => tk δ (fun zs => ss.length = n ∧ zs.length = m ∧ sp (ss ++ zs) Q Ex) Ex) Ex
theorem FRs.app {tw : Tw} {G : Hp} : ∀ {vs us : List V} {ss zs : List SV}, FRs tw G vs ss → FRs tw G us zs → FRs tw G (vs ++ us) (ss ++ zs)
  | [], _, [], _, _, h => h
  | _ :: _, _, _ :: _, _, h, k => ⟨h.1, FRs.app h.2 k⟩
  | [], _, _ :: _, _, h, _ => h.elim
  | _ :: _, _, [], _, h, _ => h.elim
/-- keywords in the parameters' order -/
abbrev KB (K : PySem.W.Frag) (fd : FuncData) (ps : List Str) (n : Nat) (ks : List Str) : Prop := KBn K fd ps n ks (fun us ws => us ++ ws) (fun us ws => us ++ ws)
theorem KB.mk' {K : PySem.W.Frag} {fd : FuncData} {ps ks : List Str} {n : Nat} (h : ∀ (s : Shared) (us ws : List Value), us.length = n → ws.length = ks.length → BindsTo s fd ⟨us, ks.zip ws⟩ (ps.zip (us ++ ws))) : KB K fd ps n ks :=
  ⟨fun s us ws _ h1 h2 => h s us ws h1 h2, fun a b => a.append b⟩
theorem de_callK {m : Nat} (F : FnOk X.prog X.w X.K X.mg X.base CX k f fd ps (spD sp)) (hr : Room k X.A) (hg : Gl X x) (hm : X.mg x = some (.ref f)) (hk : PySem.W.keepIn X.K (.ref f) = true) (hb : KB X.K fd ps n ks) (hx : Passes CX X E) (ha : PA X (e :: es) (liftA E ta)) (hkw : PK X kws (liftA E tk))
    (hall : (backToKw pos (keywordEach kws X.env)).all (·.1.isSome) = true := by rfl) (hks : (backToKw pos (keywordEach kws X.env)).filterMap (·.1) = ks := by rfl)
    (hm' : ks.length = m := by rfl) (hdb : (x == ("__debug__" : Str)) = false := by decide) (he : starEach (e :: es) X.env = (false, eval e X.env) :: starEach es X.env := by rfl)
    (hpl : ((backTo pos (starEach (e :: es) X.env)).any (·.1) || (backToKw pos (keywordEach kws X.env)).any (·.1.isNone)) = false := by rfl) :
    PE X (.Call (.Name x p) (e :: es) kws pos) (lift E (dCallK sp n m ta tk)) := by
  subst hm'
  refine peW (pe_callN F hr hg hm hk hb hx ha hkw hall hks hdb he hpl) ?_
  rintro σ H R ⟨tw, G0, H0, G, δ, Q, Ex, a, h, q⟩
  refine ⟨tw, G0, H0, G, δ, _, Ex, a, h, fun ss vs G1 H1 hs r e => ?_⟩
  refine ⟨tw, G0, H0, G1, δ, _, Ex, a.go e, hs, fun zs us G2 H2 hz rz e2 => ?_⟩
  exact ⟨r.length.trans hz.1, rz.length.trans hz.2.1, sp_at a q hz.2.2 (FRs.app (r.go e2.gg) rz) (e.trans e2)⟩
theorem pe_callN0 {sp : Sp} {tk : TA} {g : List Value → List Value → List Value} {gV : List V → List V → List V} (F : FnOk X.prog X.w X.K X.mg X.base CX k f fd ps sp) (hr : Room k X.A) (hg : Gl X x) (hm : X.mg x = some (.ref f)) (hk : PySem.W.keepIn X.K (.ref f) = true) (hb : KBn X.K fd ps 0 ks g gV) (hx : Passes CX X E) (hkw : PK X kws tk)
    (hall : (backToKw pos (keywordEach kws X.env)).all (·.1.isSome) = true := by rfl) (hks : (backToKw pos (keywordEach kws X.env)).filterMap (·.1) = ks := by rfl)
    (hdb : (x == ("__debug__" : Str)) = false := by decide) (hpl : ((backTo pos (starEach [] X.env)).any (·.1) || (backToKw pos (keywordEach kws X.env)).any (·.1.isNone)) = false := by rfl) :
    PE X (.Call (.Name x p) [] kws pos) (tCallN 0 ks.length sp gV E tNil tk) := by
  refine ⟨fun pins s σ H Q I h => ?_⟩
  refine wpAny_Call_Name_kw (ld_glob I hg hm ?_ hdb)
  refine PySem.W.callWith_KW0 (h₀ := X.base) I.ok.mod.kin hk hall (thn (hkw.run pos pins s σ H _ I h) fun ws s2 ⟨zs, H2, I2, rz, l1, l2, q2⟩ => ⟨I2.kIn, ?_⟩) hpl
  rw [hks]
  exact run_fnN (us := []) (vs := []) F hr hb hx I2 .nil rz l1 l2 q2
theorem de_callK0 {m : Nat} (F : FnOk X.prog X.w X.K X.mg X.base CX k f fd ps (spD sp)) (hr : Room k X.A) (hg : Gl X x) (hm : X.mg x = some (.ref f)) (hk : PySem.W.keepIn X.K (.ref f) = true) (hb : KB X.K fd ps 0 ks) (hx : Passes CX X E) (hkw : PK X kws (liftA E tk))
    (hall : (backToKw pos (keywordEach kws X.env)).all (·.1.isSome) = true := by rfl) (hks : (backToKw pos (keywordEach kws X.env)).filterMap (·.1) = ks := by rfl)
    (hm' : ks.length = m := by rfl) (hdb : (x == ("__debug__" : Str)) = false := by decide) (hpl : ((backTo pos (starEach [] X.env)).any (·.1) || (backToKw pos (keywordEach kws X.env)).any (·.1.isNone)) = false := by rfl) :
    PE X (.Call (.Name x p) [] kws pos) (lift E (dCallK sp 0 m daNil tk)) := by
  subst hm'
  refine peW (pe_callN0 F hr hg hm hk hb hx hkw hall hks hdb hpl) ?_
  rintro σ H R ⟨tw, G0, H0, G, δ, Q, Ex, a, h, q⟩
  refine ⟨tw, G0, H0, G, δ, _, Ex, a, h, fun zs us G2 H2 hz rz e2 => ?_⟩
  exact ⟨hz.1, rz.length.trans hz.2.1, sp_at a q hz.2.2 rz e2⟩
end
end DL
/-! DL 5: tests, and, or, not, a if t else b; isinstance, len, sum, all, any, tuple, list, max. -/
namespace DL
open PySem PySem.Spec PyProof.Rows L2
section
variable {X : Cx} {E : XK} {a b c : Expr} {rest : List Expr} {ta tb tc : DT} {ba bb : DB} {pos : Pos}
/-! ### tests -/
def bVal (t : DT) : DB := fun δ Q Ex => t δ (fun s => ∃ b, s = .d (.bool b) ∧ Q b) Ex
theorem bVal_use {tw : Tw} {G0 H0 G H : Hp} {σ : L2.St} {δ : Env} {Ex : XP} {Q : Bool → Prop} {R : Bool → Hp → Prop} {t : DT} (a : At tw E G0 H0 G σ H δ Ex) (h : bVal t δ Q Ex) (q : ∀ b G' H', Q b → Ext tw G H G' H' → R b H') :
    lift E t σ H (fun x H1 => ∃ k, x = .bl k ∧ R k H1) := by
  refine ⟨tw, G0, H0, G, δ, _, Ex, a, h, fun s v G1 H1 ⟨b, es, hq⟩ r e => ?_⟩
  subst es
  have r' : WD G1 v (.bool b) := r
  cases r'
  exact ⟨b, rfl, q _ G1 H1 hq e⟩
theorem db_val (h : PE X a (lift E ta)) (he : ∀ whole, isTrue a X.env whole = (do let v ← whole; standAt a.pos; holding [v] (truthy v)) := by intro _; rfl) : PT X a (liftB E (bVal ta)) := by
  refine ptW (pt_val h he) ?_
  rintro σ H R ⟨tw, G0, H0, G, δ, Q, Ex, a, h, q⟩
  exact bVal_use a h q
theorem db_cmp {o : CmpOp} {op : W2} (ho : OpD X (compareOp o) op) (ha : PE X a (lift E ta)) (hb : PE X b (lift E tb)) (hm : behindInMarks o b = false := by first | exact nomark _ | rfl) : PT X (.Compare a [o] [b] pos) (liftB E (bVal (dOp op ta tb))) := by
  obtain ⟨r, or_, k⟩ := ho.ex
  refine ptW (pt_cmpR or_ ha hb hm) ?_
  rintro σ H R ⟨tw, G0, H0, G, δ, Q, Ex, a, h, q⟩
  exact lift_two k σ H _ (bVal_use a h q)
/-- a < b < c -/
def dChain (op op' : W2) (ta tb tc : DT) : DT := fun δ Q Ex => ta δ (fun x => tb δ (fun y => op x y fun z => ∃ k, z = .d (.bool k) ∧ if k = true then tc δ (fun w => op' y w Q) Ex else Q (.d (.bool false))) Ex) Ex
theorem lift_chain {op op' : W2} {r r' : R2} (k : ∀ (tw : Tw) (H0 H G1 H1 : Hp) (x y : SV) (vx vy : V) (Q : SV → Prop) (R : VK), VR tw H0 H G1 H1 vx x → VR tw H0 H G1 H1 vy y → Ok tw G1 H1 → op x y Q →
    (∀ s v G2 H2, Q s → VR tw H0 H1 G2 H2 v s → Ext tw G1 H1 G2 H2 → R v H2) → r vx vy H1 R)
    (k' : ∀ (tw : Tw) (H0 H G1 H1 : Hp) (x y : SV) (vx vy : V) (Q : SV → Prop) (R : VK), VR tw H0 H G1 H1 vx x → VR tw H0 H G1 H1 vy y → Ok tw G1 H1 → op' x y Q →
    (∀ s v G2 H2, Q s → VR tw H0 H1 G2 H2 v s → Ext tw G1 H1 G2 H2 → R v H2) → r' vx vy H1 R) : ∀ σ H R, lift E (dChain op op' ta tb tc) σ H R → tChain r r' (lift E ta) (lift E tb) (lift E tc) σ H R := by
  rintro σ H R ⟨tw, G0, H0, G, δ, Q, Ex, a, h, q⟩
  refine ⟨tw, G0, H0, G, δ, _, Ex, a, h, fun x vx G1 H1 hx rx e1 => ?_⟩
  refine ⟨tw, G0, H0, G1, δ, _, Ex, a.go e1, hx, fun y vy G2 H2 hy ry e2 => ?_⟩
  refine k tw H0 H G2 H2 x y vx vy _ _ (rx.go e1.tk e2) (ry.from e1) e2.ok hy fun s v G3 H3 ⟨b, es, hs⟩ rs e3 => ?_
  subst es
  have rs' : WD G3 v (.bool b) := rs
  cases rs'
  refine ⟨b, rfl, ?_⟩
  have e := (e1.trans e2).trans e3
  cases b with
  | true =>
    rw [if_pos rfl] at hs ⊢
    refine ⟨tw, G0, H0, G3, δ, _, Ex, a.go e, hs, fun w vw G4 H4 hw rw_ e4 => ?_⟩
    exact k' tw H0 H G4 H4 y w vy vw Q R (((ry.from e1).go e2.tk e3).go e3.tk e4) (rw_.from e) e4.ok hw fun s v G5 H5 hs5 r5 e5 => q s v G5 H5 hs5 (r5.from (e.trans e4)) ((e.trans e4).trans e5)
  | false =>
    rw [if_neg Bool.false_ne_true] at hs ⊢
    exact q _ _ G3 H3 hs (WD.bl _) e
theorem de_chain {o o' : CmpOp} {op op' : W2} (ho : OpD X (compareOp o) op) (ho' : OpD X (compareOp o') op') (ha : PE X a (lift E ta)) (hb : PE X b (lift E tb)) (hc : PE X c (lift E tc)) (hm : lastMarks [o, o'] [b, c] = false := by with_unfolding_all rfl) :
    PE X (.Compare a [o, o'] [b, c] pos) (lift E (dChain op op' ta tb tc)) := by
  obtain ⟨r, or_, k⟩ := ho.ex
  obtain ⟨r', or', k'⟩ := ho'.ex
  exact peW (pe_chain or_ or' ha hb hc hm) (lift_chain k k')
theorem db_chain {o o' : CmpOp} {op op' : W2} (ho : OpD X (compareOp o) op) (ho' : OpD X (compareOp o') op') (ha : PE X a (lift E ta)) (hb : PE X b (lift E tb)) (hc : PE X c (lift E tc)) (hm : lastMarks [o, o'] [b, c] = false := by with_unfolding_all rfl) :
    PT X (.Compare a [o, o'] [b, c] pos) (liftB E (bVal (dChain op op' ta tb tc))) := by
  obtain ⟨r, or_, k⟩ := ho.ex
  obtain ⟨r', or', k'⟩ := ho'.ex
  refine ptW (pt_chain or_ or' ha hb hc hm) ?_
  rintro σ H R ⟨tw, G0, H0, G, δ, Q, Ex, a, h, q⟩
  exact lift_chain k k' σ H _ (bVal_use a h q)
/-- truth -/
def truD : SV → Option Bool
  | .d .none => some false
  | .d (.bool b) => some b
  | .d (.int i) => some (i != 0)
  | .d (.tuple l) => some (!l.isEmpty)
  | s => (asL s).map fun l => !l.isEmpty
def bTru (t : DT) : DB := fun δ Q Ex => t δ (fun s => ∃ b, truD s = some b ∧ Q b) Ex
theorem WDs.emp {G : Hp} {ds : List PyData} {vs : List V} (h : WDs G vs ds) : (!ds.isEmpty) = !vs.isEmpty := by
  cases h <;> rfl
theorem truV_of {tw : Tw} {H0 H G1 H1 : Hp} {v : V} {s : SV} {b : Bool} (r : VR tw H0 H G1 H1 v s) (e : Same G1 H1) (t : truD s = some b) : TruV X.K v H1 b := by
  have lst : ∀ {l}, asL s = some l → (!l.isEmpty) = b → TruV X.K v H1 b := fun {l} a e2 => by
    obtain ⟨p, vs, rfl, e1, w, _⟩ := r.list e a
    exact .inl ⟨vs, .of e1, by rw [← e2]; exact w.emp⟩
  unfold truD at t
  split at t
  · have r' : WD G1 v .none := r
    cases r'
    cases t
    rfl
  · have r' : WD G1 v (.bool _) := r
    cases r'
    cases t
    rfl
  · have e2 := VR.int r
    subst e2
    cases t
    rfl
  · obtain ⟨p, vs, rfl, e1, w, _⟩ := VR.tup r
    cases t
    exact .inr (.inl ⟨vs, .of (e _ _ e1), w.emp⟩)
  · cases q : asL s with
    | none => rw [q] at t; cases t
    | some l =>
      rw [q] at t
      exact lst q (Option.some.inj t)
theorem db_tru (h : PE X a (lift E ta)) (he : ∀ whole, isTrue a X.env whole = (do let v ← whole; standAt a.pos; holding [v] (truthy v)) := by intro _; rfl) : PT X a (liftB E (bTru ta)) := by
  refine ptW (pt_truth h he) ?_
  rintro σ H R ⟨tw, G0, H0, G, δ, Q, Ex, a, h, q⟩
  refine ⟨tw, G0, H0, G, δ, _, Ex, a, h, fun s v G1 H1 ⟨b, es, hq⟩ r e => ?_⟩
  exact ⟨b, truV_of r e.gh es, q _ G1 H1 hq e⟩
def bNot (t : DB) : DB := fun δ Q Ex => t δ (fun b => Q (!b)) Ex
def bAnd (t u : DB) : DB := fun δ Q Ex => t δ (fun b => if b = true then u δ Q Ex else Q false) Ex
def bOr (t u : DB) : DB := fun δ Q Ex => t δ (fun b => if b = true then Q true else u δ Q Ex) Ex
theorem db_not (h : PT X a (liftB E ba)) : PT X (.UnaryOp .Not a pos) (liftB E (bNot ba)) := by
  refine ptW (pt_not h) ?_
  rintro σ H R ⟨tw, G0, H0, G, δ, Q, Ex, a, h, q⟩
  exact ⟨tw, G0, H0, G, δ, _, Ex, a, h, fun b G1 H1 hb e => q _ G1 H1 hb e⟩
theorem dw_one_and (h : PT X a (liftB E ba)) : PW X (.BoolOp .And [a] pos) (liftB E ba) := pw_and1 h
theorem dw_one_or (h : PT X a (liftB E ba)) : PW X (.BoolOp .Or [a] pos) (liftB E ba) := pw_or1 h
theorem lift_ite {tw : Tw} {G0 H0 G H G1 H1 : Hp} {σ : L2.St} {δ : Env} {Ex : XP} {Q : Bool → Prop} {R : Bool → Hp → Prop} {u : DB} (a : At tw E G0 H0 G σ H δ Ex) (h : u δ Q Ex) (e : Ext tw G H G1 H1) (q : ∀ b G' H', Q b → Ext tw G H G' H' → R b H') : liftB E u σ H1 R :=
  ⟨tw, G0, H0, G1, δ, _, Ex, a.go e, h, fun b G2 H2 hb e2 => q b G2 H2 hb (e.trans e2)⟩
theorem dw_and (ha : PT X a (liftB E ba)) (hb : PW X (.BoolOp .And (b :: rest) pos) (liftB E bb)) : PW X (.BoolOp .And (a :: b :: rest) pos) (liftB E (bAnd ba bb)) := by
  refine pwW (pw_and ha hb) ?_
  rintro σ H R ⟨tw, G0, H0, G, δ, Q, Ex, a, h, q⟩
  refine ⟨tw, G0, H0, G, δ, _, Ex, a, h, fun b G1 H1 hb e => ?_⟩
  cases b with
  | true => exact lift_ite a hb e q
  | false => exact q false G1 H1 hb e
theorem dw_or (ha : PT X a (liftB E ba)) (hb : PW X (.BoolOp .Or (b :: rest) pos) (liftB E bb)) : PW X (.BoolOp .Or (a :: b :: rest) pos) (liftB E (bOr ba bb)) := by
  refine pwW (pw_or ha hb) ?_
  rintro σ H R ⟨tw, G0, H0, G, δ, Q, Ex, a, h, q⟩
  refine ⟨tw, G0, H0, G, δ, _, Ex, a, h, fun b G1 H1 hb e => ?_⟩
  cases b with
  | true => exact q true G1 H1 hb e
  | false => exact lift_ite a hb e q
theorem db_w (h : PW X a (liftB E ba)) : PT X a (liftB E ba) := h.pt
/-! ### and, or, not as values; a if t else b -/
def dAnd (t u : DT) : DT := fun δ Q Ex => t δ (fun s => ∃ b, s = .d (.bool b) ∧ if b = true then u δ Q Ex else Q (.d (.bool false))) Ex
def dOr (t u : DT) : DT := fun δ Q Ex => t δ (fun s => ∃ b, s = .d (.bool b) ∧ if b = true then Q (.d (.bool true)) else u δ Q Ex) Ex
def dNot (t : DT) : DT := fun δ Q Ex => t δ (fun s => ∃ b, s = .d (.bool b) ∧ Q (.d (.bool (!b)))) Ex
def dIf (t : DB) (u w : DT) : DT := fun δ Q Ex => t δ (fun b => if b = true then u δ Q Ex else w δ Q Ex) Ex
theorem lift_go {tw : Tw} {G0 H0 G H G1 H1 : Hp} {σ : L2.St} {δ : Env} {Ex : XP} {Q : SV → Prop} {R : VK} {u : DT} (a : At tw E G0 H0 G σ H δ Ex) (h : u δ Q Ex) (e : Ext tw G H G1 H1) (q : ∀ s v G' H', Q s → VR tw H0 H G' H' v s → Ext tw G H G' H' → R v H') : lift E u σ H1 R :=
  ⟨tw, G0, H0, G1, δ, _, Ex, a.go e, h, fun s v G2 H2 hb r e2 => q s v G2 H2 hb (r.from e) (e.trans e2)⟩
theorem de_one {o} (h : PE X a (lift E ta)) : PE X (.BoolOp o [a] pos) (lift E ta) := pe_one h
theorem de_and (ha : PE X a (lift E ta)) (hb : PE X (.BoolOp .And (b :: rest) pos) (lift E tb)) : PE X (.BoolOp .And (a :: b :: rest) pos) (lift E (dAnd ta tb)) := by
  refine peW (pe_and ha hb) ?_
  rintro σ H R ⟨tw, G0, H0, G, δ, Q, Ex, a, h, q⟩
  refine ⟨tw, G0, H0, G, δ, _, Ex, a, h, fun s v G1 H1 ⟨b, es, hs⟩ r e => ?_⟩
  subst es
  have r' : WD G1 v (.bool b) := r
  cases r'
  refine ⟨b, rfl, ?_⟩
  cases b with
  | true => exact lift_go a hs e q
  | false => exact q _ _ G1 H1 hs (WD.bl _) e
theorem de_or (ha : PE X a (lift E ta)) (hb : PE X (.BoolOp .Or (b :: rest) pos) (lift E tb)) : PE X (.BoolOp .Or (a :: b :: rest) pos) (lift E (dOr ta tb)) := by
  refine peW (pe_or ha hb) ?_
  rintro σ H R ⟨tw, G0, H0, G, δ, Q, Ex, a, h, q⟩
  refine ⟨tw, G0, H0, G, δ, _, Ex, a, h, fun s v G1 H1 ⟨b, es, hs⟩ r e => ?_⟩
  subst es
  have r' : WD G1 v (.bool b) := r
  cases r'
  refine ⟨b, rfl, ?_⟩
  cases b with
  | true => exact q _ _ G1 H1 hs (WD.bl _) e
  | false => exact lift_go a hs e q
theorem de_not (ha : PE X a (lift E ta)) : PE X (.UnaryOp .Not a pos) (lift E (dNot ta)) := by
  refine peW (pe_not ha) ?_
  rintro σ H R ⟨tw, G0, H0, G, δ, Q, Ex, a, h, q⟩
  refine ⟨tw, G0, H0, G, δ, _, Ex, a, h, fun s v G1 H1 ⟨b, es, hs⟩ r e => ?_⟩
  subst es
  have r' : WD G1 v (.bool b) := r
  cases r'
  exact ⟨b, rfl, q _ _ G1 H1 hs (WD.bl _) e⟩
theorem de_if (hc : PT X c (liftB E ba)) (ha : PE X a (lift E ta)) (hb : PE X b (lift E tb)) : PE X (.IfExp c a b pos) (lift E (dIf ba ta tb)) := by
  refine peW (pe_ifExp hc ha hb) ?_
  rintro σ H R ⟨tw, G0, H0, G, δ, Q, Ex, a, h, q⟩
  refine ⟨tw, G0, H0, G, δ, _, Ex, a, h, fun b G1 H1 hs e => ?_⟩
  cases b with
  | true => exact lift_go a hs e q
  | false => exact lift_go a hs e q
/-! ### unary minus -/
def dNeg (t : DT) : DT := fun δ Q Ex => t δ (fun s => ∃ i, s = .d (.int i) ∧ Q (.d (.int (-i)))) Ex
theorem de_neg (ha : PE X a (lift E ta)) : PE X (.UnaryOp .USub a pos) (lift E (dNeg ta)) := by
  refine peW (pe_un un_neg ha) ?_
  rintro σ H R ⟨tw, G0, H0, G, δ, Q, Ex, a, h, q⟩
  refine ⟨tw, G0, H0, G, δ, _, Ex, a, h, fun s v G1 H1 ⟨i, es, hs⟩ r e => ?_⟩
  subst es
  exact ⟨i, r.int, q _ _ G1 H1 hs (WD.int _) e⟩
/-! ### built-ins of one argument -/
/-- a call of a built-in by one value -/
structure OneD (X : Cx) (f : Value) (op : SV → (SV → Prop) → Prop) : Prop where
  ex : ∃ r : List V → Hp → VK → Prop, CallR X f r ∧ ∀ (tw : Tw) (H0 H G1 H1 : Hp) (x : SV) (vx : V) (Q : SV → Prop) (R : VK), VR tw H0 H G1 H1 vx x → Ok tw G1 H1 → op x Q →
    (∀ s v G2 H2, Q s → VR tw H0 H1 G2 H2 v s → Ext tw G1 H1 G2 H2 → R v H2) → r [vx] H1 R
def dOne (op : SV → (SV → Prop) → Prop) (t : DT) : DT := fun δ Q Ex => t δ (fun s => op s Q) Ex
theorem lift_one {op : SV → (SV → Prop) → Prop} {r : List V → Hp → VK → Prop} (k : ∀ (tw : Tw) (H0 H G1 H1 : Hp) (x : SV) (vx : V) (Q : SV → Prop) (R : VK), VR tw H0 H G1 H1 vx x → Ok tw G1 H1 → op x Q →
    (∀ s v G2 H2, Q s → VR tw H0 H1 G2 H2 v s → Ext tw G1 H1 G2 H2 → R v H2) → r [vx] H1 R) : ∀ σ H R, lift E (dOne op ta) σ H R → tCB r (tCons (lift E ta) tNil) σ H R := by
  rintro σ H R ⟨tw, G0, H0, G, δ, Q, Ex, a, h, q⟩
  refine ⟨tw, G0, H0, G, δ, _, Ex, a, h, fun x vx G1 H1 hx rx e1 => ?_⟩
  exact k tw H0 H G1 H1 x vx Q R rx e1.ok hx fun s v G2 H2 hs rs e2 => q s v G2 H2 hs (rs.from e1) (e1.trans e2)
theorem de_b1 {id : String} {op : SV → (SV → Prop) → Prop} {x : Str} {p : Pos} (ho : OneD X (.builtin id) op) (hm : X.mg x = none) (hv : bootBuiltins x = some (.builtin id)) (ha : PE X a (lift E ta)) (hg : Gl X x := by rfl) (hn : x ≠ "__name__" := by decide) (hdb : (x == ("__debug__" : Str)) = false := by decide)
    (he : starEach (a :: []) X.env = (false, eval a X.env) :: starEach [] X.env := by rfl) (hpl : (backTo pos (starEach [] X.env)).any (·.1) = false := by rfl) : PE X (.Call (.Name x p) [a] [] pos) (lift E (dOne op ta)) := by
  obtain ⟨r, or_, k⟩ := ho.ex
  exact peW (pe_callB or_ hg hm hv (pa_cons ha pa_nil he) hn hdb he hpl) (lift_one k)
theorem de_t1 {T : String} {op : SV → (SV → Prop) → Prop} {x : Str} {p : Pos} (ho : OneD X (.type T) op) (hm : X.mg x = none) (hv : bootBuiltins x = some (.type T)) (ha : PE X a (lift E ta)) (hg : Gl X x := by rfl) (hn : x ≠ "__name__" := by decide) (hdb : (x == ("__debug__" : Str)) = false := by decide)
    (he : starEach (a :: []) X.env = (false, eval a X.env) :: starEach [] X.env := by rfl) (hpl : (backTo pos (starEach [] X.env)).any (·.1) = false := by rfl) : PE X (.Call (.Name x p) [a] [] pos) (lift E (dOne op ta)) := by
  obtain ⟨r, or_, k⟩ := ho.ex
  exact peW (pe_callTy or_ hg hm hv (pa_cons ha pa_nil he) hn hdb he hpl) (lift_one k)
/-- items of a list, held or not, or of a tuple -/
def asS : SV → Option (List PyData)
  | .d (.tuple l) => some l
  | s => asL s
theorem asS_cases {s : SV} {l : List PyData} (h : asS s = some l) : asL s = some l ∨ s = .d (.tuple l) := by
  unfold asS at h
  split at h
  · cases h; exact .inr rfl
  · exact .inl h
theorem VR.seq {K : PySem.W.Frag} {tw : Tw} {H0 H G1 H1 : Hp} {v : V} {s : SV} {l : List PyData} (r : VR tw H0 H G1 H1 v s) (e : Same G1 H1) (h : asS s = some l) : ∃ a vs, v = .ref a ∧ (SqL K H1 a vs ∨ SqT K H1 a vs) ∧ WDs G1 vs l ∧ l.length ≤ sizeLine := by
  rcases asS_cases h with h | rfl
  · obtain ⟨p, vs, rfl, e1, w, z⟩ := r.list e h
    exact ⟨p, vs, rfl, .inl (.of e1), w, z⟩
  · obtain ⟨p, vs, rfl, e1, w, z⟩ := r.tup
    exact ⟨p, vs, rfl, .inr (.of (e _ _ e1)), w, z⟩
def oLen : SV → (SV → Prop) → Prop := fun s Q => ∃ l, asS s = some l ∧ Q (.d (.int (l.length : Nat)))
theorem one_len : OneD X (.builtin "len") oLen := by
  refine ⟨_, call_len_seq, fun tw H0 H G1 H1 x vx Q R hx ok hq c => ?_⟩
  obtain ⟨l, el, hq⟩ := hq
  obtain ⟨a, vs, rfl, sq, w, z⟩ := hx.seq (K := X.K) ok.gh el
  refine ⟨a, vs, rfl, sq, c _ _ G1 H1 hq ?_ ok.refl⟩
  rw [w.length]
  exact WD.int _
def oTuple : SV → (SV → Prop) → Prop := fun s Q => ∃ l, asS s = some l ∧ Q (.d (.tuple l))
theorem one_tuple : OneD X (.type "tuple") oTuple := by
  refine ⟨_, call_tuple_of, fun tw H0 H G1 H1 x vx Q R hx ok hq c => ?_⟩
  obtain ⟨l, el, hq⟩ := hq
  rcases asS_cases el with h | rfl
  · obtain ⟨p, vs, rfl, e1, w, z⟩ := hx.list ok.gh h
    refine ⟨p, vs, rfl, .inl ⟨.of e1, fun q hq' => ?_⟩⟩
    obtain ⟨e2, w2⟩ := put_tup ok hq' w z
    exact c _ _ _ _ hq w2 e2
  · obtain ⟨p, vs, rfl, e1, w, z⟩ := hx.tup
    exact ⟨p, vs, rfl, .inr ⟨.of (ok.gh _ _ e1), c _ _ G1 H1 hq (WD.tup e1 z w) ok.refl⟩⟩
def oList : SV → (SV → Prop) → Prop := fun s Q => ∃ l, asS s = some l ∧ Q (.own l)
theorem one_list : OneD X (.type "list") oList := by
  refine ⟨_, call_list_of, fun tw H0 H G1 H1 x vx Q R hx ok hq c => ?_⟩
  obtain ⟨l, el, hq⟩ := hq
  obtain ⟨a, vs, rfl, sq, w, z⟩ := hx.seq (K := X.K) ok.gh el
  refine ⟨a, vs, rfl, sq, fun q hq' => ?_⟩
  obtain ⟨e2, w2⟩ := put_own (H0 := H0) ok hq' w z
  exact c _ _ _ _ hq w2 e2
def oAll (f : List Bool → Bool) : SV → (SV → Prop) → Prop := fun s Q => ∃ bs, asL s = some (bs.map .bool) ∧ Q (.d (.bool (f bs)))
theorem one_all (hc : X.calm = true) : OneD X (.builtin "all") (oAll fun bs => bs.all id) := by
  refine ⟨_, cr_all hc, fun tw H0 H G1 H1 x vx Q R hx ok hq c => ?_⟩
  obtain ⟨bs, el, hq⟩ := hq
  obtain ⟨a, vs, rfl, e1, w, z⟩ := hx.list ok.gh el
  have ev := w.bools
  subst ev
  exact ⟨a, bs, rfl, .of e1, c _ _ G1 H1 hq (WD.bl _) ok.refl⟩
theorem one_any (hc : X.calm = true) : OneD X (.builtin "any") (oAll fun bs => bs.any id) := by
  refine ⟨_, cr_any hc, fun tw H0 H G1 H1 x vx Q R hx ok hq c => ?_⟩
  obtain ⟨bs, el, hq⟩ := hq
  obtain ⟨a, vs, rfl, e1, w, z⟩ := hx.list ok.gh el
  have ev := w.bools
  subst ev
  exact ⟨a, bs, rfl, .of e1, c _ _ G1 H1 hq (WD.bl _) ok.refl⟩
/-! ### isinstance, a built-in class -/
def tyD : PyData → String
  | .none => "NoneType"
  | .bool _ => "bool"
  | .int _ => "int"
  | .str _ => "str"
  | .list _ => "list"
  | .tuple _ => "tuple"
  | .dict _ => "dict"
/-- what isinstance says of data -/
def isiD (T : String) (x : PyData) : Bool := tyD x == T || (T == "int" && tyD x == "bool")
theorem WD.ty {K : PySem.W.Frag} {G H : Hp} {v : V} {x : PyData} (h : WD G v x) (e : Same G H) : TyX K H v (.type (tyD x)) := by
  cases h with
  | non => exact .base .non
  | bl b => exact .base (.bl b)
  | int i => exact .base (.int i)
  | str x => exact .base (.str x)
  | lst h1 _ _ => exact .base (.lst (e _ _ h1))
  | tup h1 _ _ => exact .base (.tup (e _ _ h1))
def KitT (T : String) : Prop := ∀ x : PyData, (∀ k, x ≠ .dict k) → kitB (tyD x) T = some (isiD T x)
theorem kitT_of {T : String} (h1 : kitB "NoneType" T = some (isiD T .none)) (h2 : kitB "bool" T = some (isiD T (.bool true))) (h3 : kitB "int" T = some (isiD T (.int 0))) (h4 : kitB "str" T = some (isiD T (.str ⟨#[]⟩))) (h5 : kitB "list" T = some (isiD T (.list []))) (h6 : kitB "tuple" T = some (isiD T (.tuple []))) : KitT T := fun x hx => by
  cases x with
  | none => exact h1
  | bool b => exact h2
  | int i => exact h3
  | str s => exact h4
  | list l => exact h5
  | tuple l => exact h6
  | dict k => exact absurd rfl (hx k)
theorem kitT_int : KitT "int" := kitT_of (by decide +kernel) (by decide +kernel) (by decide +kernel) (by decide +kernel) (by decide +kernel) (by decide +kernel)
theorem kitT_bool : KitT "bool" := kitT_of (by decide +kernel) (by decide +kernel) (by decide +kernel) (by decide +kernel) (by decide +kernel) (by decide +kernel)
theorem kitT_tuple : KitT "tuple" := kitT_of (by decide +kernel) (by decide +kernel) (by decide +kernel) (by decide +kernel) (by decide +kernel) (by decide +kernel)
theorem kitT_str : KitT "str" := kitT_of (by decide +kernel) (by decide +kernel) (by decide +kernel) (by decide +kernel) (by decide +kernel) (by decide +kernel)
def oIsi (T : String) : SV → (SV → Prop) → Prop := fun s Q => ∃ x, asD s = some x ∧ Q (.d (.bool (isiD T x)))
theorem asD_ty {tw : Tw} {H0 H G1 H1 : Hp} {v : V} {s : SV} {x : PyData} (r : VR tw H0 H G1 H1 v s) (e : Same G1 H1) (h : asD s = some x) : TyX X.K H1 v (.type (tyD x)) ∧ ∀ k, x ≠ .dict k := by
  cases s with
  | d y =>
    cases h
    refine ⟨WD.ty r e, fun k z => ?_⟩
    subst z
    cases r
  | own l =>
    cases h
    obtain ⟨a, vs, rfl, e2, _⟩ := r
    exact ⟨.base (.lst e2), fun k z => by cases z⟩
  | bor l => cases h
  | town => cases h
  | v x => cases h
  | abs φ m => cases h
theorem de_isi {T : String} {tn : Str} {p p2 : Pos} (kt : KitT T) (hm : X.mg "isinstance" = none) (hm2 : X.mg tn = none) (hv2 : bootBuiltins tn = some (.type T)) (ha : PE X a (lift E ta)) (hg : Gl X "isinstance" := by rfl) (hg2 : Gl X tn := by rfl)
    (hn2 : tn ≠ "__name__" := by decide) (hd2 : (tn == ("__debug__" : Str)) = false := by decide) (he : starEach [a, .Name tn p2] X.env = (false, eval a X.env) :: starEach [.Name tn p2] X.env := by rfl) (hpl : (backTo pos (starEach [.Name tn p2] X.env)).any (·.1) = false := by rfl) :
    PE X (.Call (.Name "isinstance" p) [a, .Name tn p2] [] pos) (lift E (dOne (oIsi T) ta)) := by
  have h2 : PE X (.Name tn p2) (tC (.ty T)) := pe_bltn hg2 hm2 hv2 rfl hn2 hd2
  refine peW (pe_callB call_isi hg hm (by decide +kernel) (pa_cons ha (pa_cons h2 pa_nil) he) (by decide) (by decide) he hpl) ?_
  rintro σ H R ⟨tw, G0, H0, G, δ, Q, Ex, a, h, q⟩
  refine ⟨tw, G0, H0, G, δ, _, Ex, a, h, fun s v G1 H1 ⟨x, es, hs⟩ r e => ?_⟩
  obtain ⟨t1, t2⟩ := asD_ty (X := X) r e.gh es
  exact ⟨v, .ty T, .type (tyD x), .type T, isiD T x, rfl, .ty T, t1, kit_ty (kt x t2), q _ _ G1 H1 hs (WD.bl _) e⟩
end
end DL
/-! DL 6: statements. -/
namespace DL
open PySem PySem.Spec PyProof.Rows L2
structure DE where
  nx : Env → Prop
  rt : SV → Prop
  bk : Env → Prop := fun _ => False
  ct : Env → Prop := fun _ => False
abbrev DS := DE → Env → XP → Prop
/-- what is handed back: bor (a slot's own list) is a new list for the caller -/
def rtS (De : DE) (s : SV) : Prop := match s with
  | .bor l => De.rt (.own l)
  | s => De.rt s
structure Goes (tw : Tw) (G0 H0 : Hp) (De : DE) (D : Ends) : Prop where
  nx : ∀ δ G σ H, De.nx δ → Rep tw G0 H0 G σ H δ → D.nx σ H
  bk : ∀ δ G σ H, De.bk δ → Rep tw G0 H0 G σ H δ → D.bk σ H
  ct : ∀ δ G σ H, De.ct δ → Rep tw G0 H0 G σ H δ → D.ct σ H
  rt : ∀ s v G H, De.rt s → VR tw H0 H0 G H v s → Ext tw G0 H0 G H → D.rt v H
def liftS (E : XK) (t : DS) : TS := fun D σ H => ∃ (tw : Tw) (G0 H0 G : Hp) (δ : Env) (De : DE) (Ex : XP), At tw E G0 H0 G σ H δ Ex ∧ t De δ Ex ∧ Goes tw G0 H0 De D
section
variable {X : Cx} {E : XK} {st : Stmt} {sts : List Stmt} {e c : Expr} {t u : DS} {te : DT} {tb : DB} {pos : Pos}
theorem psW {t t' : TS} (h : PS X st t) (w : ∀ D σ H, t' D σ H → t D σ H) : PS X st t' := ⟨fun p s σ H D I q => h.run p s σ H D I (w D σ H q)⟩
theorem pssW {t t' : TS} (h : PSs X sts t) (w : ∀ D σ H, t' D σ H → t D σ H) : PSs X sts t' := ⟨fun p s σ H D I q => h.run p s σ H D I (w D σ H q)⟩
def sNext : DS := fun De δ _ => De.nx δ
def sSeq (t u : DS) : DS := fun De δ Ex => t { De with nx := fun δ' => u De δ' Ex } δ Ex
theorem ds_nil : PSs X [] (liftS E sNext) := by
  refine pssW pss_nil ?_
  rintro D σ H ⟨tw, G0, H0, G, δ, De, Ex, a, h, g⟩
  exact g.nx δ G σ H h a.rep
theorem ds_cons (h1 : PS X st (liftS E t)) (h2 : PSs X sts (liftS E u)) : PSs X (st :: sts) (liftS E (sSeq t u)) := by
  refine pssW (pss_cons h1 h2) ?_
  rintro D σ H ⟨tw, G0, H0, G, δ, De, Ex, a, h, g⟩
  exact ⟨tw, G0, H0, G, δ, _, Ex, a, h, fun δ' G' σ' H' hn r => ⟨tw, G0, H0, G', δ', De, Ex, ⟨r, a.exc⟩, hn, g⟩, g.bk, g.ct, g.rt⟩
theorem ds_one (h1 : PS X st (liftS E t)) : PSs X [st] (liftS E t) := pss_one h1
def sBreak : DS := fun De δ _ => De.bk δ
def sCont : DS := fun De δ _ => De.ct δ
theorem ds_pass : PS X (.Pass pos) (liftS E sNext) := by
  refine psW ps_pass ?_
  rintro D σ H ⟨tw, G0, H0, G, δ, De, Ex, a, h, g⟩
  exact g.nx δ G σ H h a.rep
theorem ds_break : PS X (.Break pos) (liftS E sBreak) := by
  refine psW ps_break ?_
  rintro D σ H ⟨tw, G0, H0, G, δ, De, Ex, a, h, g⟩
  exact g.bk δ G σ H h a.rep
theorem ds_cont : PS X (.Continue pos) (liftS E sCont) := by
  refine psW ps_continue ?_
  rintro D σ H ⟨tw, G0, H0, G, δ, De, Ex, a, h, g⟩
  exact g.ct δ G σ H h a.rep
/-- an expression alone -/
def sExpr (te : DT) : DS := fun De δ Ex => te δ (fun _ => De.nx δ) Ex
theorem ds_expr (he : PE X e (lift E te)) (hs : swapsWith e none pos.line X.env = pure false := by rfl) : PS X (.Expr e pos) (liftS E (sExpr te)) := by
  refine psW (ps_expr he hs) ?_
  rintro D σ H ⟨tw, G0, H0, G, δ, De, Ex, a, h, g⟩
  exact ⟨tw, G0, H0, G, δ, _, Ex, a, h, fun s v G1 H1 hn r e => g.nx δ G1 σ H1 hn (a.rep.go e)⟩
def sRet (te : DT) : DS := fun De δ Ex => te δ (rtS De) Ex
theorem rt_go {tw : Tw} {G0 H0 G H : Hp} {De : DE} {D : Ends} {s : SV} {v : V} {G1 H1 : Hp} (g : Goes tw G0 H0 De D) (h : rtS De s) (r : VR tw H0 H G1 H1 v s) (e0 : Ext tw G0 H0 G H) (e : Ext tw G H G1 H1) : D.rt v H1 := by
  cases s with
  | bor l => exact g.rt (.own l) v G1 H1 h r (e0.trans e)
  | own l =>
    obtain ⟨a, vs, e1, e2, e3, e4, e5, e6⟩ := r
    exact g.rt (.own l) v G1 H1 h ⟨a, vs, e1, e2, e3, e0.free e4, e5, e6⟩ (e0.trans e)
  | d x => exact g.rt _ v G1 H1 h r (e0.trans e)
  | town => exact g.rt _ v G1 H1 h r (e0.trans e)
  | v x => exact g.rt _ v G1 H1 h r (e0.trans e)
  | abs φ m => exact g.rt _ v G1 H1 h r (e0.trans e)
theorem ds_ret (he : PE X e (lift E te)) : PS X (.Return (some e) pos) (liftS E (sRet te)) := by
  refine psW (ps_ret he) ?_
  rintro D σ H ⟨tw, G0, H0, G, δ, De, Ex, a, h, g⟩
  exact ⟨tw, G0, H0, G, δ, _, Ex, a, h, fun s v G1 H1 hn r e => rt_go g hn r a.rep.ext e⟩
def sIf (tb : DB) (t u : DS) : DS := fun De δ Ex => tb δ (fun b => if b = true then t De δ Ex else u De δ Ex) Ex
theorem ds_if {p q : List Stmt} (hc : PT X c (liftB E tb)) (h1 : PSs X p (liftS E t)) (h2 : PSs X q (liftS E u)) : PS X (.If c p q pos) (liftS E (sIf tb t u)) := by
  refine psW (ps_if hc h1 h2) ?_
  rintro D σ H ⟨tw, G0, H0, G, δ, De, Ex, a, h, g⟩
  refine ⟨tw, G0, H0, G, δ, _, Ex, a, h, fun b G1 H1 hn e => ?_⟩
  cases b with
  | true => exact ⟨tw, G0, H0, G1, δ, De, Ex, a.go e, hn, g⟩
  | false => exact ⟨tw, G0, H0, G1, δ, De, Ex, a.go e, hn, g⟩
/-! ### stores -/
theorem Rep.set {tw : Tw} {G0 H0 G H : Hp} {σ : L2.St} {δ : Env} {i : Nat} {v : V} {s : SV} (r : Rep tw G0 H0 G σ H δ) (h : SR tw H0 G H v s) (n : ∀ l a, s = .own l → v = .ref a → ∀ (j : Nat) l', j ≠ i → δ[j]? = some (some (.own l')) → σ[j]? ≠ some (some (.ref a))) : Rep tw G0 H0 G (σ.set i (some v)) H (δ.set i (some s)) := by
  refine ⟨r.ext, by rw [List.length_set, List.length_set, r.len], fun j s' hj => ?_, fun j k l l' a hj hk sj sk => ?_⟩
  · by_cases e : i = j
    · subst e
      by_cases hi : i < δ.length
      · rw [List.getElem?_set_self hi] at hj
        cases hj
        exact ⟨v, by rw [List.getElem?_set_self (by rw [r.len]; exact hi)], h⟩
      · rw [List.getElem?_eq_none (by rw [List.length_set]; omega)] at hj
        cases hj
    · rw [List.getElem?_set_ne e] at hj ⊢
      exact r.sl j s' hj
  · by_cases ej : i = j
    · by_cases ek : i = k
      · rw [← ej, ek]
      · subst ej
        rw [List.getElem?_set_ne ek] at hk sk
        have hi : i < δ.length := by
          by_cases q : i < δ.length
          · exact q
          · rw [List.getElem?_eq_none (by rw [List.length_set]; omega)] at hj
            cases hj
        rw [List.getElem?_set_self hi] at hj
        rw [List.getElem?_set_self (by rw [r.len]; exact hi)] at sj
        cases hj
        cases sj
        exact absurd sk (n l a rfl rfl k l' (Ne.symm ek) hk)
    · by_cases ek : i = k
      · subst ek
        rw [List.getElem?_set_ne ej] at hj sj
        have hi : i < δ.length := by
          by_cases q : i < δ.length
          · exact q
          · rw [List.getElem?_eq_none (by rw [List.length_set]; omega)] at hk
            cases hk
        rw [List.getElem?_set_self hi] at hk
        rw [List.getElem?_set_self (by rw [r.len]; exact hi)] at sk
        cases hk
        cases sk
        exact absurd sj (n l' a rfl rfl j l (Ne.symm ej) hj)
      · rw [List.getElem?_set_ne ej] at hj sj
        rw [List.getElem?_set_ne ek] at hk sk
        exact r.own j k l l' a hj hk sj sk
/-- a value goes into a slot: a new list is the slot's own -/
def stO (i : Nat) (δ : Env) (s : SV) (k : Env → Prop) : Prop := match s with
  | .bor _ => False
  | s => k (δ.set i (some s))
theorem stO_use {tw : Tw} {G0 H0 G H G1 H1 : Hp} {σ : L2.St} {δ : Env} {i : Nat} {v : V} {s : SV} {k : Env → Prop} (r : Rep tw G0 H0 G σ H δ) (h : stO i δ s k) (w : VR tw H0 H G1 H1 v s) (e : Ext tw G H G1 H1) :
    ∃ δ', k δ' ∧ Rep tw G0 H0 G1 (σ.set i (some v)) H1 δ' := by
  have r1 := r.go e
  cases s with
  | bor l => exact h.elim
  | own l =>
    refine ⟨_, h, r1.set ?_ ?_⟩
    · obtain ⟨a, vs, e1, e2, e3, e4, e5, e6⟩ := w
      exact ⟨a, vs, e1, e2, e3, r.ext.free e4, e5, e6⟩
    · intro l2 a es ev j l' hj hd hs
      obtain ⟨b, vs, e1, e2, e3, e4, e5, e6⟩ := w
      rw [ev] at e1
      cases e1
      obtain ⟨v2, f1, a2, vs2, f2, f3, _⟩ := r.sl j _ hd
      rw [hs] at f1
      cases f1
      cases f2
      rw [e4] at f3
      cases f3
  | d x => exact ⟨_, h, r1.set w fun _ _ z => nomatch z⟩
  | town => exact ⟨_, h, r1.set w fun _ _ z => nomatch z⟩
  | v x => exact ⟨_, h, r1.set w fun _ _ z => nomatch z⟩
  | abs φ m => exact ⟨_, h, r1.set w fun _ _ z => nomatch z⟩
def sSet (i : Nat) (te : DT) : DS := fun De δ Ex => te δ (fun s => stO i δ s De.nx) Ex
theorem ds_set {i : Nat} {x : Str} {pos' : Pos} (hN : X.N.Nodup) (hi : X.N[i]? = some x) (hx : Loc X.env.scope x) (he : PE X e (lift E te)) (hs : swapsWith e (some (.Name x pos')) pos.line X.env = pure false := by rfl)
    (hf : X.fn x = true ∨ X.env.scope.names.lookup x = some .local := by first | exact .inl rfl | exact .inr rfl | assumption) : PS X (.Assign [.Name x pos'] e pos) (liftS E (sSet i te)) := by
  refine psW (ps_set hN hi hx he hs hf) ?_
  rintro D σ H ⟨tw, G0, H0, G, δ, De, Ex, a, h, g⟩
  refine ⟨tw, G0, H0, G, δ, _, Ex, a, h, fun s v G1 H1 hn r e => ?_⟩
  obtain ⟨δ', k, r'⟩ := stO_use a.rep hn r e
  exact g.nx _ _ _ _ k r'
/-- .. frozen -/
def sSetF (i : Nat) (te : DT) : DS := fun De δ Ex => te δ (fun s => fz s fun s' => De.nx (δ.set i (some s'))) Ex
theorem fz_use {tw : Tw} {G0 H0 G H G1 H1 : Hp} {σ : L2.St} {δ : Env} {i : Nat} {v : V} {s : SV} {k : Env → Prop} (r : Rep tw G0 H0 G σ H δ) (h : fz s fun s' => k (δ.set i (some s'))) (w : VR tw H0 H G1 H1 v s) (e : Ext tw G H G1 H1) :
    ∃ δ' G2, k δ' ∧ Rep tw G0 H0 G2 (σ.set i (some v)) H1 δ' := by
  obtain ⟨s', es, hs⟩ := fz_ex h
  obtain ⟨G2, e2, sm, f⟩ := w.froze e es
  refine ⟨_, G2, hs, (r.go e2).set f.sr fun l a z => ?_⟩
  subst z
  exact f.elim
theorem ds_setF {i : Nat} {x : Str} {pos' : Pos} (hN : X.N.Nodup) (hi : X.N[i]? = some x) (hx : Loc X.env.scope x) (he : PE X e (lift E te)) (hs : swapsWith e (some (.Name x pos')) pos.line X.env = pure false := by rfl)
    (hf : X.fn x = true ∨ X.env.scope.names.lookup x = some .local := by first | exact .inl rfl | exact .inr rfl | assumption) : PS X (.Assign [.Name x pos'] e pos) (liftS E (sSetF i te)) := by
  refine psW (ps_set hN hi hx he hs hf) ?_
  rintro D σ H ⟨tw, G0, H0, G, δ, De, Ex, a, h, g⟩
  refine ⟨tw, G0, H0, G, δ, _, Ex, a, h, fun s v G1 H1 hn r e => ?_⟩
  obtain ⟨δ', G2, k, r'⟩ := fz_use a.rep hn r e
  exact g.nx _ _ _ _ k r'
/-! ### targets, for data -/
abbrev DG := PyData → Env → (Env → Prop) → Prop
/-- only slots of ns changed -/
def Dif (ns : List Nat) (σ σ' : L2.St) : Prop := σ'.length = σ.length ∧ ∀ i, i ∉ ns → σ'[i]? = σ[i]?
theorem Dif.trans {ns ms : List Nat} {σ σ1 σ2 : L2.St} (a : Dif ns σ σ1) (b : Dif ms σ1 σ2) : Dif (ns ++ ms) σ σ2 :=
  ⟨b.1.trans a.1, fun i h => (b.2 i fun z => h (List.mem_append_right _ z)).trans (a.2 i fun z => h (List.mem_append_left _ z))⟩
def liftG (ns : List Nat) (t : DG) : TG := fun v σ H R => ∃ (tw : Tw) (G0 H0 G : Hp) (δ : Env) (x : PyData) (Q : Env → Prop), Rep tw G0 H0 G σ H δ ∧ WD G v x ∧ t x δ Q ∧ ∀ δ' σ', Q δ' → Rep tw G0 H0 G σ' H δ' → Dif ns σ σ' → R σ' H
theorem pgW {t t' : TG} {tg : Expr} (h : PG X tg t) (w : ∀ v σ H R, t' v σ H R → t v σ H R) : PG X tg t' := ⟨fun p s σ H v u Q I r q => h.run p s σ H v u Q I r (w v σ H Q q)⟩
def gN (i : Nat) : DG := fun x δ Q => Q (δ.set i (some (.d x)))
theorem dg_name {i : Nat} {x : Str} (hN : X.N.Nodup) (hi : X.N[i]? = some x) (hx : Loc X.env.scope x) (hf : X.fn x = true ∨ X.env.scope.names.lookup x = some .local := by first | exact .inl rfl | exact .inr rfl | assumption) : PG X (.Name x pos) (liftG [i] (gN i)) := by
  refine pgW (pg_name hN hi hx hf) ?_
  rintro v σ H R ⟨tw, G0, H0, G, δ, x, Q, r, w, h, q⟩
  exact q _ _ h (r.set (s := .d x) w fun _ _ z => nomatch z) ⟨List.length_set .., fun j hj => List.getElem?_set_ne (fun z => hj (by rw [z]; exact List.mem_singleton.mpr rfl))⟩
abbrev DGs := List PyData → Env → (Env → Prop) → Prop
def liftGs (ns : List Nat) (t : DGs) : TGs := fun vs σ H R => ∃ (tw : Tw) (G0 H0 G : Hp) (δ : Env) (xs : List PyData) (Q : Env → Prop), Rep tw G0 H0 G σ H δ ∧ WDs G vs xs ∧ t xs δ Q ∧ ∀ δ' σ', Q δ' → Rep tw G0 H0 G σ' H δ' → Dif ns σ σ' → R σ' H
theorem pgsW {t t' : TGs} {tg : List Expr} (h : PGs X tg t) (w : ∀ v σ H R, t' v σ H R → t v σ H R) : PGs X tg t' := ⟨fun p s σ H v u Q I r q => h.run p s σ H v u Q I r (w v σ H Q q)⟩
def gsNil : DGs := fun xs δ Q => match xs with
  | [] => Q δ
  | _ :: _ => False
def gsCons (t : DG) (u : DGs) : DGs := fun xs δ Q => match xs with
  | x :: r => t x δ fun δ' => u r δ' Q
  | [] => False
theorem dgs_nil : PGs X [] (liftGs [] gsNil) := by
  refine pgsW pgs_nil ?_
  rintro vs σ H R ⟨tw, G0, H0, G, δ, xs, Q, r, w, h, q⟩
  cases w with
  | nil => exact ⟨rfl, q _ _ h r ⟨rfl, fun _ _ => rfl⟩⟩
  | cons w1 w2 => exact h.elim
theorem dgs_cons {g : Expr} {gs : List Expr} {t : DG} {u : DGs} {ns ms : List Nat} (h1 : PG X g (liftG ns t)) (h2 : PGs X gs (liftGs ms u)) (hs : (assignEach (g :: gs) X.env).map (·.2) = assign g X.env :: (assignEach gs X.env).map (·.2) := by rfl) : PGs X (g :: gs) (liftGs (ns ++ ms) (gsCons t u)) := by
  refine pgsW (pgs_cons h1 h2 hs) ?_
  rintro vs σ H R ⟨tw, G0, H0, G, δ, xs, Q, r, w, h, q⟩
  cases w with
  | nil => exact h.elim
  | @cons v x vs rr w1 w2 =>
    exact ⟨_, _, rfl, tw, G0, H0, G, δ, x, _, r, w1, h, fun δ' σ' h' r' d1 => ⟨tw, G0, H0, G, δ', rr, Q, r', w2, h', fun δ2 σ2 h2 r2 d2 => q δ2 σ2 h2 r2 (d1.trans d2)⟩⟩
def gT (n : Nat) (t : DGs) : DG := fun x δ Q => match x with
  | .tuple xs => xs.length = n ∧ t xs δ Q
  | _ => False
theorem dg_tup {es : List Expr} {k : Nat} {t : DGs} {n : Nat} {ns : List Nat} (hc : X.calm = true) (h : PGs X es (liftGs ns t)) (hn : (assignEach es X.env).length = n := by rfl) (hst : (assignEach es X.env).findIdx? (·.1) = none := by rfl) : PG X (.Tuple es k pos) (liftG ns (gT n t)) := by
  refine pgW (pg_tup hc h hn hst) ?_
  rintro v σ H R ⟨tw, G0, H0, G, δ, x, Q, r, w, h, q⟩
  cases w with
  | non => exact h.elim
  | bl _ => exact h.elim
  | int _ => exact h.elim
  | str _ => exact h.elim
  | lst _ _ _ => exact h.elim
  | @tup a vs xs w1 w2 w3 =>
    obtain ⟨hl, h⟩ := h
    exact ⟨_, _, rfl, .of (r.ext.gh _ _ w1), by rw [w3.length]; exact hl, tw, G0, H0, G, δ, xs, Q, r, w3, h, q⟩
/-- a, b = e (e a tuple) -/
def sAsg (te : DT) (g : DG) : DS := fun De δ Ex => te δ (fun s => ∃ x, asD s = some x ∧ g x δ De.nx) Ex
theorem ds_asg {tg : Expr} {g : DG} {ns : List Nat} (he : PE X e (lift E te)) (hg : PG X tg (liftG ns g)) (hs : swapsWithSole [tg] e pos.line X.env = pure false := by rfl) (hw : swappedStores [tg] e X.env = pure none := by rfl) (h1 : (assignEach [tg] X.env).map (·.2) = [assign tg X.env] := by rfl) :
    PS X (.Assign [tg] e pos) (liftS E (sAsg te g)) := by
  refine psW (ps_asg he hg hs hw h1) ?_
  rintro D σ H ⟨tw, G0, H0, G, δ, De, Ex, a, h, gg⟩
  refine ⟨tw, G0, H0, G, δ, _, Ex, a, h, fun s v G1 H1 ⟨x, es, hn⟩ r e => ?_⟩
  obtain ⟨G2, e2, sm, f⟩ := r.froze e (asF_asD es)
  exact ⟨tw, G0, H0, G2, δ, x, _, a.rep.go e2, f, hn, fun δ' σ' h' r' _ => gg.nx δ' G2 σ' H1 h' r'⟩
/-- a, b = x, y (plain local names) -/
def sPar (i j : Nat) (t u : DT) : DS := fun De δ Ex => t δ (fun x => u δ (fun y => stO i δ x fun δ1 => stO j δ1 y De.nx) Ex) Ex
theorem stO_two {tw : Tw} {G0 H0 G H G1 H1 G2 H2 : Hp} {σ : L2.St} {δ : Env} {i j : Nat} {v w : V} {s s' : SV} {k : Env → Prop} (r : Rep tw G0 H0 G σ H δ) (h : stO i δ s fun δ1 => stO j δ1 s' k) (w1 : VR tw H0 H G1 H1 v s) (e : Ext tw G H G1 H1) (w2 : VR tw H0 H1 G2 H2 w s') (e2 : Ext tw G1 H1 G2 H2) :
    ∃ δ', k δ' ∧ Rep tw G0 H0 G2 ((σ.set i (some v)).set j (some w)) H2 δ' := by
  obtain ⟨δ1, h1, r1⟩ := stO_use r h w1 e
  exact stO_use r1 h1 w2 e2
theorem ds_par {i j : Nat} {x y : Str} {a b : Expr} {ta tb : DT} {px py pt : Pos} {kt k2 pt2} (hc : X.calm = true) (hN : X.N.Nodup) (hi : X.N[i]? = some x) (hj : X.N[j]? = some y) (hij : i ≠ j) (hx : X.env.scope.names.lookup x = some .local) (hy : X.env.scope.names.lookup y = some .local)
    (ha : PE X a (lift E ta)) (hb : PE X b (lift E tb)) (hw : swappedStores [.Tuple [.Name x px, .Name y py] kt pt] (.Tuple [a, b] k2 pt2) X.env = pure (some [x, y]))
    (hs : swapsWithSole [.Tuple [.Name x px, .Name y py] kt pt] (.Tuple [a, b] k2 pt2) pos.line X.env = pure false := by rfl) (s1 : starEach (a :: [b]) X.env = (false, eval a X.env) :: starEach [b] X.env := by rfl) (s2 : starEach (b :: []) X.env = (false, eval b X.env) :: starEach [] X.env := by rfl) :
    PS X (.Assign [.Tuple [.Name x px, .Name y py] kt pt] (.Tuple [a, b] k2 pt2) pos) (liftS E (sPar i j ta tb)) := by
  refine psW (ps_par hc hN hi hj hij hx hy (pa_cons ha (pa_cons hb pa_nil s2) s1) hw hs) ?_
  rintro D σ H ⟨tw, G0, H0, G, δ, De, Ex, a, h, g⟩
  refine ⟨tw, G0, H0, G, δ, _, Ex, a, h, fun s v G1 H1 hn r e => ?_⟩
  refine ⟨tw, G0, H0, G1, δ, _, Ex, a.go e, hn, fun s' v' G2 H2 hn2 r2 e2 => ?_⟩
  obtain ⟨δ', k, r'⟩ := stO_two a.rep hn2 r e r2 e2
  exact ⟨v, v', rfl, g.nx _ _ _ _ k r'⟩
/-! ### raise -/
def sRaise (c : Value) : DS := fun _ _ Ex => Ex c
end
end DL
/-! DL 7: what is walked; for, while, comprehensions. -/
namespace DL
open PySem PySem.Spec PyProof.Rows L2
/-! ### enumerate of a tuple -/
theorem enum_one {v : Value} {o : Obj} {H : Heap → Prop} (B : Begins v o H) :
    Meets (Builtin.«enumerate.__new__» ⟨[.type "enumerate", v], []⟩) (fun _ R s => H s.heap ∧
      R (.ok (.ret (.ref (s.heap.push o).objs.size))) { s with heap := (s.heap.push o).push { cls := .type "enumerate", data := .fields #[.none, .bool false, .ref s.heap.objs.size, rawInt 0, .none, .none] } }) :=
  .of_wp fun prog w A R s h => by
    obtain ⟨hp, g, d, tk, os⟩ := s
    obtain ⟨h1, h⟩ := h
    have hsub := sub_enumerate
    have q1 : ∀ {A' : Around} {E : Value → Shared → Prop} {Q : Value → Shared → Prop}, Q (.ref hp.objs.size) ⟨hp.push o, g, d, tk, os⟩ → wpAny (model prog w) A' (pyIter v) Q E ⟨hp, g, d, tk, os⟩ :=
      fun q => B.iter prog w _ _ ⟨hp, g, d, tk, os⟩ _ h1 q
    wp_walk using q1
    refine wpAny_stack_any fun st => wpAny_pure ?_
    split
    · rename_i c _ _ _ _ _
      cases (c == Value.type "enumerate") <;> (wp_walk using q1; exact ⟨_, rfl, h⟩)
    · wp_walk using q1
      exact ⟨_, rfl, h⟩
section
variable {prog : Program} {w : World} {A : Around} {E : Value → Shared → Prop} {s : Shared}
theorem enum1_begins {v : Value} {o : Obj} {H : Heap → Prop} {Q : Value → Shared → Prop} (B : Begins v o H) (h1 : H s.heap)
    (h : ∀ h', IsEnum h' (s.heap.objs.size + 1) s.heap.objs.size 0 .none → h'.get? s.heap.objs.size = some o → (∀ b o, s.heap.get? b = some o → h'.get? b = some o) → Q (.ref (s.heap.objs.size + 1)) { s with heap := h' }) :
    wpAny (model prog w) A (call (.type "enumerate") [v]) Q E s := by
  refine callType_new F.called_enumerate (by decide) (F.typeCall_enumerate_1 _) (F.newCall_enumerate_1 _) (fun obj => F.args_object_init_2 obj _) F.entry_enumerate_new (enum_one B) ⟨h1, ?_⟩
  have hz : (s.heap.push o).objs.size = s.heap.objs.size + 1 := Heap.size_push ..
  show _ ∧ _
  rw [hz]
  have he : IsEnum ((s.heap.push o).push { cls := .type "enumerate", data := .fields #[.none, .bool false, .ref s.heap.objs.size, rawInt 0, .none, .none] }) (s.heap.objs.size + 1) s.heap.objs.size 0 .none := by
    have q := Heap.get?_push_size (s.heap.push o) (o := { cls := .type "enumerate", data := .fields #[.none, .bool false, .ref s.heap.objs.size, rawInt 0, .none, .none] }) rfl
    rw [hz] at q
    exact q
  exact ⟨⟨_, he, rfl⟩, h _ he (Heap.get?_push_of_some _ (Heap.get?_push_size _ B.free)) fun b o x => Heap.get?_push_of_some _ (Heap.get?_push_of_some _ x)⟩
end
/-- the tuple at a, each item in a new pair -/
def IteT (K : PySem.W.Frag) (a : Addr) (n : Nat) : It :=
  ⟨fun i H => ∃ xs : List V, SqT K H a xs ∧ xs.length = n ∧ i < n, fun i H v H' => ∃ T x, v = .ref T ∧ H T = none ∧ H' = upd H T (.tup [.int (i : Nat), x]) ∧ ∀ xs, SqT K H a xs → xs[i]? = some x, fun i H => i = n ∧ ∃ xs : List V, SqT K H a xs ∧ xs.length = n⟩
theorem IsTup.tuple {h : Heap} {a : Addr} {its : Array Value} (p : IsTup h a its) : h.IsTuple a its := p
theorem turn_enumT {P : Program} {w : World} {K : PySem.W.Frag} {elts : List Expr} {kk : Nat} {tpos : Pos} (a e it : Addr) (n : Nat) (hai : a ≠ it) (hae : e ≠ a) :
    Turn P w K (.Tuple elts kk tpos) (IteT K a n) [e, it] e (fun i h => (∃ old, IsEnum h e it ((i : Nat) : Int) old) ∧ h.IsTupleIter it a i ∧ e ≠ it) where
  mem := List.mem_cons_self
  obj := fun i h st b hb => by
    obtain ⟨⟨old, he⟩, ⟨o, ho, hc, hd⟩, _⟩ := st
    rcases List.mem_cons.mp hb with z | hb
    · rw [z]
      exact ⟨_, he, fun v q => nomatch q⟩
    · rw [List.mem_singleton.mp hb]
      exact ⟨o, ho, fun v q => by rw [hd] at q; cases q⟩
  keep := fun i h h' st k => let ⟨⟨old, he⟩, hi, hne⟩ := st; ⟨⟨old, k e List.mem_cons_self _ he⟩, hi.at fun o q => k it (List.mem_cons_of_mem _ List.mem_cons_self) o q, hne⟩
  item := by
    intro X hP hw hK hc i pins s σ H E I hf st hg
    subst hP hw hK
    obtain ⟨⟨old, he⟩, hit, hne⟩ := st
    obtain ⟨xs, hq, hn, hi⟩ := hg
    obtain ⟨its, rv, p, hz⟩ := I.tuple hq
    have hel : e < s.heap.objs.size := Heap.lt_size he
    have hil : it < s.heap.objs.size := by
      obtain ⟨_, q, _⟩ := hit
      exact Heap.lt_size q
    have hln : its.length = n := by rw [← hn]; exact rv.length.symm
    have hsz : its.toArray.size = n := by rw [List.size_toArray, hln]
    have D := Draws.tuple (prog := X.prog) (w := X.w) (A := X.A.in1) (I.ok.hd hc) it a hai its.toArray
    refine wpAny_pyNext_enum_itemD D he ⟨hit, p⟩ (by rw [hsz]; exact hi) hne (fun z => ?_) fun u h' tk hP ho hs' hT hsz' hk => ?_
    · rcases List.mem_cons.mp z with z | z
      · exact hne z
      · exact hae (List.mem_singleton.mp z)
    have hu : its[i]? = some u := by simpa using hP
    obtain ⟨x, hx, ru⟩ : ∃ x, xs[i]? = some x ∧ RelV x u := by
      have hi' : i < xs.length := by omega
      have e1 : xs[i]? = some xs[i] := List.getElem?_eq_getElem hi'
      obtain ⟨u', e2, r2⟩ := rv.get e1
      rw [hu] at e2
      cases e2
      exact ⟨_, e1, r2⟩
    refine ⟨_, rfl, wpAny_letOwnedTupleGo_enum (s := { s with heap := h', toks := tk + 1 }) ho fun h'' he' sb => ?_⟩
    have hT2 : h''.get? s.heap.objs.size = some { cls := .type "tuple", data := .seq #[.int i tk, u] } := (sb.2 _ (Nat.ne_of_gt hel)).trans hT
    have new : ObjOk X.prog X.w (upd H s.heap.objs.size (.tup [.int (i : Nat), x])) h'' s.heap.objs.size (.tup [.int (i : Nat), x]) :=
      ⟨by show 2 ≤ sizeLine; decide, [.int i tk, u], .cons ⟨_, rfl⟩ (.cons ru .nil), ⟨_, hT2, rfl, _, rfl⟩⟩
    have I1 : Inv X pins σ (upd H s.heap.objs.size (.tup [.int (i : Nat), x])) { s with heap := h'', toks := tk + 1 } :=
      I.turnedNew (ch := [e, it]) (fun b ob hb q => (sb.2 b (fun z => hb (by simp [z]))).trans (hk b ob (fun z => hb (by simp [z])) (fun z => hb (by simp [z])) q)) hf (Nat.le_refl _) new
    refine ⟨.ref s.heap.objs.size, _, I1, rfl, ⟨_, x, rfl, I.hok.fresh (Nat.le_refl _), rfl, fun ys hy => by rw [I.tuple_inj hy hq]; exact hx⟩, ⟨⟨u, ?_⟩, hs'.1.at fun o q => (sb.2 it (Ne.symm hne)).trans q, hne⟩, fun b hb => ?_⟩
    · have e1 : ((i + 1 : Nat) : Int) = (i : Int) + 1 := by omega
      rw [e1]
      exact he'
    · have hb' : b < s.heap.objs.size := by
        rcases List.mem_cons.mp hb with z | z
        · rw [z]; exact hel
        · rw [List.mem_singleton.mp z]; exact hil
      rw [upd_ne (Nat.ne_of_lt hb')]
      exact (hf b hb).1
  done := by
    intro X hP hw hK hc i pins s σ H E I hf st hg
    subst hP hw hK
    obtain ⟨⟨old, he⟩, hit, hne⟩ := st
    obtain ⟨rfl, xs, hq, hn⟩ := hg
    obtain ⟨its, rv, p, hz⟩ := I.tuple hq
    obtain ⟨f0, f1, f2, f3, f4, f5⟩ := hf it (List.mem_cons_of_mem _ List.mem_cons_self)
    have hsz : its.toArray.size = i := by rw [List.size_toArray, ← hn]; exact rv.length.symm
    have D := Draws.tuple (prog := X.prog) (w := X.w) (A := X.A.in1) (I.ok.hd hc) it a hai its.toArray
    exact wpAny_pyNext_enum_endD D he (by rw [hsz]; exact ⟨hit, p⟩) fun h' eb => ⟨rfl, I.turned (t' := s.toks) (fun b o hb q => eb b o hb q) f0 f1 f3 f4 f5⟩
  self := fun A i s Q E st h => let ⟨⟨_, he⟩, _⟩ := st; wpAny_pyIter_enum he h
def iEnumT (K : PySem.W.Frag) (ta : TA) : TI := fun σ H R => ta σ H fun vs H1 => ∃ a xs, vs = [.ref a] ∧ SqT K H1 a xs ∧ R (IteT K a xs.length) H1
theorem pi_enumT {X : Cx} {e : Expr} {ta : TA} {p pos tpos : Pos} {elts : List Expr} {kk : Nat} (hg : Gl X "enumerate") (hm : X.mg "enumerate" = none) (ha : PA X [e] ta) (hs : starEach [e] X.env = [(false, eval e X.env)] := by rfl) :
    PI X (.Tuple elts kk tpos) (.Call (.Name "enumerate" p) [e] [] pos) (iEnumT X.K ta) := by
  refine ⟨fun pins s σ H R I h => ?_⟩
  refine Call_ (ld_blt I hg hm boot_enumerate (PyProof.Rows.callWith_type1 (thn (ha.run pos pins s σ H _ I h) fun us s1 ⟨vs, H1, I1, r1, q1⟩ => ?_) hs rfl))
  obtain ⟨a, xs, ex, hq, q⟩ := q1
  subst ex
  cases r1 with
  | cons r rr =>
    cases rr
    cases r
    obtain ⟨its, rv, p', hz⟩ := I1.tuple hq
    refine enum1_begins (begins_tuple a its.toArray) p' fun h' he hit hk => wpAny_pyIter_enum he ?_
    have I2 : Inv X pins σ H1 { s1 with heap := h' } := I1.kept (t' := s1.toks) hk
    have hal : a < s1.heap.objs.size := by
      obtain ⟨o, ho, _⟩ := id p'
      exact Heap.lt_size ho
    refine ⟨s1.heap.objs.size + 1, [s1.heap.objs.size + 1, s1.heap.objs.size], _, _, H1, rfl, I2, turn_enumT a (s1.heap.objs.size + 1) s1.heap.objs.size xs.length (Nat.ne_of_lt hal) (Nat.ne_of_gt (Nat.lt_succ_of_lt hal)), ⟨⟨.none, he⟩, ⟨_, hit, rfl, rfl⟩, Nat.succ_ne_self _⟩, fun b hb => ?_, q⟩
    have hle : s1.heap.objs.size ≤ b := by
      rcases List.mem_cons.mp hb with z | z
      · rw [z]; exact Nat.le_add_right _ _
      · rw [List.mem_singleton.mp z]; exact Nat.le_refl _
    exact I1.fpOk hle (I1.hok.fresh hle)
end DL
/-! DL 8: iterators, for, comprehensions, while, changes of a slot's own list, raise; a def. -/
namespace DL
open PySem PySem.Spec PyProof.Rows L2
/-- a later state: what is walked still stands. fz: it is frozen -/
def Lat (fz : Bool) (tw : Tw) (G H G1 H1 : Hp) : Prop := Same G G1 ∧ Same G1 H1 ∧ (fz = false → ∀ b o, H b = some o → ¬ Vol tw b → H1 b = some o)
structure WkD (tw : Tw) (J : It) (ds : List PyData) (fz : Bool) (G H : Hp) : Prop where
  goes : ∀ i G1 H1, i < ds.length → Lat fz tw G H G1 H1 → J.go i H1
  stops : ∀ G1 H1, Lat fz tw G H G1 H1 → J.stop ds.length H1
  sz : ds.length ≤ sizeLine
  yld : ∀ i G1 H1 x H2, i < ds.length → Lat fz tw G H G1 H1 → Ok tw G1 H1 → J.yld i H1 x H2 → ∃ d G2, ds[i]? = some d ∧ WD G2 x d ∧ Ext tw G1 H1 G2 H2
abbrev DI := Env → (List PyData → Bool → Prop) → XP → Prop
def liftI (E : XK) (t : DI) : TI := fun σ H R => ∃ (tw : Tw) (G0 H0 G : Hp) (δ : Env) (Q : List PyData → Bool → Prop) (Ex : XP), At tw E G0 H0 G σ H δ Ex ∧ t δ Q Ex ∧
  ∀ ds fz J G' H', Q ds fz → Ext tw G H G' H' → WkD tw J ds fz G' H' → R J H'
theorem piW {X : Cx} {tg e : Expr} {t t' : TI} (h : PI X tg e t) (w : ∀ σ H R, t' σ H R → t σ H R) : PI X tg e t' := ⟨fun p s σ H R I q => h.run p s σ H R I (w σ H R q)⟩
/-- a list that stands by a condition -/
theorem wk_list {tw : Tw} {K : PySem.W.Frag} {a : Addr} {vs : List V} {ds : List PyData} {fz : Bool} {G H : Hp} (w : WDs G vs ds) (hz : ds.length ≤ sizeLine) (st : ∀ G1 H1, Lat fz tw G H G1 H1 → H1 a = some (.lst vs)) : WkD tw (Itl K a) ds fz G H where
  sz := hz
  goes := fun i G1 H1 hi l => by
    have e : vs[i]? = some (vs[i]'(by rw [w.length]; exact hi)) := List.getElem?_eq_getElem _
    exact ⟨vs, _, .of (st G1 H1 l), e⟩
  stops := fun G1 H1 l => ⟨vs, .of (st G1 H1 l), Nat.le_of_eq w.length⟩
  yld := fun i G1 H1 x H2 hi l ok y => by
    obtain ⟨rfl, f⟩ := y
    have e := f vs (.of (st G1 H2 l))
    obtain ⟨d, e1, e2⟩ := w.getV e
    exact ⟨d, G1, e1, WD.mono l.1 _ _ e2, ok.refl⟩
theorem wk_tup {tw : Tw} {K : PySem.W.Frag} {a : Addr} {vs : List V} {ds : List PyData} {fz : Bool} {G H : Hp} (w : WDs G vs ds) (hz : ds.length ≤ sizeLine) (st : G a = some (.tup vs)) : WkD tw (Itt K a) ds fz G H where
  sz := hz
  goes := fun i G1 H1 hi l => by
    have e : vs[i]? = some (vs[i]'(by rw [w.length]; exact hi)) := List.getElem?_eq_getElem _
    exact ⟨vs, _, .of (l.2.1 _ _ (l.1 _ _ st)), e⟩
  stops := fun G1 H1 l => ⟨vs, .of (l.2.1 _ _ (l.1 _ _ st)), Nat.le_of_eq w.length⟩
  yld := fun i G1 H1 x H2 hi l ok y => by
    obtain ⟨rfl, f⟩ := y
    have e := f vs (.of (l.2.1 _ _ (l.1 _ _ st)))
    obtain ⟨d, e1, e2⟩ := w.getV e
    exact ⟨d, G1, e1, WD.mono l.1 _ _ e2, ok.refl⟩
/-- the pairs of enumerate -/
def prs : Nat → List PyData → List PyData
  | _, [] => []
  | i, d :: ds => .tuple [.int (i : Nat), d] :: prs (i + 1) ds
theorem prs_len : ∀ (ds : List PyData) (i : Nat), (prs i ds).length = ds.length
  | [], _ => rfl
  | d :: ds, i => by
    unfold prs
    rw [List.length_cons, List.length_cons, prs_len ds]
theorem prs_get : ∀ (ds : List PyData) (k i : Nat) (d : PyData), ds[i]? = some d → (prs k ds)[i]? = some (.tuple [.int ((k + i : Nat) : Int), d])
  | [], _, _, _, h => by simp at h
  | d :: ds, k, 0, d', h => by
    have e : d = d' := by simpa using h
    subst e
    rfl
  | d :: ds, k, i + 1, d', h => by
    have h' : ds[i]? = some d' := by simpa using h
    have := prs_get ds (k + 1) i d' h'
    show (prs (k + 1) ds)[i]? = _
    rw [this, show k + 1 + i = k + (i + 1) by omega]
def zips : List PyData → List PyData → List PyData
  | a :: as, b :: bs => .tuple [a, b] :: zips as bs
  | _, _ => []
theorem zips_len : ∀ as bs : List PyData, (zips as bs).length = min as.length bs.length
  | [], _ => by simp [zips]
  | _ :: _, [] => by simp [zips]
  | a :: as, b :: bs => by
    unfold zips
    rw [List.length_cons, zips_len as bs, List.length_cons, List.length_cons]
    omega
theorem zips_get : ∀ (as bs : List PyData) (i : Nat) (a b : PyData), as[i]? = some a → bs[i]? = some b → (zips as bs)[i]? = some (.tuple [a, b])
  | [], _, _, _, _, h, _ => by simp at h
  | _ :: _, [], _, _, _, _, h => by simp at h
  | x :: as, y :: bs, 0, a, b, h, k => by
    have e : x = a := by simpa using h
    have e2 : y = b := by simpa using k
    subst e
    subst e2
    rfl
  | x :: as, y :: bs, i + 1, a, b, h, k => zips_get as bs i a b (by simpa using h) (by simpa using k)
theorem new_pair {tw : Tw} {G1 H1 : Hp} {T : Addr} {x y : V} {dx dy : PyData} (ok : Ok tw G1 H1) (n : H1 T = none) (wx : WD G1 x dx) (wy : WD G1 y dy) : ∃ G2, WD G2 (.ref T) (.tuple [dx, dy]) ∧ Ext tw G1 H1 G2 (upd H1 T (.tup [x, y])) := by
  obtain ⟨e, w⟩ := put_tup (vs := [x, y]) (ds := [dx, dy]) ok n (.cons wx (.cons wy .nil)) (by show 2 ≤ sizeLine; decide)
  exact ⟨_, w, e⟩
theorem wk_enum {tw : Tw} {K : PySem.W.Frag} {a : Addr} {vs : List V} {ds : List PyData} {fz : Bool} {G H : Hp} (w : WDs G vs ds) (hz : ds.length ≤ sizeLine) (st : ∀ G1 H1, Lat fz tw G H G1 H1 → H1 a = some (.lst vs)) : WkD tw (Ite K a) (prs 0 ds) fz G H where
  sz := by rw [prs_len]; exact hz
  goes := fun i G1 H1 hi l => by
    rw [prs_len] at hi
    have e : vs[i]? = some (vs[i]'(by rw [w.length]; exact hi)) := List.getElem?_eq_getElem _
    exact ⟨vs, _, .of (st G1 H1 l), e⟩
  stops := fun G1 H1 l => ⟨vs, .of (st G1 H1 l), by rw [prs_len]; exact Nat.le_of_eq w.length⟩
  yld := fun i G1 H1 x H2 hi l ok y => by
    obtain ⟨T, z, rfl, n, rfl, f⟩ := y
    have e := f vs (.of (st G1 H1 l))
    obtain ⟨d, e1, e2⟩ := w.getV e
    obtain ⟨G2, w2, e3⟩ := new_pair (tw := tw) ok n (.int (i : Nat)) (WD.mono l.1 _ _ e2)
    refine ⟨_, G2, prs_get ds 0 i d e1, ?_, e3⟩
    rw [Nat.zero_add]
    exact w2
theorem wk_enumT {tw : Tw} {K : PySem.W.Frag} {a : Addr} {vs : List V} {ds : List PyData} {fz : Bool} {G H : Hp} (w : WDs G vs ds) (hz : ds.length ≤ sizeLine) (st : G a = some (.tup vs)) : WkD tw (IteT K a vs.length) (prs 0 ds) fz G H where
  sz := by rw [prs_len]; exact hz
  goes := fun i G1 H1 hi l => by
    rw [prs_len] at hi
    exact ⟨vs, .of (l.2.1 _ _ (l.1 _ _ st)), rfl, by rw [w.length]; exact hi⟩
  stops := fun G1 H1 l => ⟨by rw [prs_len, w.length], vs, .of (l.2.1 _ _ (l.1 _ _ st)), rfl⟩
  yld := fun i G1 H1 x H2 hi l ok y => by
    obtain ⟨T, z, rfl, n, rfl, f⟩ := y
    have e := f vs (.of (l.2.1 _ _ (l.1 _ _ st)))
    obtain ⟨d, e1, e2⟩ := w.getV e
    obtain ⟨G2, w2, e3⟩ := new_pair (tw := tw) ok n (.int (i : Nat)) (WD.mono l.1 _ _ e2)
    refine ⟨_, G2, prs_get ds 0 i d e1, ?_, e3⟩
    rw [Nat.zero_add]
    exact w2
theorem wk_zipT {tw : Tw} {K : PySem.W.Frag} {a b : Addr} {vs us : List V} {ds es : List PyData} {fz : Bool} {G H : Hp} (w : WDs G vs ds) (w2 : WDs G us es) (hz : ds.length ≤ sizeLine) (st : G a = some (.tup vs)) (st2 : G b = some (.tup us)) : WkD tw (RZ.ItzT K a b) (zips ds es) fz G H where
  sz := by rw [zips_len]; omega
  goes := fun i G1 H1 hi l => by
    rw [zips_len] at hi
    have e : vs[i]? = some (vs[i]'(by rw [w.length]; omega)) := List.getElem?_eq_getElem _
    have e2 : us[i]? = some (us[i]'(by rw [w2.length]; omega)) := List.getElem?_eq_getElem _
    exact ⟨vs, us, _, _, .of (l.2.1 _ _ (l.1 _ _ st)), .of (l.2.1 _ _ (l.1 _ _ st2)), e, e2⟩
  stops := fun G1 H1 l => ⟨vs, us, .of (l.2.1 _ _ (l.1 _ _ st)), .of (l.2.1 _ _ (l.1 _ _ st2)), by rw [zips_len, w.length, w2.length]; omega⟩
  yld := fun i G1 H1 x H2 hi l ok y => by
    obtain ⟨T, z, z2, rfl, n, rfl, f, f2⟩ := y
    obtain ⟨d, e1, e2⟩ := w.getV (f vs (.of (l.2.1 _ _ (l.1 _ _ st))))
    obtain ⟨d', e1', e2'⟩ := w2.getV (f2 us (.of (l.2.1 _ _ (l.1 _ _ st2))))
    obtain ⟨G2, w3, e3⟩ := new_pair (tw := tw) ok n (WD.mono l.1 _ _ e2) (WD.mono l.1 _ _ e2')
    exact ⟨_, G2, zips_get ds es i d d' e1 e1', w3, e3⟩
/-- lo, lo + 1, .. -/
def rngD (lo : Int) : Nat → List PyData
  | 0 => []
  | n + 1 => .int lo :: rngD (lo + 1) n
theorem rngD_len : ∀ (n : Nat) (lo : Int), (rngD lo n).length = n
  | 0, _ => rfl
  | n + 1, lo => by
    unfold rngD
    rw [List.length_cons, rngD_len n]
theorem rngD_get : ∀ (n : Nat) (lo : Int) (i : Nat), i < n → (rngD lo n)[i]? = some (.int (lo + i))
  | 0, _, _, h => absurd h (Nat.not_lt_zero _)
  | n + 1, lo, 0, _ => by
    show some _ = _
    rw [show lo + ((0 : Nat) : Int) = lo by omega]
  | n + 1, lo, i + 1, h => by
    show (rngD (lo + 1) n)[i]? = _
    rw [rngD_get n (lo + 1) i (by omega), show lo + 1 + (i : Int) = lo + ((i + 1 : Nat) : Int) by omega]
theorem wk_rng {tw : Tw} {lo : Int} {n : Nat} {fz : Bool} {G H : Hp} (hz : n ≤ sizeLine) : WkD tw (Itr lo n) (rngD lo n) fz G H where
  sz := by rw [rngD_len]; exact hz
  goes := fun i G1 H1 hi l => by
    rw [rngD_len] at hi
    exact hi
  stops := fun G1 H1 l => by
    rw [rngD_len]
    exact Nat.le_refl _
  yld := fun i G1 H1 x H2 hi l ok y => by
    obtain ⟨rfl, rfl⟩ := y
    rw [rngD_len] at hi
    exact ⟨_, G1, rngD_get n lo i hi, .int _, ok.refl⟩
def fzB : SV → Bool
  | .bor _ => false
  | _ => true
/-- the list behind a value, and how it stands: frozen (a new one is frozen on the spot), or held by a slot -/
theorem VR.walk {tw : Tw} {H0 H G' H' : Hp} {G : Hp} {v : V} {s : SV} {l : List PyData} (r : VR tw H0 H G' H' v s) (e : Ext tw G H G' H') (h : asL s = some l) :
    ∃ a vs G2 fz, v = .ref a ∧ Ext tw G H G2 H' ∧ Same G' G2 ∧ WDs G2 vs l ∧ H' a = some (.lst vs) ∧ l.length ≤ sizeLine ∧ fz = fzB s ∧ ∀ G1 H1, Lat fz tw G2 H' G1 H1 → H1 a = some (.lst vs) := by
  cases s with
  | d x =>
    cases x with
    | list l' =>
      cases h
      cases r with
      | lst h1 h2 h3 => exact ⟨_, _, G', true, rfl, e, fun _ _ z => z, h3, e.gh _ _ h1, h2, rfl, fun G1 H1 l => l.2.1 _ _ (l.1 _ _ h1)⟩
    | none => cases h
    | bool _ => cases h
    | int _ => cases h
    | str _ => cases h
    | tuple _ => cases h
    | dict _ => cases h
  | own l' =>
    cases h
    obtain ⟨a, vs, rfl, e2, e3, e4, e5, e6⟩ := r
    exact ⟨a, vs, _, true, rfl, e.freeze e2 e3 e4, same_freeze e3, WDs.mono (same_freeze e3) _ _ e5, e2, e6, rfl, fun G1 H1 l => l.2.1 _ _ (l.1 _ _ upd_same)⟩
  | bor l' =>
    cases h
    obtain ⟨a, vs, rfl, e2, e3, e4, e5, e6⟩ := r
    exact ⟨a, vs, G', false, rfl, e, fun _ _ z => z, e5, e2, e6, rfl, fun G1 H1 l => l.2.2 rfl _ _ e2 (Ext.nonvol e.tk e2 fun _ z => nomatch z)⟩
  | town => cases h
  | v x => cases h
  | abs φ m => cases h
section
variable {X : Cx} {E : XK} {tg e e2 : Expr} {te te2 : DT} {p pos tpos : Pos}
/-! ### iterators -/
theorem pi_seq {l : Expr} {tl : TE} (hl : PE X l tl) : PI X tg l (fun σ H R => tl σ H fun x H1 => (∃ a, x = .ref a ∧ (∃ xs, SqL X.K H1 a xs) ∧ R (Itl X.K a) H1) ∨ ∃ a, x = .ref a ∧ (∃ xs, SqT X.K H1 a xs) ∧ R (Itt X.K a) H1) := by
  refine ⟨fun pins s σ H R I h => thn (hl.run pins s σ H _ I h) fun v s1 ⟨x, H1, I1, r1, q1⟩ => ?_⟩
  rcases q1 with ⟨a, rfl, ⟨xs, hq⟩, q⟩ | ⟨a, rfl, ⟨xs, hq⟩, q⟩
  · cases r1
    obtain ⟨its, rv, pl, hz⟩ := I1.list hq
    refine wpAny_pyIter_list pl.isList ⟨s1.heap.objs.size, [s1.heap.objs.size], _, _, H1, rfl, I1.kept (t' := s1.toks) fun b o z => Heap.get?_push_of_some _ z, turn_list a _, ⟨_, Heap.get?_push_size _ rfl, rfl, rfl⟩, fun b hb => ?_, q⟩
    rw [List.mem_singleton.mp hb]
    exact I1.fpOk (Nat.le_refl _) (I1.hok.fresh (Nat.le_refl _))
  · cases r1
    obtain ⟨its, rv, pl, hz⟩ := I1.tuple hq
    refine wpAny_pyIter_tuple (show s1.heap.IsTuple a its.toArray from pl) ⟨s1.heap.objs.size, [s1.heap.objs.size], _, _, H1, rfl, I1.kept (t' := s1.toks) fun b o z => Heap.get?_push_of_some _ z, turn_tuple a _, ⟨_, Heap.get?_push_size _ rfl, rfl, rfl⟩, fun b hb => ?_, q⟩
    rw [List.mem_singleton.mp hb]
    exact I1.fpOk (Nat.le_refl _) (I1.hok.fresh (Nat.le_refl _))
def iSeq (te : DT) : DI := fun δ Q Ex => te δ (fun s => ∃ l, asS s = some l ∧ Q l (fzB s)) Ex
theorem di_seq (h : PE X e (lift E te)) : PI X tg e (liftI E (iSeq te)) := by
  refine piW (pi_seq h) ?_
  rintro σ H R ⟨tw, G0, H0, G, δ, Q, Ex, a, h, q⟩
  refine ⟨tw, G0, H0, G, δ, _, Ex, a, h, fun s v G1 H1 ⟨l, el, hs⟩ r e => ?_⟩
  rcases asS_cases el with hl | rfl
  · obtain ⟨p, vs, G2, fz, rfl, x2, sm, w, hp, z, ef, st⟩ := r.walk e hl
    refine .inl ⟨p, rfl, ⟨vs, .of hp⟩, q l fz _ G2 H1 ?_ x2 (wk_list w z st)⟩
    rw [ef]
    exact hs
  · obtain ⟨p, vs, rfl, e1, w, z⟩ := r.tup
    exact .inr ⟨p, rfl, ⟨vs, .of (e.gh _ _ e1)⟩, q l true _ G1 H1 hs e (wk_tup w z e1)⟩
def iRng1D (te : DT) : DI := fun δ Q Ex => te δ (fun s => ∃ n : Int, s = .d (.int n) ∧ -1000 ≤ n ∧ n ≤ 1000000 ∧ Q (rngD 0 n.toNat) true) Ex
theorem di_rng1 (hm : X.mg "range" = none) (h : PE X e (lift E te)) (hg : Gl X "range" := by rfl) (he : starEach [e] X.env = [(false, eval e X.env)] := by rfl) : PI X tg (.Call (.Name "range" p) [e] [] pos) (liftI E (iRng1D te)) := by
  refine piW (pi_range1 hg hm (pa_cons h pa_nil he) he) ?_
  rintro σ H R ⟨tw, G0, H0, G, δ, Q, Ex, a, h, q⟩
  refine ⟨tw, G0, H0, G, δ, _, Ex, a, h, fun s v G1 H1 ⟨n, es, h1, h2, hs⟩ r e => ?_⟩
  subst es
  have ev := r.int
  subst ev
  exact ⟨n, rfl, by omega, by omega, q _ _ _ G1 H1 hs e (wk_rng (by rw [sizeLine_eq]; omega))⟩
def iRng2D (te te2 : DT) : DI := fun δ Q Ex => te δ (fun s => te2 δ (fun s2 => ∃ lo hi : Int, s = .d (.int lo) ∧ s2 = .d (.int hi) ∧ -1000 ≤ lo ∧ lo ≤ 1000000 ∧ -1000 ≤ hi ∧ hi ≤ 1000000 ∧ Q (rngD lo (hi - lo).toNat) true) Ex) Ex
theorem di_rng2 (hm : X.mg "range" = none) (h : PE X e (lift E te)) (h2 : PE X e2 (lift E te2)) (hg : Gl X "range" := by rfl) (s1 : starEach [e, e2] X.env = [(false, eval e X.env), (false, eval e2 X.env)] := by rfl) (s2 : starEach [e2] X.env = [(false, eval e2 X.env)] := by rfl) : PI X tg (.Call (.Name "range" p) [e, e2] [] pos) (liftI E (iRng2D te te2)) := by
  refine piW (pi_range2 hg hm (pa_cons h (pa_cons h2 pa_nil s2) (by rw [s1, s2])) s1 s2) ?_
  rintro σ H R ⟨tw, G0, H0, G, δ, Q, Ex, a, h, q⟩
  refine ⟨tw, G0, H0, G, δ, _, Ex, a, h, fun s v G1 H1 h1 r e => ?_⟩
  refine ⟨tw, G0, H0, G1, δ, _, Ex, a.go e, h1, fun s2 v2 G2 H2 ⟨lo, hi, es, es2, b1, b2, b3, b4, hs⟩ r2 e2 => ?_⟩
  subst es
  subst es2
  have ev := r.int
  have ev2 := r2.int
  subst ev
  subst ev2
  exact ⟨lo, hi, rfl, ⟨by omega, by omega, by omega, by omega⟩, q _ _ _ G2 H2 hs (e.trans e2) (wk_rng (by rw [sizeLine_eq]; omega))⟩
/-- enumerate -/
theorem pi_enumA {ta : TA} {elts : List Expr} {kk : Nat} (hg : Gl X "enumerate") (hm : X.mg "enumerate" = none) (ha : PA X [e] ta) (hs : starEach [e] X.env = [(false, eval e X.env)] := by rfl) :
    PI X (.Tuple elts kk tpos) (.Call (.Name "enumerate" p) [e] [] pos) (fun σ H R => ta σ H fun vs H1 => (∃ a xs, vs = [.ref a] ∧ SqL X.K H1 a xs ∧ R (Ite X.K a) H1) ∨ ∃ a xs, vs = [.ref a] ∧ SqT X.K H1 a xs ∧ R (IteT X.K a xs.length) H1) := by
  refine ⟨fun pins s σ H R I h => ?_⟩
  refine Call_ (ld_blt I hg hm boot_enumerate (PyProof.Rows.callWith_type1 (thn (ha.run pos pins s σ H _ I h) fun us s1 ⟨vs, H1, I1, r1, q1⟩ => ?_) hs rfl))
  have fp : ∀ b, b ∈ [s1.heap.objs.size + 1, s1.heap.objs.size] → FpOk X pins H1 b := fun b hb => by
    have hle : s1.heap.objs.size ≤ b := by
      rcases List.mem_cons.mp hb with z | z
      · rw [z]; exact Nat.le_add_right _ _
      · rw [List.mem_singleton.mp z]; exact Nat.le_refl _
    exact I1.fpOk hle (I1.hok.fresh hle)
  rcases q1 with ⟨a, xs, ex, hq, q⟩ | ⟨a, xs, ex, hq, q⟩
  · subst ex
    cases r1 with
    | cons r rr =>
      cases rr
      cases r
      obtain ⟨its, rv, p', hz⟩ := I1.list hq
      refine call_enumerate_list p'.isList fun h' he hit hsz hk => wpAny_pyIter_enum he ?_
      have I2 : Inv X pins σ H1 { s1 with heap := h' } := I1.kept (t' := s1.toks) hk
      exact ⟨s1.heap.objs.size + 1, [s1.heap.objs.size + 1, s1.heap.objs.size], _, _, H1, rfl, I2, turn_enum a (s1.heap.objs.size + 1) s1.heap.objs.size, ⟨⟨.none, he⟩, hit, Nat.succ_ne_self _⟩, fp, q⟩
  · subst ex
    cases r1 with
    | cons r rr =>
      cases rr
      cases r
      obtain ⟨its, rv, p', hz⟩ := I1.tuple hq
      refine enum1_begins (begins_tuple a its.toArray) p' fun h' he hit hk => wpAny_pyIter_enum he ?_
      have I2 : Inv X pins σ H1 { s1 with heap := h' } := I1.kept (t' := s1.toks) hk
      have hal : a < s1.heap.objs.size := by
        obtain ⟨o, ho, _⟩ := id p'
        exact Heap.lt_size ho
      exact ⟨s1.heap.objs.size + 1, [s1.heap.objs.size + 1, s1.heap.objs.size], _, _, H1, rfl, I2, turn_enumT a (s1.heap.objs.size + 1) s1.heap.objs.size xs.length (Nat.ne_of_lt hal) (Nat.ne_of_gt (Nat.lt_succ_of_lt hal)), ⟨⟨.none, he⟩, ⟨_, hit, rfl, rfl⟩, Nat.succ_ne_self _⟩, fp, q⟩
def iEnumD (te : DT) : DI := fun δ Q Ex => te δ (fun s => ∃ l, asS s = some l ∧ Q (prs 0 l) (fzB s)) Ex
theorem di_enum {elts : List Expr} {kk : Nat} (hm : X.mg "enumerate" = none) (h : PE X e (lift E te)) (hg : Gl X "enumerate" := by rfl) (he : starEach [e] X.env = [(false, eval e X.env)] := by rfl) : PI X (.Tuple elts kk tpos) (.Call (.Name "enumerate" p) [e] [] pos) (liftI E (iEnumD te)) := by
  refine piW (pi_enumA hg hm (pa_cons h pa_nil he) he) ?_
  rintro σ H R ⟨tw, G0, H0, G, δ, Q, Ex, a, h, q⟩
  refine ⟨tw, G0, H0, G, δ, _, Ex, a, h, fun s v G1 H1 ⟨l, el, hs⟩ r e => ?_⟩
  rcases asS_cases el with hl | rfl
  · obtain ⟨p, vs, G2, fz, rfl, x2, sm, w, hp, z, ef, st⟩ := r.walk e hl
    refine .inl ⟨p, vs, rfl, .of hp, q _ fz _ G2 H1 ?_ x2 (wk_enum w z st)⟩
    rw [ef]
    exact hs
  · obtain ⟨p, vs, rfl, e1, w, z⟩ := r.tup
    exact .inr ⟨p, vs, rfl, .of (e.gh _ _ e1), q _ true _ G1 H1 hs e (wk_enumT w z e1)⟩
/-- zip of two tuples -/
def iZipD (te te2 : DT) : DI := fun δ Q Ex => te δ (fun s => te2 δ (fun s2 => ∃ l l2, s = .d (.tuple l) ∧ s2 = .d (.tuple l2) ∧ Q (zips l l2) true) Ex) Ex
theorem di_zip {elts : List Expr} {kk : Nat} (hm : X.mg "zip" = none) (h : PE X e (lift E te)) (h2 : PE X e2 (lift E te2)) (hg : Gl X "zip" := by rfl) (s1 : starEach [e, e2] X.env = (false, eval e X.env) :: starEach [e2] X.env := by rfl) (s2 : starEach [e2] X.env = (false, eval e2 X.env) :: starEach [] X.env := by rfl) (hpl : (backTo pos (starEach [e2] X.env)).any (·.1) = false := by rfl) :
    PI X (.Tuple elts kk tpos) (.Call (.Name "zip" p) [e, e2] [] pos) (liftI E (iZipD te te2)) := by
  refine piW (RZ.pi_zipA hg hm (pa_cons h (pa_cons h2 pa_nil s2) s1) s1 hpl) ?_
  rintro σ H R ⟨tw, G0, H0, G, δ, Q, Ex, a, h, q⟩
  refine ⟨tw, G0, H0, G, δ, _, Ex, a, h, fun s v G1 H1 h1 r e => ?_⟩
  refine ⟨tw, G0, H0, G1, δ, _, Ex, a.go e, h1, fun s2 v2 G2 H2 hs r2 e2 => ?_⟩
  obtain ⟨l, l2, rfl, rfl, hs⟩ := hs
  obtain ⟨p, vs, rfl, e1, w, z⟩ := r.tup
  obtain ⟨p2, vs2, rfl, e12, w2, z2⟩ := r2.tup
  have g1 := e2.gg _ _ e1
  exact ⟨p, p2, vs, vs2, rfl, .inr ⟨.of (e2.gh _ _ g1), .of (e2.gh _ _ e12), q _ true _ G2 H2 hs (e.trans e2) (wk_zipT (WDs.mono e2.gg _ _ w) w2 z g1 e12)⟩⟩
end
end DL
/-! DL 9: for, while, comprehensions, changes of a slot's own list, raise; a def. -/
namespace DL
open PySem PySem.Spec PyProof.Rows L2
section
variable {tw : Tw} {G0 H0 Gw Hw G H : Hp} {σ : L2.St} {δ : Env}
theorem Ext.down (w : Ext tw G0 H0 Gw Hw) (e : Ext tw Gw H0 G H) : Ext tw G0 H0 G H :=
  ⟨fun b o h => e.gg b o (w.gg b o h), e.gh, e.hh, e.tk, e.nv, fun a o h => (e.new a o h).elim (fun z => w.new a o z) .inr⟩
theorem Ext.up (w : Ext tw G0 H0 Gw Hw) (e : Ext tw G0 H0 G H) (s : Same Gw G) : Ext tw Gw H0 G H :=
  ⟨s, e.gh, e.hh, e.tk, e.nv, fun a o h => (e.new a o h).elim (fun z => .inl (w.gg a o z)) .inr⟩
theorem Rep.down (w : Ext tw G0 H0 Gw Hw) (r : Rep tw Gw H0 G σ H δ) : Rep tw G0 H0 G σ H δ := ⟨w.down r.ext, r.len, r.sl, r.own⟩
theorem Rep.up (w : Ext tw G0 H0 Gw Hw) (r : Rep tw G0 H0 G σ H δ) (s : Same Gw G) : Rep tw Gw H0 G σ H δ := ⟨w.up r.ext s, r.len, r.sl, r.own⟩
end
/-! ### for -/
def forR (g : DG) (tb : DS) : List PyData → DE → Env → XP → Prop
  | [], De, δ, _ => De.nx δ
  | x :: xs, De, δ, Ex => g x δ fun δ1 => tb { De with nx := fun δ2 => forR g tb xs De δ2 Ex, ct := fun δ2 => forR g tb xs De δ2 Ex, bk := De.nx } δ1 Ex
def sFor (ti : DI) (g : DG) (tb : DS) : DS := fun De δ Ex => ti δ (fun ds fz => fz = true ∧ forR g tb ds De δ Ex) Ex
section
variable {X : Cx} {E : XK} {tg iter e : Expr} {body : List Stmt} {ti : DI} {g : DG} {tb : DS} {pos : Pos} {ns : List Nat}
theorem ds_for (hp : PassesOwn (model X.prog X.w) X.A X.env X.xe) (hc : X.calm = true) (hi : PI X tg iter (liftI E ti)) (hg : PG X tg (liftG ns g)) (hb : PSs X body (liftS E tb)) (hs : ∀ x, foldedSetIterable iter X.env x = pure x := by intro _; rfl) :
    PS X (.For tg iter body [] pos) (liftS E (sFor ti g tb)) := by
  refine psW (ps_for hp hc hi hg hb hs) ?_
  rintro D σ H ⟨tw, G0, H0, G, δ, De, Ex, a, h, gg⟩
  refine ⟨tw, G0, H0, G, δ, _, Ex, a, h, fun ds fz J Gw Hw ⟨ez, hq⟩ ew wk => ?_⟩
  subst ez
  have w0 : Ext tw G0 H0 Gw Hw := a.rep.ext.trans ew
  refine ⟨fun i m σ H => i + m = ds.length ∧ ∃ G δ, Rep tw G0 H0 G σ H δ ∧ Same Gw G ∧ forR g tb (ds.drop i) De δ Ex, ⟨ds.length, by omega, Gw, δ, a.rep.go ew, fun _ _ z => z, hq⟩, ?_⟩
  rintro i m σ1 H1 ⟨em, G1, δ1, r1, s1, q1⟩
  have lat : Lat true tw Gw Hw G1 H1 := ⟨s1, r1.ext.gh, fun z => nomatch z⟩
  by_cases hi : i < ds.length
  · refine .inr ⟨wk.goes i G1 H1 hi lat, fun σ' H' => ∃ G' δ', Rep tw G0 H0 G' σ' H' δ' ∧ Same Gw G' ∧ forR g tb (ds.drop (i + 1)) De δ' Ex, fun σ' H' ⟨G', δ', r', s', q'⟩ => ⟨m - 1, by omega, by omega, G', δ', r', s', q'⟩, fun x H2 hy => ?_⟩
    obtain ⟨d, G2, ed, wd, e2⟩ := wk.yld i G1 H1 x H2 hi lat r1.ok hy
    have hd : ds.drop i = d :: ds.drop (i + 1) := by
      rw [List.drop_eq_getElem_cons hi]
      have : ds[i] = d := by
        rw [List.getElem?_eq_getElem hi] at ed
        exact Option.some.inj ed
      rw [this]
    rw [hd] at q1
    have r2 := r1.go e2
    have s2 : Same Gw G2 := fun b o z => e2.gg b o (s1 b o z)
    refine ⟨tw, G0, H0, G2, δ1, d, _, r2, wd, q1, fun δ3 σ3 q3 r3 _ => ?_⟩
    refine ⟨tw, Gw, H0, G2, δ3, _, Ex, ⟨r3.up w0 s2, fun c G' H' hc e => a.exc c G' H' hc (w0.down e)⟩, q3, ⟨?_, ?_, ?_, ?_⟩⟩
    · exact fun δ4 G4 σ4 H4 q4 r4 => ⟨G4, δ4, r4.down w0, r4.ext.gg, q4⟩
    · exact fun δ4 G4 σ4 H4 q4 r4 => gg.nx δ4 G4 σ4 H4 q4 (r4.down w0)
    · exact fun δ4 G4 σ4 H4 q4 r4 => ⟨G4, δ4, r4.down w0, r4.ext.gg, q4⟩
    · exact fun s v G4 H4 q4 v4 e4 => gg.rt s v G4 H4 q4 v4 (w0.down e4)
  · have ei : i = ds.length := by omega
    subst ei
    refine .inl ⟨wk.stops G1 H1 lat, ?_⟩
    rw [List.drop_length] at q1
    exact gg.nx δ1 G1 σ1 H1 q1 r1
/-! ### while -/
def whR (c : DB) (tb : DS) : Nat → DE → Env → XP → Prop
  | 0, _, _, _ => False
  | n + 1, De, δ, Ex => c δ (fun b => if b = true then tb { De with nx := fun δ2 => whR c tb n De δ2 Ex, ct := fun δ2 => whR c tb n De δ2 Ex, bk := De.nx } δ Ex else De.nx δ) Ex
def sWhile (c : DB) (tb : DS) : DS := fun De δ Ex => ∃ n, whR c tb n De δ Ex
theorem ds_while {c : Expr} {tc : DB} (hp : PassesOwn (model X.prog X.w) X.A X.env X.xe) (hc : PT X c (liftB E tc)) (hb : PSs X body (liftS E tb)) : PS X (.While c body [] pos) (liftS E (sWhile tc tb)) := by
  refine psW (ps_while hp hc hb) ?_
  rintro D σ H ⟨tw, G0, H0, G, δ, De, Ex, a, ⟨n, h⟩, gg⟩
  refine ⟨fun m σ H => ∃ G δ, Rep tw G0 H0 G σ H δ ∧ whR tc tb m De δ Ex, ⟨n, G, δ, a.rep, h⟩, ?_⟩
  rintro m σ1 H1 ⟨G1, δ1, r1, q1⟩
  cases m with
  | zero => exact q1.elim
  | succ m =>
    refine ⟨tw, G0, H0, G1, δ1, _, Ex, ⟨r1, a.exc⟩, q1, fun b G2 H2 q2 e2 => ?_⟩
    cases b with
    | true =>
      rw [if_pos rfl] at q2 ⊢
      refine ⟨fun σ' H' => ∃ G' δ', Rep tw G0 H0 G' σ' H' δ' ∧ whR tc tb m De δ' Ex, fun σ' H' z => ⟨m, Nat.lt_succ_self _, z⟩, tw, G0, H0, G2, δ1, _, Ex, ⟨r1.go e2, a.exc⟩, q2, ⟨?_, ?_, ?_, ?_⟩⟩
      · exact fun δ4 G4 σ4 H4 q4 r4 => ⟨G4, δ4, r4, q4⟩
      · exact fun δ4 G4 σ4 H4 q4 r4 => gg.nx δ4 G4 σ4 H4 q4 r4
      · exact fun δ4 G4 σ4 H4 q4 r4 => ⟨G4, δ4, r4, q4⟩
      · exact gg.rt
    | false =>
      rw [if_neg Bool.false_ne_true] at q2 ⊢
      exact gg.nx δ1 G2 σ1 H2 q2 (r1.go e2)
/-! ### comprehensions -/
def wipeD (δ : Env) : List Nat → Env
  | [] => δ
  | v :: vs => (wipeD δ vs).set v none
theorem wipe_get : ∀ (vs : List Nat) (σ : L2.St) (i : Nat), (wipe σ vs)[i]? = if i ∈ vs ∧ i < σ.length then some none else σ[i]?
  | [], σ, i => by
    rw [if_neg fun z => by cases z.1]
    rfl
  | v :: vs, σ, i => by
    unfold wipe
    have ih := wipe_get vs σ i
    by_cases hi : v = i
    · subst hi
      by_cases hl : v < σ.length
      · rw [List.getElem?_set_self (by rw [wipe_length]; exact hl), if_pos ⟨List.mem_cons_self, hl⟩]
      · rw [List.getElem?_eq_none (by rw [List.length_set, wipe_length]; omega), if_neg fun z => hl z.2, List.getElem?_eq_none (by omega)]
    · rw [List.getElem?_set_ne hi, ih]
      by_cases hm : i ∈ vs ∧ i < σ.length
      · rw [if_pos hm, if_pos ⟨List.mem_cons_of_mem _ hm.1, hm.2⟩]
      · rw [if_neg hm, if_neg fun z => hm ⟨(List.mem_cons.mp z.1).resolve_left (Ne.symm hi), z.2⟩]
theorem wipeD_len (δ : Env) : ∀ vs : List Nat, (wipeD δ vs).length = δ.length
  | [] => rfl
  | v :: vs => by
    unfold wipeD
    rw [List.length_set, wipeD_len δ vs]
theorem wipeD_get : ∀ (vs : List Nat) (δ : Env) (i : Nat) (s : SV), (wipeD δ vs)[i]? = some (some s) → i ∉ vs ∧ δ[i]? = some (some s)
  | [], δ, i, s, h => ⟨fun z => (nomatch z), h⟩
  | v :: vs, δ, i, s, h => by
    unfold wipeD at h
    by_cases hi : v = i
    · subst hi
      by_cases hl : v < (wipeD δ vs).length
      · rw [List.getElem?_set_self hl] at h
        cases h
      · rw [List.getElem?_eq_none (by rw [List.length_set]; omega)] at h
        cases h
    · rw [List.getElem?_set_ne hi] at h
      obtain ⟨h1, h2⟩ := wipeD_get vs δ i s h
      exact ⟨fun z => (List.mem_cons.mp z).elim (fun q => hi q.symm) h1, h2⟩
theorem Dif.wipe {ns vs : List Nat} {σ σ' : L2.St} (d : Dif ns σ σ') (h : ∀ i ∈ ns, i ∈ vs) : L2.wipe σ' vs = L2.wipe σ vs := by
  apply List.ext_getElem?
  intro i
  rw [wipe_get, wipe_get, d.1]
  by_cases hm : i ∈ vs ∧ i < σ.length
  · rw [if_pos hm, if_pos hm]
  · rw [if_neg hm, if_neg hm]
    by_cases hv : i ∈ ns
    · have hl : ¬ i < σ.length := fun z => hm ⟨h i hv, z⟩
      rw [List.getElem?_eq_none (by rw [d.1]; omega), List.getElem?_eq_none (by omega)]
    · exact d.2 i hv
theorem wipe_wipe (σ : L2.St) (vs : List Nat) : L2.wipe (L2.wipe σ vs) vs = L2.wipe σ vs := by
  apply List.ext_getElem?
  intro i
  rw [wipe_get, wipe_get, wipe_length]
  by_cases hm : i ∈ vs ∧ i < σ.length
  · rw [if_pos hm, if_pos hm]
  · rw [if_neg hm]
theorem Rep.wipe {tw : Tw} {G0 H0 G H : Hp} {σ : L2.St} {δ : Env} (r : Rep tw G0 H0 G σ H δ) (vs : List Nat) : Rep tw G0 H0 G (L2.wipe σ vs) H (wipeD δ vs) := by
  have key : ∀ i, i ∉ vs → (L2.wipe σ vs)[i]? = σ[i]? := fun i hi => by
    rw [wipe_get, if_neg fun z => hi z.1]
  refine ⟨r.ext, by rw [wipe_length, wipeD_len, r.len], fun i s h => ?_, fun i j l l' a hi hj si sj => ?_⟩
  · obtain ⟨h1, h2⟩ := wipeD_get vs δ i s h
    rw [key i h1]
    exact r.sl i s h2
  · obtain ⟨h1, h2⟩ := wipeD_get vs δ i _ hi
    obtain ⟨h3, h4⟩ := wipeD_get vs δ j _ hj
    rw [key i h1] at si
    rw [key j h3] at sj
    exact r.own i j l l' a h2 h4 si sj
/-- the new list of a comprehension grows -/
theorem Ext.grow {tw : Tw} {G H G1 H1 : Hp} {D : Addr} {o u : HO} (e : Ext tw G H G1 H1) (n : H D = none) (g : G1 D = none) (h : H1 D = some o) (hl : ∀ kvs, o ≠ .dK kvs) : Ext tw G H G1 (upd H1 D u) := by
  have v : ¬ Vol tw D := Ext.nonvol e.tk h hl
  have k := e.ok.write (u := u) (o := o) g v
  exact ⟨e.gg, k.gh, fun b o' hb nv => by rw [upd_ne (ne_of_none hb n)]; exact e.hh b o' hb nv, k.tk, k.nv, e.new⟩
def lcR (g : DG) (tt : DB) (te : DT) (δ : Env) : List PyData → (List PyData → Prop) → Prop
  | [], Q => Q []
  | x :: xs, Q => g x δ fun δ1 => tt δ1 (fun b => if b = true then te δ1 (fun s => ∃ d, asD s = some d ∧ lcR g tt te δ xs fun ys => Q (d :: ys)) (fun _ => False) else lcR g tt te δ xs Q) (fun _ => False)
def dLc (ti : DI) (g : DG) (tt : DB) (te : DT) (vs : List Nat) : DT := fun δ Q Ex => ti δ (fun ds _ => lcR g tt te (wipeD δ vs) ds fun ys => Q (.own ys)) Ex
def bYes : DB := fun _ Q _ => Q true
theorem ptsW {ifs : List Expr} {t t' : TT} (h : PTs X ifs t) (w : ∀ σ H R, t' σ H R → t σ H R) : PTs X ifs t' := ⟨fun p s σ H Q I q => h.run p s σ H Q I (w σ H Q q)⟩
theorem dts_nil : PTs X [] (liftB E bYes) := by
  refine ptsW pts_nil ?_
  rintro σ H R ⟨tw, G0, H0, G, δ, Q, Ex, a, h, q⟩
  exact q true G H h a.self
theorem dts_one {c : Expr} {t : DB} (h : PT X c (liftB E t)) : PTs X [c] (liftB E t) := pts_one h
theorem lift_lc {tt : DB} {te : DT} {vs : List Nat} (hns : ∀ i ∈ ns, i ∈ vs) : ∀ σ H R, lift E (dLc ti g tt te vs) σ H R → tLc (liftI E ti) (liftG ns g) (liftB E0 tt) (lift E0 te) vs σ H R := by
  rintro σ H R ⟨tw, G0, H0, G, δ, Q, Ex, a, h, q⟩
  refine ⟨tw, G0, H0, G, δ, _, Ex, a, h, fun ds fz J Gw Hw hq ew wk D hD => ?_⟩
  have rw0 := a.rep.go ew
  have okw := ew.ok
  have gwD : Gw D = none := by
    cases z : Gw D with
    | none => rfl
    | some u =>
      rw [okw.gh D u z] at hD
      cases hD
  refine ⟨fun i m H' => i + m = ds.length ∧ ∃ G1 acc accD, Ext tw Gw Hw G1 H' ∧ H' D = some (.lst acc) ∧ G1 D = none ∧ WDs G1 acc accD ∧ accD.length ≤ i ∧ lcR g tt te (wipeD δ vs) (ds.drop i) fun ys => Q (.own (accD ++ ys)), ⟨ds.length, by omega, Gw, [], [], okw.putH hD, upd_same, gwD, .nil, Nat.le_refl _, hq⟩, ?_⟩
  rintro i m H1 ⟨em, G1, acc, accD, e1, hacc, g1D, wacc, la, q1⟩
  have hz := wk.sz
  have nv : ¬ Vol tw D := Ext.nonvol e1.tk hacc fun _ z => nomatch z
  have lat : Lat fz tw Gw Hw G1 H1 := ⟨e1.gg, e1.gh, fun _ b o hb v => e1.hh b o hb v⟩
  by_cases hi : i < ds.length
  · refine .inr ⟨wk.goes i G1 H1 hi lat, fun H' => ∃ G1 acc accD, Ext tw Gw Hw G1 H' ∧ H' D = some (.lst acc) ∧ G1 D = none ∧ WDs G1 acc accD ∧ accD.length ≤ i + 1 ∧ lcR g tt te (wipeD δ vs) (ds.drop (i + 1)) fun ys => Q (.own (accD ++ ys)), fun H' z => ⟨m - 1, by omega, by omega, z⟩, fun x H2 hy => ?_⟩
    obtain ⟨d, G2, ed, wd, e2⟩ := wk.yld i G1 H1 x H2 hi lat e1.ok hy
    have hd : ds.drop i = d :: ds.drop (i + 1) := by
      rw [List.drop_eq_getElem_cons hi]
      have : ds[i] = d := by
        rw [List.getElem?_eq_getElem hi] at ed
        exact Option.some.inj ed
      rw [this]
    rw [hd] at q1
    have e12 := e1.trans e2
    have r2 : Rep tw G0 H0 G2 σ H2 δ := rw0.go e12
    have gD : ∀ {G' H' : Hp}, Ext tw G1 H1 G' H' → G' D = none := fun {G' H'} e => by
      cases z : G' D with
      | none => rfl
      | some u =>
        rcases e.new D u z with y | y
        · rw [g1D] at y; cases y
        · rw [hacc] at y; cases y
    refine ⟨tw, G0, H0, G2, wipeD δ vs, d, _, r2.wipe vs, wd, q1, fun δ3 σ3 q3 r3 d3 => ⟨?_, ?_⟩⟩
    · have := d3.wipe hns
      rw [this, wipe_wipe]
    · refine ⟨tw, G0, H0, G2, δ3, _, fun _ => False, ⟨r3, fun c G' H' z => z.elim⟩, q3, fun b G4 H4 q4 e4 => ?_⟩
      cases b with
      | true =>
        rw [if_pos rfl] at q4 ⊢
        refine ⟨tw, G0, H0, G4, δ3, _, fun _ => False, ⟨r3.go e4, fun c G' H' z => z.elim⟩, q4, fun s v G5 H5 ⟨y, ey, q5⟩ v5 e5 => ?_⟩
        obtain ⟨G6, e6, sm, w6⟩ := v5.froze e5 (asF_asD ey)
        have eA : Ext tw G1 H1 G6 H5 := (e2.trans e4).trans e6
        have hD5 : H5 D = some (.lst acc) := eA.hh D _ hacc nv
        have w7 : WDs G6 (acc ++ [v]) (accD ++ [y]) := (WDs.mono eA.gg _ _ wacc).append (.cons w6 .nil)
        refine ⟨acc, hD5, ?_, G6, acc ++ [v], accD ++ [y], (e1.trans eA).grow hD (gD eA) hD5 (fun _ z => nomatch z), upd_same, gD eA, w7, ?_, ?_⟩
        · rw [wacc.length]
          omega
        · rw [List.length_append]
          show accD.length + 1 ≤ i + 1
          omega
        · have : (fun ys => Q (.own (accD ++ [y] ++ ys))) = fun ys => Q (.own (accD ++ y :: ys)) := by
            funext ys
            rw [List.append_assoc]
            rfl
          rw [this]
          exact q5
      | false =>
        rw [if_neg Bool.false_ne_true] at q4 ⊢
        have eA : Ext tw G1 H1 G4 H4 := e2.trans e4
        exact ⟨G4, acc, accD, e1.trans eA, eA.hh D _ hacc nv, gD eA, WDs.mono eA.gg _ _ wacc, by omega, q4⟩
  · have ei : i = ds.length := by omega
    subst ei
    refine .inl ⟨wk.stops G1 H1 lat, ?_⟩
    rw [List.drop_length] at q1
    have q2 : Q (.own (accD ++ [])) := q1
    rw [List.append_nil] at q2
    refine q _ (.ref D) G1 H1 q2 ⟨D, acc, rfl, hacc, g1D, ew.free hD, wacc, by omega⟩ (ew.trans e1)
theorem de_lc {elt : Expr} {ifs : List Expr} {scope : Scope} {own : List (Str × Nat)} {tt : DB} {te : DT} (hc : X.calm = true) (hN : X.N.Nodup) (hi : PI X tg iter (liftI E ti)) (ok : BlkOk X.N X.env.scope scope own) (hns : ∀ i ∈ ns, i ∈ own.map (·.2))
    (hg : ∀ (s : Shared) (H : Hp) (C : Addr) (cl : List (Str × Addr)) (fp : List Addr), PG (X.blk s H scope (compEnvC scope cl C X.env) fp) tg (liftG ns g))
    (ht : ∀ (s : Shared) (H : Hp) (C : Addr) (cl : List (Str × Addr)) (fp : List Addr), PTs (X.blk s H scope (compEnvC scope cl C X.env) fp) ifs (liftB E0 tt))
    (he : ∀ (s : Shared) (H : Hp) (C : Addr) (cl : List (Str × Addr)) (fp : List Addr), PE (X.blk s H scope (compEnvC scope cl C X.env) fp) elt (lift E0 te)) (hs : ∀ x, foldedSetIterable iter X.env x = pure x := by intro _; rfl) :
    PE X (.ListComp elt [⟨tg, iter, ifs, 0⟩] scope pos) (lift E (dLc ti g tt te (own.map (·.2)))) :=
  peW (pe_lc hc hN hi ok hg ht he hs) (lift_lc hns)
/-- name = [..] -/
theorem ds_setLc {i : Nat} {y : Str} {py spos : Pos} {elt : Expr} {ifs : List Expr} {scope : Scope} {own : List (Str × Nat)} {tt : DB} {te : DT} (hc : X.calm = true) (hN : X.N.Nodup) (hy : X.N[i]? = some y) (hyl : X.env.scope.names.lookup y = some .local)
    (hsw : swapsWith (.ListComp elt [⟨tg, iter, ifs, 0⟩] scope pos) (some (.Name y py)) spos.line X.env = pure true) (hi : PI X tg iter (liftI E ti)) (ok : BlkOk X.N X.env.scope scope own) (hns : ∀ i ∈ ns, i ∈ own.map (·.2))
    (hg : ∀ (s : Shared) (H : Hp) (C : Addr) (cl : List (Str × Addr)) (fp : List Addr), PG (X.blk s H scope (compEnvC scope cl C X.env) fp) tg (liftG ns g))
    (ht : ∀ (s : Shared) (H : Hp) (C : Addr) (cl : List (Str × Addr)) (fp : List Addr), PTs (X.blk s H scope (compEnvC scope cl C X.env) fp) ifs (liftB E0 tt))
    (he : ∀ (s : Shared) (H : Hp) (C : Addr) (cl : List (Str × Addr)) (fp : List Addr), PE (X.blk s H scope (compEnvC scope cl C X.env) fp) elt (lift E0 te)) (hs : ∀ x, foldedSetIterable iter X.env x = pure x := by intro _; rfl) :
    PS X (.Assign [.Name y py] (.ListComp elt [⟨tg, iter, ifs, 0⟩] scope pos) spos) (liftS E (sSet i (dLc ti g tt te (own.map (·.2))))) := by
  refine psW (ps_setLc hc hN hy hyl hsw hi ok hg ht he hs) ?_
  rintro D σ H ⟨tw, G0, H0, G, δ, De, Ex, a, h, gg⟩
  refine lift_lc hns σ H _ ⟨tw, G0, H0, G, δ, _, Ex, a, h, fun s v G1 H1 hn r e => ?_⟩
  obtain ⟨δ', k, r'⟩ := stO_use a.rep hn r e
  exact gg.nx _ _ _ _ k r'
theorem ds_setLcF {i : Nat} {y : Str} {py spos : Pos} {elt : Expr} {ifs : List Expr} {scope : Scope} {own : List (Str × Nat)} {tt : DB} {te : DT} (hc : X.calm = true) (hN : X.N.Nodup) (hy : X.N[i]? = some y) (hyl : X.env.scope.names.lookup y = some .local)
    (hsw : swapsWith (.ListComp elt [⟨tg, iter, ifs, 0⟩] scope pos) (some (.Name y py)) spos.line X.env = pure true) (hi : PI X tg iter (liftI E ti)) (ok : BlkOk X.N X.env.scope scope own) (hns : ∀ i ∈ ns, i ∈ own.map (·.2))
    (hg : ∀ (s : Shared) (H : Hp) (C : Addr) (cl : List (Str × Addr)) (fp : List Addr), PG (X.blk s H scope (compEnvC scope cl C X.env) fp) tg (liftG ns g))
    (ht : ∀ (s : Shared) (H : Hp) (C : Addr) (cl : List (Str × Addr)) (fp : List Addr), PTs (X.blk s H scope (compEnvC scope cl C X.env) fp) ifs (liftB E0 tt))
    (he : ∀ (s : Shared) (H : Hp) (C : Addr) (cl : List (Str × Addr)) (fp : List Addr), PE (X.blk s H scope (compEnvC scope cl C X.env) fp) elt (lift E0 te)) (hs : ∀ x, foldedSetIterable iter X.env x = pure x := by intro _; rfl) :
    PS X (.Assign [.Name y py] (.ListComp elt [⟨tg, iter, ifs, 0⟩] scope pos) spos) (liftS E (sSetF i (dLc ti g tt te (own.map (·.2))))) := by
  refine psW (ps_setLc hc hN hy hyl hsw hi ok hg ht he hs) ?_
  rintro D σ H ⟨tw, G0, H0, G, δ, De, Ex, a, h, gg⟩
  refine lift_lc hns σ H _ ⟨tw, G0, H0, G, δ, _, Ex, a, h, fun s v G1 H1 hn r e => ?_⟩
  obtain ⟨δ', G2, k, r'⟩ := fz_use a.rep hn r e
  exact gg.nx _ _ _ _ k r'
end
/-! ### a slot's own list is changed -/
section
variable {tw : Tw} {G0 H0 G H : Hp} {σ : L2.St} {δ : Env}
theorem Rep.mine (r : Rep tw G0 H0 G σ H δ) {i : Nat} {l : List PyData} (h : δ[i]? = some (some (.own l))) : ∃ a vs, σ[i]? = some (some (.ref a)) ∧ H a = some (.lst vs) ∧ G a = none ∧ H0 a = none ∧ WDs G vs l ∧ l.length ≤ sizeLine ∧
    ∀ vs' l', WDs G vs' l' → l'.length ≤ sizeLine → Rep tw G0 H0 G σ (upd H a (.lst vs')) (δ.set i (some (.own l'))) := by
  obtain ⟨v, e1, a, vs, e2, e3, e4, e5, e6, e7⟩ := r.sl i _ h
  subst e2
  refine ⟨a, vs, e1, e3, e4, e5, e6, e7, fun vs' l' w z => ?_⟩
  have hi : i < δ.length := by
    by_cases q : i < δ.length
    · exact q
    · rw [List.getElem?_eq_none (by omega)] at h
      cases h
  have nv : ¬ Vol tw a := Ext.nonvol r.ext.tk e3 fun _ z => nomatch z
  refine ⟨r.ext.grow e5 e4 e3 (fun _ z => nomatch z), by rw [List.length_set, r.len], fun j s hj => ?_, fun j k l1 l2 b hj hk sj sk => ?_⟩
  · by_cases e : i = j
    · subst e
      rw [List.getElem?_set_self hi] at hj
      cases hj
      exact ⟨_, e1, a, vs', rfl, upd_same, e4, e5, w, z⟩
    · rw [List.getElem?_set_ne e] at hj
      obtain ⟨v, f1, f2⟩ := r.sl j s hj
      refine ⟨v, f1, ?_⟩
      cases s with
      | d x => exact f2
      | own l2 =>
        obtain ⟨b, us, g1, g2, g3, g4, g5, g6⟩ := f2
        have hne : b ≠ a := fun q => by
          subst g1
          subst q
          exact e (r.own i j l l2 b h hj e1 f1)
        exact ⟨b, us, g1, by rw [upd_ne hne]; exact g2, g3, g4, g5, g6⟩
      | bor l2 => exact f2
      | town => exact f2
      | v x => exact f2
      | abs φ m => exact f2
  · have old : ∀ {j : Nat} {l1 : List PyData}, (δ.set i (some (.own l')))[j]? = some (some (.own l1)) → ∃ l3, δ[j]? = some (some (.own l3)) := fun {j l1} hj => by
      by_cases e : i = j
      · subst e
        exact ⟨l, h⟩
      · rw [List.getElem?_set_ne e] at hj
        exact ⟨l1, hj⟩
    obtain ⟨l3, h3⟩ := old hj
    obtain ⟨l4, h4⟩ := old hk
    exact r.own j k l3 l4 b h3 h4 sj sk
end
section
variable {X : Cx} {E : XK} {e ei : Expr} {te ti : DT} {pos p apos cpos tpos : Pos} {x : Str}
/-- x.append(e) -/
def sApp (i : Nat) (te : DT) : DS := fun De δ Ex => ∃ l, δ[i]? = some (some (.own l)) ∧ te δ (fun s => ∃ d, asD s = some d ∧ l.length < sizeLine ∧ De.nx (δ.set i (some (.own (l ++ [d]))))) Ex
theorem Rep.tyL {K : PySem.W.Frag} {H : Hp} {a : Addr} {vs : List V} (h : H a = some (.lst vs)) : tyV K "list" (.ref a) H := Or.inl ⟨rfl, _, Or.inl (Or.inl h)⟩
theorem ds_app {i : Nat} (hN : X.N[i]? = some x) (hv : Vis X.env.scope x) (he : PE X e (lift E te)) (hs : swapsWith (.Call (.Attribute (.Name x p) "append" apos) [e] [] cpos) none pos.line X.env = pure false := by rfl) (hd : (x == ("__debug__" : Str)) = false := by decide) (hcd : (x == ("__classdict__" : Str)) = false := by decide)
    (hbase : attributeBase (.Name x p) "append" X.env (eval (.Name x p) X.env) = eval (.Name x p) X.env := by rfl) (hfew : ((backTo cpos (starEach [e] X.env)).all (fun x => !x.1) && (backToKw cpos (keywordEach [] X.env)).all (fun x => x.1.isSome) && decide ([e].length + ([] : List Keyword).length + (if ([] : List Keyword).isEmpty then 0 else 1) < 30)) = true := by rfl)
    (hline : (apos.endLine == cpos.line) = true := by rfl) (s1 : starEach (e :: []) X.env = (false, eval e X.env) :: starEach [] X.env := by rfl) (hplain : (backTo cpos (starEach [] X.env)).any (·.1) = false := by rfl) :
    PS X (.Expr (.Call (.Attribute (.Name x p) "append" apos) [e] [] cpos) pos) (liftS E (sApp i te)) := by
  refine psW (ps_expr (pe_bm PySem.F.plainAttrs_list PySem.F.slot_list_append PySem.F.type_list_append mt_append (pe_var (i := i) hN hv hd hcd) (pa_cons he pa_nil s1) hbase hfew hline s1 hplain) hs) ?_
  rintro D σ H ⟨tw, G0, H0, G, δ, De, Ex, a, ⟨l, hl, h⟩, g⟩
  obtain ⟨b, vs, e1, e2, e3, e4, e5, e6, wr⟩ := a.rep.mine hl
  refine ⟨.ref b, e1, Rep.tyL e2, tw, G0, H0, G, δ, _, Ex, a, h, fun s v G1 H1 ⟨d, ed, z, hn⟩ r ex => ?_⟩
  obtain ⟨G2, ex2, sm, f⟩ := r.froze ex (asF_asD ed)
  obtain ⟨b', vs', f1, f2, f3, f4, f5, f6, wr'⟩ := (a.rep.go ex2).mine hl
  rw [e1] at f1
  cases f1
  refine ⟨b, vs', v, rfl, rfl, f2, by rw [f5.length]; exact z, ?_⟩
  refine g.nx _ G2 σ _ hn (wr' _ _ (f5.append (.cons f .nil)) ?_)
  rw [List.length_append]
  exact z
/-- x.extend(e) -/
def sExt (i : Nat) (te : DT) : DS := fun De δ Ex => ∃ l, δ[i]? = some (some (.own l)) ∧ te δ (fun s => ∃ es, asL s = some es ∧ l.length + es.length ≤ sizeLine ∧ De.nx (δ.set i (some (.own (l ++ es))))) Ex
theorem ds_ext {i : Nat} (hN : X.N[i]? = some x) (hv : Vis X.env.scope x) (he : PE X e (lift E te)) (hs : swapsWith (.Call (.Attribute (.Name x p) "extend" apos) [e] [] cpos) none pos.line X.env = pure false := by rfl) (hd : (x == ("__debug__" : Str)) = false := by decide) (hcd : (x == ("__classdict__" : Str)) = false := by decide)
    (hbase : attributeBase (.Name x p) "extend" X.env (eval (.Name x p) X.env) = eval (.Name x p) X.env := by rfl) (hfew : ((backTo cpos (starEach [e] X.env)).all (fun x => !x.1) && (backToKw cpos (keywordEach [] X.env)).all (fun x => x.1.isSome) && decide ([e].length + ([] : List Keyword).length + (if ([] : List Keyword).isEmpty then 0 else 1) < 30)) = true := by rfl)
    (hline : (apos.endLine == cpos.line) = true := by rfl) (s1 : starEach (e :: []) X.env = (false, eval e X.env) :: starEach [] X.env := by rfl) (hplain : (backTo cpos (starEach [] X.env)).any (·.1) = false := by rfl) :
    PS X (.Expr (.Call (.Attribute (.Name x p) "extend" apos) [e] [] cpos) pos) (liftS E (sExt i te)) := by
  refine psW (ps_expr (pe_bm PySem.F.plainAttrs_list PySem.F.slot_list_extend PySem.F.type_list_extend mt_extend (pe_var (i := i) hN hv hd hcd) (pa_cons he pa_nil s1) hbase hfew hline s1 hplain) hs) ?_
  rintro D σ H ⟨tw, G0, H0, G, δ, De, Ex, a, ⟨l, hl, h⟩, g⟩
  obtain ⟨b, vs, e1, e2, e3, e4, e5, e6, wr⟩ := a.rep.mine hl
  refine ⟨.ref b, e1, Rep.tyL e2, tw, G0, H0, G, δ, _, Ex, a, h, fun s v G1 H1 ⟨es, ed, z, hn⟩ r ex => ?_⟩
  obtain ⟨c, us, rfl, h1, w1, z1⟩ := r.list ex.gh ed
  obtain ⟨b', vs', f1, f2, f3, f4, f5, f6, wr'⟩ := (a.rep.go ex).mine hl
  rw [e1] at f1
  cases f1
  refine ⟨b, c, vs', us, rfl, rfl, f2, h1, by rw [f5.length, w1.length]; exact z, ?_⟩
  refine g.nx _ G1 σ _ hn (wr' _ _ (f5.append w1) ?_)
  rw [List.length_append]
  exact z
/-- y = x.pop() -/
def sPop (i j : Nat) : DS := fun De δ _ => ∃ l d, δ[j]? = some (some (.own (l ++ [d]))) ∧ i ≠ j ∧ De.nx ((δ.set j (some (.own l))).set i (some (.d d)))
theorem ds_pop {i j : Nat} {y : Str} {pos' : Pos} (hNd : X.N.Nodup) (hi : X.N[i]? = some y) (hy : Loc X.env.scope y) (hN : X.N[j]? = some x) (hv : Vis X.env.scope x) (hs : swapsWith (.Call (.Attribute (.Name x p) "pop" apos) [] [] cpos) (some (.Name y pos')) pos.line X.env = pure false := by rfl) (hd : (x == ("__debug__" : Str)) = false := by decide) (hcd : (x == ("__classdict__" : Str)) = false := by decide)
    (hbase : attributeBase (.Name x p) "pop" X.env (eval (.Name x p) X.env) = eval (.Name x p) X.env := by rfl) (hline : (apos.endLine == cpos.line) = true := by rfl) (hf : X.fn y = true ∨ X.env.scope.names.lookup y = some .local := by first | exact .inl rfl | exact .inr rfl | assumption) :
    PS X (.Assign [.Name y pos'] (.Call (.Attribute (.Name x p) "pop" apos) [] [] cpos) pos) (liftS E (sPop i j)) := by
  refine psW (ps_set hNd hi hy (pe_bm0 PySem.F.plainAttrs_list PySem.F.slot_list_pop PySem.F.type_list_pop mt_pop (pe_var (i := j) hN hv hd hcd) hbase hline) hs hf) ?_
  rintro D σ H ⟨tw, G0, H0, G, δ, De, Ex, a, ⟨l, d, hl, hij, h⟩, g⟩
  obtain ⟨b, vs, e1, e2, e3, e4, e5, e6, wr⟩ := a.rep.mine hl
  have hlen := e5.length
  rw [List.length_append] at hlen
  have hlast : (l ++ [d])[vs.length - 1]? = some d := by
    rw [hlen]
    simp
  obtain ⟨v, ev, wv⟩ := e5.get hlast
  refine ⟨.ref b, e1, Rep.tyL e2, b, vs, v, rfl, rfl, e2, ev, ?_⟩
  have wd : WDs G vs.dropLast l := by
    have w1 := e5.take l.length
    rw [List.take_left'] at w1
    · have : vs.dropLast = vs.take l.length := by
        rw [List.dropLast_eq_take, hlen]
        rfl
      rw [this]
      exact w1
    · rfl
  have r1 := wr _ _ wd (by rw [List.length_append] at e6; omega)
  exact g.nx _ _ _ _ h (r1.set (s := .d d) wv fun _ _ z => nomatch z)
/-! ### x[k] = e, x[k] op= e -/
theorem WDs.ixN {G : Hp} {ds : List PyData} {vs : List V} {z : Int} {j : Nat} (h : WDs G vs ds) (e : L2.ixN ds.length z = some j) : L2.ixN vs.length z = some j := by
  rw [h.length]
  exact e
def sItem (i : Nat) (ti te : DT) : DS := fun De δ Ex => ∃ l, δ[i]? = some (some (.own l)) ∧ te δ (fun s => ∃ d, asD s = some d ∧ ti δ (fun k => ∃ z j, k = .d (.int z) ∧ ixN l.length z = some j ∧ De.nx (δ.set i (some (.own (l.set j d))))) Ex) Ex
theorem ds_item {i : Nat} (hN : X.N[i]? = some x) (hv : Vis X.env.scope x) (hi : PE X ei (lift E ti)) (he : PE X e (lift E te)) (hd : (x == ("__debug__" : Str)) = false := by decide) (hcd : (x == ("__classdict__" : Str)) = false := by decide)
    (ha : ∀ v, assign (.Subscript (.Name x p) ei tpos) X.env v = (do let ov ← holding [v] (eval (.Name x p) X.env); let iv ← holding [v, ov] (eval ei X.env); standAt tpos; holding [v, ov, iv] (setItem ov iv v); release [v, ov, iv] []) := by intro _; rfl)
    (hs : swapsWithSole [.Subscript (.Name x p) ei tpos] e pos.line X.env = pure false := by rfl) (hw : swappedStores [.Subscript (.Name x p) ei tpos] e X.env = pure none := by rfl) (h1 : (assignEach [.Subscript (.Name x p) ei tpos] X.env).map (·.2) = [assign (.Subscript (.Name x p) ei tpos) X.env] := by rfl) :
    PS X (.Assign [.Subscript (.Name x p) ei tpos] e pos) (liftS E (sItem i ti te)) := by
  refine psW (ps_asg he (pg_sub (pe_var (i := i) hN hv hd hcd) hi set_list ha) hs hw h1) ?_
  rintro D σ H ⟨tw, G0, H0, G, δ, De, Ex, a, ⟨l, hl, h⟩, g⟩
  refine ⟨tw, G0, H0, G, δ, _, Ex, a, h, fun s v G1 H1 ⟨d, ed, hk⟩ r ex => ?_⟩
  obtain ⟨G2, ex2, sm, f⟩ := r.froze ex (asF_asD ed)
  obtain ⟨b, vs, e1, _⟩ := (a.rep.go ex2).mine hl
  refine ⟨.ref b, e1, tw, G0, H0, G2, δ, _, Ex, a.go ex2, hk, fun k kv G3 H3 ⟨z, j, ek, hj, hn⟩ rk ex3 => ?_⟩
  subst ek
  have ev := rk.int
  subst ev
  obtain ⟨b', vs', f1, f2, f3, f4, f5, f6, wr'⟩ := ((a.rep.go ex2).go ex3).mine hl
  rw [e1] at f1
  cases f1
  refine ⟨b, vs', z, j, rfl, rfl, f2, f5.ixN hj, ?_⟩
  exact g.nx _ G3 σ _ hn (wr' _ _ (f5.set (WD.mono ex3.gg _ _ f) j) (by rw [List.length_set]; exact f6))
def gGetL : V → V → Hp → VK → Prop := fun o i H Q => ∃ p xs z j v, o = .ref p ∧ i = .int z ∧ H p = some (.lst xs) ∧ ixN xs.length z = some j ∧ 0 ≤ z ∧ xs[j]? = some v ∧ Q v H
theorem get_list : PGet X gGetL := by
  intro pins s σ H o i ov iv Q I ro ri h
  obtain ⟨p, xs, z, j, v, rfl, rfl, hp, hj, h0, hv, q⟩ := h
  cases ro
  obtain ⟨t, rfl⟩ := ri
  obtain ⟨its, r, pl, hz⟩ := I.list (.of hp)
  obtain ⟨h1, h2, h3, h4⟩ := ixN_seq hj
  obtain ⟨w, ew, rw'⟩ := r.get hv
  have hl := r.length
  have hn := line63
  have hjz : z.toNat = j := by
    rw [seqIndex_of h0 h4] at h1
    exact Option.some.inj h1
  exact wpAny_getItem_list pl.isList h0 (by omega) (by rw [hjz]; simpa using ew) ⟨v, H, I, rw', q⟩
/-- x[k] op= e, numbers -/
def sAugI (i : Nat) (f : Int → Int → Int) (ti te : DT) : DS := fun De δ Ex => ∃ l, δ[i]? = some (some (.own l)) ∧ ti δ (fun k => ∃ z j m, k = .d (.int z) ∧ ixN l.length z = some j ∧ 0 ≤ z ∧ l[j]? = some (.int m) ∧ te δ (fun s => ∃ n, s = .d (.int n) ∧ De.nx (δ.set i (some (.own (l.set j (.int (f m n))))))) Ex) Ex
theorem ds_augI {i : Nat} {op : Operator} {f : Int → Int → Int} (hop : PIp X op (ipI f)) (hN : X.N[i]? = some x) (hv : Vis X.env.scope x) (hi : PE X ei (lift E ti)) (he : PE X e (lift E te)) (hd : (x == ("__debug__" : Str)) = false := by decide) (hcd : (x == ("__classdict__" : Str)) = false := by decide)
    (ha : ∀ ov iv new, augStore ei ov iv new = (do holding [new, ov, iv] (setItem ov iv new); release [new, ov, iv] []; pure .next) := by intros; rfl) : PS X (.AugAssign (.Subscript (.Name x p) ei tpos) op e pos) (liftS E (sAugI i f ti te)) := by
  refine psW (ps_augS (pe_var (i := i) hN hv hd hcd) hi get_list he hop set_list ha) ?_
  rintro D σ H ⟨tw, G0, H0, G, δ, De, Ex, a, ⟨l, hl, h⟩, g⟩
  obtain ⟨b, vs, e1, _⟩ := a.rep.mine hl
  refine ⟨.ref b, e1, tw, G0, H0, G, δ, _, Ex, a, h, fun k kv G3 H3 ⟨z, j, m, ek, hj, h0, hm, hn⟩ rk ex3 => ?_⟩
  subst ek
  have ev := rk.int
  subst ev
  obtain ⟨b', vs', f1, f2, f3, f4, f5, f6, wr'⟩ := (a.rep.go ex3).mine hl
  rw [e1] at f1
  cases f1
  obtain ⟨mv, em, wm⟩ := f5.get hm
  cases wm
  refine ⟨b, vs', z, j, .int m, rfl, rfl, f2, f5.ixN hj, h0, em, ?_⟩
  refine ⟨tw, G0, H0, G3, δ, _, Ex, a.go ex3, hn, fun s v G4 H4 ⟨n, es, hx⟩ rs ex4 => ?_⟩
  subst es
  have ev := rs.int
  subst ev
  refine ⟨m, n, rfl, rfl, ?_⟩
  obtain ⟨b', vs2, g1, g2, g3, g4, g5, g6, wr2⟩ := ((a.rep.go ex3).go ex4).mine hl
  rw [e1] at g1
  cases g1
  exact ⟨b, vs2, z, j, rfl, rfl, g2, g5.ixN hj, g.nx _ G4 σ _ hx (wr2 _ _ (g5.set (.int _) j) (by rw [List.length_set]; exact g6))⟩
/-- name op= e, numbers -/
def sAug (i : Nat) (f : Int → Int → Int) (te : DT) : DS := fun De δ Ex => ∃ m, δ[i]? = some (some (.d (.int m))) ∧ te δ (fun s => ∃ n, s = .d (.int n) ∧ De.nx (δ.set i (some (.d (.int (f m n)))))) Ex
theorem ds_aug {i : Nat} {op : Operator} {f : Int → Int → Int} (hop : PIp X op (ipI f)) (hNd : X.N.Nodup) (hN : X.N[i]? = some x) (hx : Loc X.env.scope x) (he : PE X e (lift E te)) (hf : X.fn x = true ∨ X.env.scope.names.lookup x = some .local := by first | exact .inl rfl | exact .inr rfl | assumption) :
    PS X (.AugAssign (.Name x tpos) op e pos) (liftS E (sAug i f te)) := by
  refine psW (ps_aug hNd hN hx he hop hf) ?_
  rintro D σ H ⟨tw, G0, H0, G, δ, De, Ex, a, ⟨m, hl, h⟩, g⟩
  obtain ⟨v, e1, wv⟩ := a.rep.sl i _ hl
  have wv' : WD G v (.int m) := wv
  cases wv'
  refine ⟨.int m, e1, tw, G0, H0, G, δ, _, Ex, a, h, fun s v G4 H4 ⟨n, es, hn⟩ rs ex4 => ?_⟩
  subst es
  have ev := rs.int
  subst ev
  exact ⟨m, n, rfl, rfl, g.nx _ G4 _ _ hn ((a.rep.go ex4).set (s := .d (.int (f m n))) (WD.int _) fun _ _ z => nomatch z)⟩
/-! ### a slot's own list is frozen; a name is given another's list -/
def sFrz (i : Nat) (t : DS) : DS := fun De δ Ex => ∃ l, δ[i]? = some (some (.own l)) ∧ t De (δ.set i (some (.d (.list l)))) Ex
theorem Rep.freeze {tw : Tw} {G0 H0 G H : Hp} {σ : L2.St} {δ : Env} (r : Rep tw G0 H0 G σ H δ) {i : Nat} {l : List PyData} (h : δ[i]? = some (some (.own l))) : ∃ a vs, σ[i]? = some (some (.ref a)) ∧ H a = some (.lst vs) ∧ WD (upd G a (.lst vs)) (.ref a) (.list l) ∧ Same G (upd G a (.lst vs)) ∧ Rep tw G0 H0 (upd G a (.lst vs)) σ H (δ.set i (some (.d (.list l)))) := by
  obtain ⟨v, e1, a, vs, e2, e3, e4, e5, e6, e7⟩ := r.sl i _ h
  subst e2
  have hi : i < δ.length := by
    by_cases q : i < δ.length
    · exact q
    · rw [List.getElem?_eq_none (by omega)] at h
      cases h
  have sm : Same G (upd G a (.lst vs)) := same_freeze e4
  have ws : WD (upd G a (.lst vs)) (.ref a) (.list l) := .lst upd_same e7 (WDs.mono sm _ _ e6)
  refine ⟨a, vs, e1, e3, ws, sm, r.ext.freeze e3 e4 e5, by rw [List.length_set, r.len], fun j s hj => ?_, fun j k l1 l2 b hj hk sj sk => ?_⟩
  · by_cases e : i = j
    · subst e
      rw [List.getElem?_set_self hi] at hj
      cases hj
      exact ⟨_, e1, ws⟩
    · rw [List.getElem?_set_ne e] at hj
      obtain ⟨v, f1, f2⟩ := r.sl j s hj
      refine ⟨v, f1, ?_⟩
      cases s with
      | d x => exact WD.mono sm _ _ f2
      | own l2 =>
        obtain ⟨b, us, g1, g2, g3, g4, g5, g6⟩ := f2
        have hne : b ≠ a := fun q => by
          subst g1
          subst q
          exact e (r.own i j l l2 b h hj e1 f1)
        exact ⟨b, us, g1, g2, by rw [upd_ne hne]; exact g3, g4, WDs.mono sm _ _ g5, g6⟩
      | bor l2 => exact f2
      | town => exact f2
      | v x => exact f2
      | abs φ m => exact m v G _ sm f2
  · have old : ∀ {j : Nat} {l1 : List PyData}, (δ.set i (some (.d (.list l))))[j]? = some (some (.own l1)) → δ[j]? = some (some (.own l1)) := fun {j l1} hj => by
      by_cases e : i = j
      · subst e
        rw [List.getElem?_set_self hi] at hj
        cases hj
      · rw [List.getElem?_set_ne e] at hj
        exact hj
    exact r.own j k l1 l2 b (old hj) (old hk) sj sk
theorem ds_frz {st : Stmt} {t : DS} (i : Nat) (h : PS X st (liftS E t)) : PS X st (liftS E (sFrz i t)) := by
  refine psW h ?_
  rintro D σ H ⟨tw, G0, H0, G, δ, De, Ex, a, ⟨l, hl, h⟩, g⟩
  obtain ⟨b, vs, _, _, _, _, r⟩ := a.rep.freeze hl
  exact ⟨tw, G0, H0, _, _, De, Ex, ⟨r, a.exc⟩, h, g⟩
/-- y = x, x a list of its own: both hold it from now on, frozen -/
def sMove (i j : Nat) : DS := fun De δ _ => ∃ l, δ[j]? = some (some (.own l)) ∧ De.nx ((δ.set j (some (.d (.list l)))).set i (some (.d (.list l))))
theorem ds_move {i j : Nat} {y : Str} {pos' : Pos} (hNd : X.N.Nodup) (hi : X.N[i]? = some y) (hy : Loc X.env.scope y) (hN : X.N[j]? = some x) (hv : Vis X.env.scope x) (hs : swapsWith (.Name x p) (some (.Name y pos')) pos.line X.env = pure false := by rfl) (hd : (x == ("__debug__" : Str)) = false := by decide) (hcd : (x == ("__classdict__" : Str)) = false := by decide)
    (hf : X.fn y = true ∨ X.env.scope.names.lookup y = some .local := by first | exact .inl rfl | exact .inr rfl | assumption) : PS X (.Assign [.Name y pos'] (.Name x p) pos) (liftS E (sMove i j)) := by
  refine psW (ps_set hNd hi hy (pe_var (i := j) hN hv hd hcd) hs hf) ?_
  rintro D σ H ⟨tw, G0, H0, G, δ, De, Ex, a, ⟨l, hl, h⟩, g⟩
  obtain ⟨b, vs, e1, e2, w, sm, r⟩ := a.rep.freeze hl
  exact ⟨.ref b, e1, g.nx _ _ _ _ h (r.set (s := .d (.list l)) w fun _ _ z => nomatch z)⟩
/-! ### raise -/
theorem ds_raise {C : Value} {e : Expr} (hc : X.calm = true) (tk : Takes X (fun cls d _ H => E cls d H)) (he : PMk X e (fun _ H Q => Q C none H)) : PS X (.Raise (some e) none pos) (liftS E (sRaise C)) := by
  refine psW (ps_raise hc tk he) ?_
  rintro D σ H ⟨tw, G0, H0, G, δ, De, Ex, a, h, g⟩
  exact a.exc C G H h a.rep.ext
end
/-! ### a def -/
def startD (n : Nat) (ss : List SV) : Env := ss.map some ++ List.replicate (n - ss.length) none
theorem FRs.get {tw : Tw} {G : Hp} : ∀ {vs : List V} {ss : List SV} {i : Nat} {s : SV}, FRs tw G vs ss → ss[i]? = some s → ∃ v, vs[i]? = some v ∧ FR tw G v s
  | [], [], _, _, _, e => by simp at e
  | v :: vs, s :: ss, 0, s', h, e => by
    have e' : s = s' := by simpa using e
    subst e'
    exact ⟨v, rfl, h.1⟩
  | v :: vs, s :: ss, i + 1, s', h, e => by
    obtain ⟨u, e1, e2⟩ := FRs.get (i := i) h.2 (by simpa using e)
    exact ⟨u, by simpa using e1, e2⟩
  | [], _ :: _, _, _, h, _ => h.elim
  | _ :: _, [], _, _, h, _ => h.elim
theorem rep_start {tw : Tw} {G H : Hp} {N : List Str} {vs : List V} {ss : List SV} (k : Ok tw G H) (h : FRs tw G vs ss) : Rep tw G H G (L2.start N vs) H (startD N.length ss) := by
  have hl := h.length
  have key : ∀ {i s}, (startD N.length ss)[i]? = some (some s) → ss[i]? = some s := fun {i s} e => by
    unfold startD at e
    by_cases hi : i < ss.length
    · rw [List.getElem?_append_left (by rw [List.length_map]; exact hi), List.getElem?_map] at e
      cases q : ss[i]? with
      | none => rw [q] at e; cases e
      | some x => rw [q] at e; cases e; rfl
    · rw [List.getElem?_append_right (by rw [List.length_map]; omega), List.getElem?_replicate] at e
      split at e <;> cases e
  refine ⟨k.refl, ?_, fun i s e => ?_, fun i j l l' a hi hj _ _ => ?_⟩
  · unfold L2.start startD
    rw [List.length_append, List.length_append, List.length_map, List.length_map, List.length_replicate, List.length_replicate, hl]
  · have e1 := key e
    obtain ⟨v, e2, f⟩ := h.get e1
    refine ⟨v, ?_, f.sr⟩
    unfold L2.start
    obtain ⟨hi, _⟩ := List.getElem?_eq_some_iff.mp e2
    rw [List.getElem?_append_left (by rw [List.length_map]; exact hi), List.getElem?_map, e2]
    rfl
  · obtain ⟨v, _, f⟩ := h.get (key hi)
    exact f.elim
section
variable {P : Program} {w : World} {K : PySem.W.Frag} {mg : Str → Option Value} {base : Heap}
/-- THE RULE for a def: its body's derivation, and that the specification gives the body's reading -/
theorem fnD {x qual : Str} {st : Stmt} {f : Addr} {fd : FuncData} {N ps : List Str} {k : Nat} {sp : Spec} {t : DS} (F : Fun K x qual st f fd) (S : FnScope N ps (defScope st)) (len : ∀ ss Q Ex, sp ss Q Ex → ss.length = ps.length)
    (hb : ∀ (cdv : Value) (A : Around) (outer : List PySem.Env) (s : Shared) (H : Hp) (E : XK), Room k (A.deeper (envOfC qual (defScope st) s.heap.objs.size f cdv)) → PSs (cxOf (L2.CX P w) P w K mg base N qual (defScope st) f cdv A outer s H E) (defBody st) (liftS E t))
    (hr : ∀ ss Q Ex, sp ss Q Ex → t { nx := fun _ => Q (.d .none), rt := Q } (startD N.length ss) Ex) : FnOk P w K mg base (L2.CX P w) (k + 1) f fd ps (spD sp) := by
  refine F.okX S (fun vs H Q E h => ?_) (fun cdv A outer s H vs Q E hroom h => ⟨liftS E t, hb cdv A outer s H E hroom, ?_⟩)
  · obtain ⟨tw, G, ss, Qd, Ed, o, fr, h, _⟩ := h
    rw [fr.length]
    exact len _ _ _ h
  · obtain ⟨tw, G, ss, Qd, Ed, o, fr, h, c1, c2⟩ := h
    refine ⟨tw, G, H, G, _, _, Ed, ⟨rep_start o fr, c2⟩, hr ss Qd Ed h, ⟨?_, fun _ _ _ _ z => z.elim, fun _ _ _ _ z => z.elim, fun s v G' H' q r e => c1 s v G' H' q r e⟩⟩
    exact fun δ G' σ H' q r => c1 _ .non G' H' q (WD.non) r.ext
end
end DL
/-! DL 10: sum of a tuple; other built-ins. -/
namespace DL
open PySem PySem.Spec PyProof.Rows L2
theorem sum_tup {prog : Program} {w : World} {A : Around} {E : Value → Shared → Prop} {s : Shared} {a : Addr} {its : List Value} {ns : List Int} {Q : Value → Shared → Prop} (hh : A.handled = none) (ht : s.heap.IsTuple a its.toArray) (hi : IntsAre its ns)
    (h : ∀ h' tk t', (∀ b o, s.heap.get? b = some o → h'.get? b = some o) → Q (.int ns.sum t') { s with heap := h', toks := tk }) : wpAny (model prog w) A (call (.builtin "sum") [.ref a]) Q E s := by
  obtain ⟨xs, e⟩ := hi.allInts.items
  have hn : numsOf (intItems xs).toList = ns := by rw [← e]; exact hi.numsOf
  rw [nums_intItems] at hn
  rw [e] at ht
  have hal : a < s.heap.objs.size := by
    obtain ⟨o, ho, _⟩ := id ht
    exact Heap.lt_size ho
  refine call_sum_walkG (wpAny_pyIter_tuple ht ?_)
  have ht2 : (s.heap.push { cls := .type "tuple_iterator", data := .fields #[.ref a, .int 0 0] }).IsTuple a (intItems xs) := ht.at fun o e => Heap.get?_push_of_some _ e
  refine ⟨s.heap.objs.size, _, _, _, _, _, numAt xs, rfl, Walks.tuple (A := A.in1) hh _ a (Nat.ne_of_lt hal) (intItems xs), ⟨⟨_, Heap.get?_push_size _ rfl, rfl, rfl⟩, ht2⟩, ?_, fun _ _ => intItems_at, fun h' tk t' hk => ?_⟩
  · intro b hb
    show b < (s.heap.push _).objs.size
    rw [Heap.size_push]
    rcases List.mem_cons.mp hb with z | z
    · rw [z]; exact Nat.lt_succ_self _
    · rw [List.mem_singleton.mp z]; exact Nat.lt_succ_of_lt hal
  · have hq := h h' tk t' fun b o q => hk b o (fun z => Nat.ne_of_lt (Heap.lt_size q) (List.mem_singleton.mp z)) (Heap.get?_push_of_some _ q)
    have e2 : preSum (numAt xs) (intItems xs).size = ns.sum := by
      have e3 : (intItems xs).size = xs.size := by simp [intItems]
      rw [e3, preSum_eq, List.take_of_length_le (by simp), hn]
    rw [e2]
    exact hq
section
variable {X : Cx}
def rSumA (K : PySem.W.Frag) : List V → Hp → VK → Prop := fun vs H Q => ∃ (a : Addr) (ns : List Int), vs = [V.ref a] ∧ SqT K H a (ns.map V.int) ∧ Q (.int ns.sum) H
theorem cr_sumT (hc : X.calm = true) : CallR X (.builtin "sum") (rSumA X.K) := by
  intro pins s σ H xs us Q I r h
  obtain ⟨a, ns, rfl, hq, q⟩ := h
  obtain ⟨u, rfl, rx⟩ := vals1 r
  cases rx
  obtain ⟨its, rv, p, hz⟩ := I.tuple hq
  exact sum_tup (I.ok.hd hc) p (Vals.ints rv) fun h' tk t' hk => ⟨.int ns.sum, H, I.kept (t' := tk) hk, ⟨_, rfl⟩, q⟩
/-- sum of a list or a tuple of ints -/
def oSum : SV → (SV → Prop) → Prop := fun s Q => ∃ ns : List Int, asS s = some (ns.map .int) ∧ Q (.d (.int ns.sum))
theorem CallR.or {f : Value} {r r' : List V → Hp → VK → Prop} (h : CallR X f r) (h' : CallR X f r') : CallR X f (fun xs H Q => r xs H Q ∨ r' xs H Q) := fun p s σ H xs us Q I rx q => q.elim (h p s σ H xs us Q I rx) (h' p s σ H xs us Q I rx)
theorem one_sum (hc : X.calm = true) : OneD X (.builtin "sum") oSum := by
  refine ⟨_, (cr_sum hc).or (cr_sumT hc), fun tw H0 H G1 H1 x vx Q R hx ok hq c => ?_⟩
  obtain ⟨ns, el, hq⟩ := hq
  rcases asS_cases el with h | rfl
  · obtain ⟨a, vs, rfl, e1, w, z⟩ := hx.list ok.gh h
    have ev := w.ints
    subst ev
    exact .inl ⟨a, ns, rfl, .of e1, c _ _ G1 H1 hq (WD.int _) ok.refl⟩
  · obtain ⟨p, vs, rfl, e1, w, z⟩ := hx.tup
    have ev := w.ints
    subst ev
    exact .inr ⟨p, ns, rfl, .of (ok.gh _ _ e1), c _ _ G1 H1 hq (WD.int _) ok.refl⟩
/-! ### max, min of two numbers -/
variable {E : XK} {a b : Expr} {ta tb : DT} {pos : Pos}
def dTwoI (f : Int → Int → Int) (ta tb : DT) : DT := fun δ Q Ex => ta δ (fun x => tb δ (fun y => ∃ i j, x = .d (.int i) ∧ y = .d (.int j) ∧ Q (.d (.int (f i j)))) Ex) Ex
theorem de_twoI {id : String} {f : Int → Int → Int} {x : Str} {p : Pos} (hr : CallR X (.builtin id) (fun xs H Q => ∃ i j, xs = [.int i, .int j] ∧ Q (.int (f i j)) H)) (hm : X.mg x = none) (hv : bootBuiltins x = some (.builtin id)) (ha : PE X a (lift E ta)) (hb : PE X b (lift E tb)) (hg : Gl X x := by rfl) (hn : x ≠ "__name__" := by decide) (hdb : (x == ("__debug__" : Str)) = false := by decide)
    (s1 : starEach [a, b] X.env = (false, eval a X.env) :: starEach [b] X.env := by rfl) (s2 : starEach [b] X.env = (false, eval b X.env) :: starEach [] X.env := by rfl) (hpl : (backTo pos (starEach [b] X.env)).any (·.1) = false := by rfl) : PE X (.Call (.Name x p) [a, b] [] pos) (lift E (dTwoI f ta tb)) := by
  refine peW (pe_callB hr hg hm hv (pa_cons ha (pa_cons hb pa_nil s2) s1) hn hdb s1 hpl) ?_
  rintro σ H R ⟨tw, G0, H0, G, δ, Q, Ex, a, h, q⟩
  refine ⟨tw, G0, H0, G, δ, _, Ex, a, h, fun s v G1 H1 h1 r e => ?_⟩
  refine ⟨tw, G0, H0, G1, δ, _, Ex, a.go e, h1, fun s2 v2 G2 H2 ⟨i, j, es, es2, hs⟩ r2 e2 => ?_⟩
  subst es
  subst es2
  have ev := r.int
  have ev2 := r2.int
  subst ev
  subst ev2
  exact ⟨i, j, rfl, q _ _ G2 H2 hs (WD.int _) (e.trans e2)⟩
end
/-! ### < of ints, of tuples of ints -/
def wLt : W2 := fun x y Q => match x, y with
  | .d (.int i), .d (.int j) => Q (.d (.bool (decide (i < j))))
  | .d (.tuple xs), .d (.tuple ys) => ∃ ns ms : List Int, xs = ns.map .int ∧ ys = ms.map .int ∧ Q (.d (.bool (HT.lexLt ns ms)))
  | _, _ => False
theorem od_ltA {X : Cx} (hu : X.A.units < cLine) : OpD X (compareOp .Lt) wLt := by
  refine ⟨_, op_lt.or (op_ltT hu), fun tw H0 H G1 H1 x y vx vy Q R hx hy ok hq c => ?_⟩
  unfold wLt at hq
  split at hq
  · rename_i i j
    exact .inl ⟨i, j, VR.int hx, VR.int hy, c _ _ G1 H1 hq (WD.bl _) ok.refl⟩
  · obtain ⟨ns, ms, rfl, rfl, hq⟩ := hq
    obtain ⟨a, vs, rfl, e1, w1, z1⟩ := hx.tup
    obtain ⟨b, us, rfl, e2, w2, z2⟩ := hy.tup
    have ev := w1.ints
    have eu := w2.ints
    subst ev
    subst eu
    exact .inr ⟨a, b, ns, ms, rfl, rfl, .of (ok.gh _ _ e1), .of (ok.gh _ _ e2), c _ _ G1 H1 hq (WD.bl _) ok.refl⟩
  · exact hq.elim
end DL
/-! DL 11: reading: lemmas on loops and comprehensions. -/
namespace DL
open PySem PySem.Spec PyProof.Rows L2
/-- where a program's own classes stand, and its written part -/
structure Ct where
  cls : String → Addr
  K : PySem.W.Frag
theorem hu65 {k : Nat} {A : Around} (r : Room k A) : A.units + 65 < cLine := by
  have := r.un
  omega
/-! ### the kinds of values, for simp -/
theorem nc0 : ((0 : Nat) : Int) = 0 := rfl
theorem nc1 : ((1 : Nat) : Int) = 1 := rfl
theorem nc2 : ((2 : Nat) : Int) = 2 := rfl
theorem nc3 : ((3 : Nat) : Int) = 3 := rfl
theorem nc4 : ((4 : Nat) : Int) = 4 := rfl
theorem nc5 : ((5 : Nat) : Int) = 5 := rfl
theorem nc6 : ((6 : Nat) : Int) = 6 := rfl
theorem nc7 : ((7 : Nat) : Int) = 7 := rfl
theorem nc8 : ((8 : Nat) : Int) = 8 := rfl
section
variable {x : PyData} {l : List PyData} {b : Bool} {i : Int} {z : Str} {δ : Env} {k : Env → Prop} {De : DE} {j : Nat} {φ : V → Hp → Prop} {m : ∀ v G G', Same G G' → φ v G → φ v G'} {v : V}
theorem asD_d : asD (.d x) = some x := rfl
theorem asD_own : asD (.own l) = some (.list l) := rfl
theorem asD_bor : asD (.bor l) = none := rfl
theorem asL_list : asL (.d (.list l)) = some l := rfl
theorem asL_tuple : asL (.d (.tuple l)) = none := rfl
theorem asL_own : asL (.own l) = some l := rfl
theorem asL_bor : asL (.bor l) = some l := rfl
theorem asL_int : asL (.d (.int i)) = none := rfl
theorem asL_bool : asL (.d (.bool b)) = none := rfl
theorem asL_none : asL (.d .none) = none := rfl
theorem asS_list : asS (.d (.list l)) = some l := rfl
theorem asS_tuple : asS (.d (.tuple l)) = some l := rfl
theorem asS_own : asS (.own l) = some l := rfl
theorem asS_bor : asS (.bor l) = some l := rfl
theorem tru_bool : truD (.d (.bool b)) = some b := rfl
theorem tru_int : truD (.d (.int i)) = some (i != 0) := rfl
theorem tru_none : truD (.d .none) = some false := rfl
theorem tru_tuple : truD (.d (.tuple l)) = some (!l.isEmpty) := rfl
theorem tru_list : truD (.d (.list l)) = some (!l.isEmpty) := rfl
theorem tru_own : truD (.own l) = some (!l.isEmpty) := rfl
theorem tru_bor : truD (.bor l) = some (!l.isEmpty) := rfl
theorem stO_d : stO j δ (.d x) k = k (δ.set j (some (.d x))) := rfl
theorem stO_own : stO j δ (.own l) k = k (δ.set j (some (.own l))) := rfl
theorem stO_town : stO j δ .town k = k (δ.set j (some .town)) := rfl
theorem stO_v : stO j δ (.v v) k = k (δ.set j (some (.v v))) := rfl
theorem stO_abs : stO j δ (.abs φ m) k = k (δ.set j (some (.abs φ m))) := rfl
theorem rtS_d : rtS De (.d x) = De.rt (.d x) := rfl
theorem rtS_own : rtS De (.own l) = De.rt (.own l) := rfl
theorem rtS_bor : rtS De (.bor l) = De.rt (.own l) := rfl
theorem rtS_v : rtS De (.v v) = De.rt (.v v) := rfl
theorem rtS_abs : rtS De (.abs φ m) = De.rt (.abs φ m) := rfl
theorem isN_none : isN .none = true := rfl
theorem isN_tuple : isN (.tuple l) = false := rfl
theorem isN_int : isN (.int i) = false := rfl
theorem isN_list : isN (.list l) = false := rfl
theorem isN_bool : isN (.bool b) = false := rfl
end
/-- one turn of a comprehension: k (some d): d is kept; k none: nothing -/
def lcT (g : DG) (tt : DB) (te : DT) (δ : Env) (x : PyData) (k : Option PyData → Prop) : Prop :=
  g x δ fun δ1 => tt δ1 (fun b => if b = true then te δ1 (fun s => ∃ d, asD s = some d ∧ k (some d)) (fun _ => False) else k none) (fun _ => False)
theorem lcR_cons {g : DG} {tt : DB} {te : DT} {δ : Env} {x : PyData} {xs : List PyData} {Q : List PyData → Prop} :
    lcR g tt te δ (x :: xs) Q = lcT g tt te δ x fun o => match o with | some d => lcR g tt te δ xs fun ys => Q (d :: ys) | none => lcR g tt te δ xs Q := rfl
/-- every turn is a function -/
theorem lcR_fm {g : DG} {tt : DB} {te : DT} {δ : Env} (f : PyData → Option PyData) : ∀ (ds : List PyData) {Q : List PyData → Prop}, (∀ x ∈ ds, ∀ k : Option PyData → Prop, k (f x) → lcT g tt te δ x k) → Q (ds.filterMap f) → lcR g tt te δ ds Q
  | [], Q, _, q => q
  | x :: xs, Q, h, q => by
    rw [lcR_cons]
    refine h x List.mem_cons_self _ ?_
    cases e : f x with
    | none =>
      rw [List.filterMap_cons, e] at q
      exact lcR_fm f xs (fun y hy => h y (List.mem_cons_of_mem _ hy)) q
    | some d =>
      rw [List.filterMap_cons, e] at q
      exact lcR_fm f xs (fun y hy => h y (List.mem_cons_of_mem _ hy)) q
theorem lcR_map {g : DG} {tt : DB} {te : DT} {δ : Env} (f : PyData → PyData) (ds : List PyData) {Q : List PyData → Prop} (h : ∀ x ∈ ds, ∀ k : Option PyData → Prop, k (some (f x)) → lcT g tt te δ x k) (q : Q (ds.map f)) : lcR g tt te δ ds Q := by
  refine lcR_fm (fun x => some (f x)) ds h ?_
  have e : ds.filterMap (fun x => some (f x)) = ds.map f := by
    induction ds with
    | nil => rfl
    | cons x xs ih => simp [List.filterMap_cons]
  rw [e]
  exact q
/-- every turn keeps something of P, or nothing; all that is kept is of P -/
theorem lcR_any {g : DG} {tt : DB} {te : DT} {δ : Env} (P : PyData → PyData → Prop) : ∀ (ds : List PyData) {Q : List PyData → Prop}, (∀ x ∈ ds, ∀ k : Option PyData → Prop, (∀ d, P x d → k (some d)) → k none → lcT g tt te δ x k) →
    (∀ ys : List PyData, ys.length ≤ ds.length → (∀ y ∈ ys, ∃ x ∈ ds, P x y) → Q ys) → lcR g tt te δ ds Q
  | [], Q, _, q => q [] (Nat.le_refl _) (fun _ z => nomatch z)
  | x :: xs, Q, h, q => by
    rw [lcR_cons]
    refine h x List.mem_cons_self _ (fun d hd => ?_) ?_
    · refine lcR_any P xs (fun y hy => h y (List.mem_cons_of_mem _ hy)) fun ys hl hy => q (d :: ys) (Nat.succ_le_succ hl) fun z hz => ?_
      rcases List.mem_cons.mp hz with rfl | hz
      · exact ⟨x, List.mem_cons_self, hd⟩
      · obtain ⟨w, h1, h2⟩ := hy z hz
        exact ⟨w, List.mem_cons_of_mem _ h1, h2⟩
    · refine lcR_any P xs (fun y hy => h y (List.mem_cons_of_mem _ hy)) fun ys hl hy => q ys (Nat.le_succ_of_le hl) fun z hz => ?_
      obtain ⟨w, h1, h2⟩ := hy z hz
      exact ⟨w, List.mem_cons_of_mem _ h1, h2⟩
/-- every turn keeps just one, of P -/
theorem lcR_each {g : DG} {tt : DB} {te : DT} {δ : Env} (P : PyData → PyData → Prop) : ∀ (ds : List PyData) {Q : List PyData → Prop}, (∀ x ∈ ds, ∀ k : Option PyData → Prop, (∀ d, P x d → k (some d)) → lcT g tt te δ x k) →
    (∀ ys : List PyData, ys.length = ds.length → (∀ y ∈ ys, ∃ x ∈ ds, P x y) → Q ys) → lcR g tt te δ ds Q
  | [], Q, _, q => q [] rfl (fun _ z => nomatch z)
  | x :: xs, Q, h, q => by
    rw [lcR_cons]
    refine h x List.mem_cons_self _ (fun d hd => ?_)
    refine lcR_each P xs (fun y hy => h y (List.mem_cons_of_mem _ hy)) fun ys hl hy => q (d :: ys) (by rw [List.length_cons, List.length_cons, hl]) fun z hz => ?_
    rcases List.mem_cons.mp hz with rfl | hz
    · exact ⟨x, List.mem_cons_self, hd⟩
    · obtain ⟨w, h1, h2⟩ := hy z hz
      exact ⟨w, List.mem_cons_of_mem _ h1, h2⟩
theorem forR_nil {g : DG} {tb : DS} {De : DE} {δ : Env} {Ex : XP} : forR g tb [] De δ Ex = De.nx δ := rfl
theorem forR_cons {g : DG} {tb : DS} {x : PyData} {xs : List PyData} {De : DE} {δ : Env} {Ex : XP} :
    forR g tb (x :: xs) De δ Ex = g x δ fun δ1 => tb { De with nx := fun δ2 => forR g tb xs De δ2 Ex, ct := fun δ2 => forR g tb xs De δ2 Ex, bk := De.nx } δ1 Ex := rfl
/-- a for by an invariant over the slots -/
theorem forR_inv {g : DG} {tb : DS} {De : DE} {Ex : XP} (I : List PyData → Env → Prop) : ∀ (xs pre : List PyData) (δ : Env), I pre δ →
    (∀ (p : List PyData) (x : PyData) (r : List PyData) (δ : Env) (k : Env → Prop), pre ++ xs = p ++ x :: r → I p δ → (∀ δ', I (p ++ [x]) δ' → k δ') → g x δ fun δ1 => tb { De with nx := k, ct := k, bk := De.nx } δ1 Ex) →
    (∀ δ', I (pre ++ xs) δ' → De.nx δ') → forR g tb xs De δ Ex
  | [], pre, δ, h, _, e => by
    rw [List.append_nil] at e
    exact e δ h
  | x :: xs, pre, δ, h, t, e => by
    rw [forR_cons]
    refine t pre x xs δ (fun δ2 => forR g tb xs De δ2 Ex) rfl h fun δ' h' => ?_
    refine forR_inv I xs (pre ++ [x]) δ' h' (fun p y r δ k hp => ?_) (fun δ2 h2 => ?_)
    · exact t p y r δ k (by rw [← hp, List.append_assoc]; rfl)
    · refine e δ2 ?_
      rw [List.append_assoc] at h2
      exact h2
/-- the next row, kept closed until it is reached -/
theorem seqK {t u : DS} {De : DE} {δ : Env} {Ex : XP} (h : ∀ K : Env → Prop, (∀ δ', u De δ' Ex → K δ') → t { De with nx := K } δ Ex) : sSeq t u De δ Ex := h _ fun _ h => h
/-! ### displays of constants -/
def Lit (t : DT) (v : PyData) : Prop := ∀ δ Q Ex, Q (.d v) → t δ Q Ex
def LitL (t : DT) (vs : List PyData) : Prop := ∀ δ Q Ex, Q (.own vs) → t δ Q Ex
def LitA (u : DA) (vs : List PyData) : Prop := ∀ δ Q Ex, Q (vs.map SV.d) → u δ Q Ex
theorem asDs_map : ∀ vs : List PyData, asDs (vs.map SV.d) = some vs
  | [] => rfl
  | v :: vs => by
    show (asDs (vs.map SV.d)).map (v :: ·) = some (v :: vs)
    rw [asDs_map vs]
    rfl
theorem lit_c {v : PyData} : Lit (dC (.d v)) v := fun _ _ _ h => h
theorem lit_cL {vs : List PyData} : LitL (dC (.own vs)) vs := fun _ _ _ h => h
theorem lit_neg {t : DT} {i : Int} (h : Lit t (.int i)) : Lit (dNeg t) (.int (-i)) := fun δ Q Ex q => h δ _ Ex ⟨i, rfl, q⟩
theorem lita_nil : LitA daNil [] := fun _ _ _ h => h
theorem lita_cons {t : DT} {u : DA} {v : PyData} {vs : List PyData} (h : Lit t v) (k : LitA u vs) : LitA (daCons t u) (v :: vs) := fun δ Q Ex q => h δ _ Ex (k δ _ Ex q)
theorem lita_consL {t : DT} {u : DA} {ws vs : List PyData} (h : LitL t ws) (k : LitA u vs) : LitA (daCons t u) (.list ws :: vs) := fun δ Q Ex q => h δ _ Ex (k δ _ Ex q)
theorem lit_tup {u : DA} {vs : List PyData} (h : LitA u vs) (l : vs.length ≤ 1000) : Lit (dTup u) (.tuple vs) := fun δ Q Ex q => h δ _ Ex ⟨vs, asDs_map vs, l, q⟩
theorem lit_lst {u : DA} {vs : List PyData} (h : LitA u vs) (l : vs.length ≤ 1000) : LitL (dLst u) vs := fun δ Q Ex q => h δ _ Ex ⟨vs, asDs_map vs, l, q⟩
section
variable {X : Cx} {E : XK} {e : Expr} {t : DT}
theorem de_lit {v : PyData} (he : PE X e (lift E t)) (h : Lit t v) : PE X e (lift E (dC (.d v))) := by
  refine peW he ?_
  rintro σ H R ⟨tw, G0, H0, G, δ, Q, Ex, a, hq, q⟩
  exact ⟨tw, G0, H0, G, δ, Q, Ex, a, h δ Q Ex hq, q⟩
theorem de_litL {vs : List PyData} (he : PE X e (lift E t)) (h : LitL t vs) : PE X e (lift E (dC (.own vs))) := by
  refine peW he ?_
  rintro σ H R ⟨tw, G0, H0, G, δ, Q, Ex, a, hq, q⟩
  exact ⟨tw, G0, H0, G, δ, Q, Ex, a, h δ Q Ex hq, q⟩
end
end DL
/-! DL 12: the drawing: the town, the script, the law's head. -/
namespace DL
open PySem PySem.Spec PyProof.Rows L2
/-! ### tables of rests -/
theorem nodup_len : ∀ (n : Nat) (l : List Nat), l.Nodup → (∀ x ∈ l, x < n) → l.length ≤ n
  | 0, [], _, _ => Nat.le_refl _
  | 0, x :: _, _, h => absurd (h x List.mem_cons_self) (Nat.not_lt_zero _)
  | n + 1, l, hn, h => by
    have ih := nodup_len n (l.erase n) (hn.erase n) fun x hx => by
      rw [hn.mem_erase_iff] at hx
      have := h x hx.2
      have := hx.1
      omega
    rw [List.length_erase] at ih
    split at ih <;> omega
theorem RestsOk.len {rs : List (Key × V)} (h : RestsOk rs) : rs.length ≤ 63 := by
  have key : ∀ l : List (Key × V), (∀ p ∈ l, ∃ (k : Nat) (i : Int), p = (.inl (k : Int), .int i) ∧ k < 63) → ∃ ks : List Nat, l.map (·.1) = ks.map (fun k : Nat => (Sum.inl (k : Int) : Key)) ∧ ∀ k ∈ ks, k < 63 := by
    intro l
    induction l with
    | nil => intro _; exact ⟨[], rfl, fun _ z => nomatch z⟩
    | cons p r ih =>
      intro hp
      obtain ⟨ks, e1, e2⟩ := ih fun q hq => hp q (List.mem_cons_of_mem _ hq)
      obtain ⟨k, i, e3, e4⟩ := hp p List.mem_cons_self
      refine ⟨k :: ks, ?_, fun x hx => ?_⟩
      · rw [List.map_cons, List.map_cons, e1, e3]
      · rcases List.mem_cons.mp hx with rfl | hx
        · exact e4
        · exact e2 x hx
  obtain ⟨ks, e1, e2⟩ := key rs h.2
  have hn : ks.Nodup := by
    have := h.1
    rw [e1] at this
    refine List.Pairwise.imp (fun hxy => ?_) (List.pairwise_map.mp this)
    intro e
    exact hxy (by rw [e])
  have := nodup_len 63 ks hn e2
  have hl : rs.length = ks.length := by
    have := congrArg List.length e1
    rw [List.length_map, List.length_map] at this
    exact this
  omega
theorem RestsOk.val {rs : List (Key × V)} (h : RestsOk rs) {k : Key} {v : V} (e : valV rs k = some v) : ∃ i, v = .int i := by
  unfold valV at e
  cases q : rs.find? fun kv => decide (kv.1 = k) with
  | none => rw [q] at e; cases e
  | some p =>
    rw [q] at e
    obtain ⟨k', i, e3, _⟩ := h.2 p (List.mem_of_find?_eq_some q)
    rw [e3] at e
    cases e
    exact ⟨i, rfl⟩
theorem RestsOk.put {rs : List (Key × V)} (h : RestsOk rs) {k : Nat} (hk : k < 63) (i : Int) : RestsOk (putK rs (.inl (k : Int)) (.int i)) := by
  unfold putK
  split
  · rename_i ha
    refine ⟨?_, fun p hp => ?_⟩
    · rw [List.map_map]
      have e : ((fun kv : Key × V => kv.1) ∘ fun kv : Key × V => if kv.1 = Sum.inl (k : Int) then (kv.1, V.int i) else kv) = fun kv => kv.1 := by
        funext kv
        show (if kv.1 = Sum.inl (k : Int) then (kv.1, V.int i) else kv).1 = kv.1
        split <;> rfl
      rw [e]
      exact h.1
    · rw [List.mem_map] at hp
      obtain ⟨q, hq, e⟩ := hp
      obtain ⟨k', j, e3, e4⟩ := h.2 q hq
      subst e
      split
      · rename_i ek
        exact ⟨k, i, by rw [ek], hk⟩
      · exact ⟨k', j, e3, e4⟩
  · rename_i ha
    refine ⟨?_, fun p hp => ?_⟩
    · rw [List.map_append, List.nodup_append]
      refine ⟨h.1, by simp, fun a ha' b hb => ?_⟩
      rw [List.map_singleton, List.mem_singleton] at hb
      subst hb
      intro e
      subst e
      rw [List.mem_map] at ha'
      obtain ⟨q, hq, e⟩ := ha'
      refine ha ?_
      rw [List.any_eq_true]
      exact ⟨q, hq, decide_eq_true e⟩
    · rcases List.mem_append.mp hp with hp | hp
      · exact h.2 p hp
      · rw [List.mem_singleton] at hp
        exact ⟨k, i, hp, hk⟩
/-! ### the town -/
section
variable {X : Cx} {E : XK} {o e f : Expr} {to te tf : DT} {pos p2 : Pos} {j : Nat}
/-- town["count"] -/
def dCount (to : DT) : DT := fun δ Q Ex => to δ (fun s => s = .town ∧ ∀ n : Int, Q (.d (.int n))) Ex
theorem de_count {pj : Pos} (hu : X.A.units + 65 < cLine) (ho : PE X o (lift E to)) : PE X (.Subscript o (.Constant (.str "count") j pj) pos) (lift E (dCount to)) := by
  refine peW (pe_dget (by omega) ho pe_str (fun _ _ => rfl)) ?_
  rintro σ H R ⟨tw, G0, H0, G, δ, Q, Ex, a, h, q⟩
  refine ⟨tw, G0, H0, G, δ, _, Ex, a, h, fun s v G1 H1 ⟨hs, hn⟩ r e => ?_⟩
  subst hs
  obtain ⟨t, r', rfl, rfl⟩ := r
  have tk : TownOk H1 t r' := e.tk
  obtain ⟨_, n, rs, h1, h2, h3⟩ := tk
  exact ⟨t, .int n, rfl, DGet.k (k := .inr "count") h1, q _ _ G1 H1 (hn n) (WD.int n) e⟩
/-- town["count"] = e -/
def sCount (to te : DT) : DS := fun De δ Ex => te δ (fun s => ∃ i, s = .d (.int i) ∧ to δ (fun s' => s' = .town ∧ De.nx δ) Ex) Ex
theorem ds_count {pj : Pos} (hu : X.A.units + 65 < cLine) (he : PE X e (lift E te)) (ho : PE X o (lift E to)) (hs : swapsWith e (some (.Subscript o (.Constant (.str "count") j pj) p2)) pos.line X.env = pure false := by rfl) :
    PS X (.Assign [.Subscript o (.Constant (.str "count") j pj) p2] e pos) (liftS E (sCount to te)) := by
  refine psW (ps_dput (by omega) ho pe_str he hs) ?_
  rintro D σ H ⟨tw, G0, H0, G, δ, De, Ex, a, h, g⟩
  refine ⟨tw, G0, H0, G, δ, _, Ex, a, h, fun s v G1 H1 ⟨i, es, h1⟩ r1 e1 => ?_⟩
  subst es
  have ev := r1.int
  subst ev
  refine ⟨tw, G0, H0, G1, δ, _, Ex, a.go e1, h1, fun s v G2 H2 ⟨es, h2⟩ r2 e2 => ?_⟩
  subst es
  obtain ⟨t, r', rfl, rfl⟩ := r2
  have tk : TownOk H2 t r' := e2.tk
  obtain ⟨h0, n, rs, k1, k2, k3⟩ := tk
  refine ⟨t, _, rfl, DPut.k (k := .inr "count") k1 (by rw [sizeLine_eq]; show 2 < _; omega), ?_⟩
  have rp := a.rep.go (e1.trans e2)
  refine g.nx δ G2 σ _ h2 ⟨⟨rp.ext.gg, fun b o hb => ?_, fun b o hb hv => ?_, ?_, rp.ext.nv, rp.ext.new⟩, rp.len, fun k s hk => ?_, rp.own⟩
  · have hne : b ≠ t := fun z => by
      subst z
      rw [rp.ext.nv b (.inl rfl)] at hb
      cases hb
    rw [upd_ne hne]
    exact rp.ext.gh b o hb
  · rw [upd_ne (fun z => hv (.inl z))]
    exact rp.ext.hh b o hb hv
  · refine ⟨h0, i, rs, ?_, ?_, k3⟩
    · rw [upd_same]
      rfl
    · rw [upd_ne (fun z => h0 z.symm)]
      exact k2
  · obtain ⟨v, f1, f2⟩ := rp.sl k s hk
    refine ⟨v, f1, ?_⟩
    cases s with
    | own l =>
      obtain ⟨b, vs, g1, g2, g3, g4, g5, g6⟩ := f2
      have hne : b ≠ t := fun z => by
        subst z
        rw [k1] at g2
        cases g2
      exact ⟨b, vs, g1, by rw [upd_ne hne]; exact g2, g3, g4, g5, g6⟩
    | d x => exact f2
    | bor l => exact f2
    | town => exact f2
    | v x => exact f2
    | abs φ m => exact f2
/-- town["rests"].get(e, f) -/
def dRest (to te tf : DT) : DT := fun δ Q Ex => to δ (fun s => s = .town ∧ te δ (fun y => ∃ k : Nat, y = .d (.int k) ∧ k < 63 ∧ tf δ (fun z => ∃ i, z = .d (.int i) ∧ ∀ n : Int, Q (.d (.int n))) Ex) Ex) Ex
theorem de_rest {pj apos : Pos} (hu : X.A.units + 65 < cLine) (ho : PE X o (lift E to)) (he : PE X e (lift E te)) (hf : PE X f (lift E tf)) (m : M2 X (.Subscript o (.Constant (.str "rests") j pj) p2) "get" apos e f pos) :
    PE X (.Call (.Attribute (.Subscript o (.Constant (.str "rests") j pj) p2) "get" apos) [e, f] [] pos) (lift E (dRest to te tf)) := by
  refine peW (pe_dget2 (by omega) (pe_dget (by omega) ho pe_str (fun _ _ => rfl)) he hf m) ?_
  rintro σ H R ⟨tw, G0, H0, G, δ, Q, Ex, a, h, q⟩
  refine ⟨tw, G0, H0, G, δ, _, Ex, a, h, fun s v G1 H1 ⟨hs, h1⟩ r e1 => ?_⟩
  subst hs
  obtain ⟨t, r', rfl, rfl⟩ := r
  have tk : TownOk H1 t r' := e1.tk
  obtain ⟨_, n, rs, k1, k2, k3⟩ := tk
  refine ⟨t, .ref r', rfl, DGet.k (k := .inr "rests") k1, r', rfl, .inl ⟨rs, .inl k2⟩, ?_⟩
  refine ⟨some (t, r'), G0, H0, G1, δ, _, Ex, a.go e1, h1, fun s v G2 H2 ⟨k, es, hk, h2⟩ r2 e2 => ?_⟩
  subst es
  have ev := r2.int
  subst ev
  refine ⟨some (t, r'), G0, H0, G2, δ, _, Ex, (a.go e1).go e2, h2, fun s v G3 H3 ⟨i, es, h3⟩ r3 e3 => ?_⟩
  subst es
  have ev := r3.int
  subst ev
  have tk3 : TownOk H3 t r' := e3.tk
  obtain ⟨_, n3, rs3, l1, l2, l3⟩ := tk3
  refine ⟨_, DGet.k (k := .inl (k : Int)) l2, ?_⟩
  cases q0 : valV rs3 (.inl (k : Int)) with
  | none => exact q _ _ G3 H3 (h3 i) (WD.int i) ((e1.trans e2).trans e3)
  | some v =>
    obtain ⟨i', rfl⟩ := l3.val q0
    exact q _ _ G3 H3 (h3 i') (WD.int i') ((e1.trans e2).trans e3)
/-- town["rests"][f] = e -/
def sRest (to te tf : DT) : DS := fun De δ Ex => te δ (fun s => ∃ i, s = .d (.int i) ∧ to δ (fun s' => s' = .town ∧ tf δ (fun y => ∃ k : Nat, y = .d (.int k) ∧ k < 63 ∧ De.nx δ) Ex) Ex) Ex
theorem ds_rest {pj p3 : Pos} (hu : X.A.units + 65 < cLine) (he : PE X e (lift E te)) (ho : PE X o (lift E to)) (hf : PE X f (lift E tf)) (hs : swapsWith e (some (.Subscript (.Subscript o (.Constant (.str "rests") j pj) p3) f p2)) pos.line X.env = pure false := by rfl) :
    PS X (.Assign [.Subscript (.Subscript o (.Constant (.str "rests") j pj) p3) f p2] e pos) (liftS E (sRest to te tf)) := by
  refine psW (ps_dput (by omega) (pe_dget (by omega) ho pe_str (fun _ _ => rfl)) hf he hs) ?_
  rintro D σ H ⟨tw, G0, H0, G, δ, De, Ex, a, h, g⟩
  refine ⟨tw, G0, H0, G, δ, _, Ex, a, h, fun s v G1 H1 ⟨i, es, h1⟩ r1 e1 => ?_⟩
  subst es
  have ev := r1.int
  subst ev
  refine ⟨tw, G0, H0, G1, δ, _, Ex, a.go e1, h1, fun s v G2 H2 ⟨es, h2⟩ r2 e2 => ?_⟩
  subst es
  obtain ⟨t, r', rfl, rfl⟩ := r2
  have tk : TownOk H2 t r' := e2.tk
  obtain ⟨h0, n, rs, k1, k2, k3⟩ := tk
  refine ⟨t, .ref r', rfl, DGet.k (k := .inr "rests") k1, ?_⟩
  refine ⟨some (t, r'), G0, H0, G2, δ, _, Ex, (a.go e1).go e2, h2, fun s v G3 H3 ⟨k, es, hk, h3⟩ r3 e3 => ?_⟩
  subst es
  have ev := r3.int
  subst ev
  have tk3 : TownOk H3 t r' := e3.tk
  obtain ⟨_, n3, rs3, l1, l2, l3⟩ := tk3
  refine ⟨r', _, rfl, DPut.k (k := .inl (k : Int)) l2 (by rw [sizeLine_eq]; have := l3.len; omega), ?_⟩
  have rp := a.rep.go ((e1.trans e2).trans e3)
  refine g.nx δ G3 σ _ h3 ⟨⟨rp.ext.gg, fun b o hb => ?_, fun b o hb hv => ?_, ?_, rp.ext.nv, rp.ext.new⟩, rp.len, fun k s hk => ?_, rp.own⟩
  · have hne : b ≠ r' := fun z => by
      subst z
      rw [rp.ext.nv b (.inr rfl)] at hb
      cases hb
    rw [upd_ne hne]
    exact rp.ext.gh b o hb
  · rw [upd_ne (fun z => hv (.inr z))]
    exact rp.ext.hh b o hb hv
  · refine ⟨h0, n3, _, ?_, ?_, l3.put hk i⟩
    · rw [upd_ne h0]
      exact l1
    · rw [upd_same]
  · obtain ⟨v, f1, f2⟩ := rp.sl k s hk
    refine ⟨v, f1, ?_⟩
    cases s with
    | own l =>
      obtain ⟨b, vs, g1, g2, g3, g4, g5, g6⟩ := f2
      have hne : b ≠ r' := fun z => by
        subst z
        rw [l2] at g2
        cases g2
      exact ⟨b, vs, g1, by rw [upd_ne hne]; exact g2, g3, g4, g5, g6⟩
    | d x => exact f2
    | bor l => exact f2
    | town => exact f2
    | v x => exact f2
    | abs φ m => exact f2
end
/-! ### the script -/
def scr (c : Ct) (n : Nat) : SV := .abs (fun v G => ∃ (a : Addr) (ns : List Int), v = .ref a ∧ SqL c.K G a (ns.map V.int) ∧ ns.length = n) fun _ _ _ e ⟨a, ns, h1, h2, h3⟩ => ⟨a, ns, h1, e.seq h2, h3⟩
theorem vS_scr {c : Ct} {n : Nat} {Q : SV → Prop} : vS (scr c n) Q = Q (scr c n) := rfl
theorem fz_scr {c : Ct} {n : Nat} {k : SV → Prop} : fz (scr c n) k = k (scr c n) := rfl
theorem VR.scr {c : Ct} {n : Nat} {tw : Tw} {H0 H G1 H1 : Hp} {v : V} (h : VR tw H0 H G1 H1 v (scr c n)) (e : Same G1 H1) : ∃ (a : Addr) (ns : List Int), v = .ref a ∧ SqL c.K H1 a (ns.map V.int) ∧ ns.length = n := by
  have h' : ∃ (a : Addr) (ns : List Int), v = .ref a ∧ SqL c.K G1 a (ns.map V.int) ∧ ns.length = n := h
  obtain ⟨a, ns, h1, h2, h3⟩ := h'
  exact ⟨a, ns, h1, e.seq h2, h3⟩
section
variable {X : Cx} {E : XK} {a b : Expr} {ta tb : DT} {pos p : Pos} {c : Ct}
def bScr (c : Ct) (t : DT) : DB := fun δ Q Ex => t δ (fun s => ∃ n, s = scr c n ∧ Q (n != 0)) Ex
theorem db_scr (hK : X.K = c.K) (h : PE X a (lift E ta)) (he : ∀ whole, isTrue a X.env whole = (do let v ← whole; standAt a.pos; holding [v] (truthy v)) := by intro _; rfl) : PT X a (liftB E (bScr c ta)) := by
  refine ptW (pt_truth h he) ?_
  rintro σ H R ⟨tw, G0, H0, G, δ, Q, Ex, a, h, q⟩
  refine ⟨tw, G0, H0, G, δ, _, Ex, a, h, fun s v G1 H1 ⟨n, es, hq⟩ r e => ?_⟩
  subst es
  obtain ⟨b, ns, rfl, sq, hl⟩ := r.scr e.gh
  refine ⟨n != 0, .inl ⟨ns.map V.int, by rw [hK]; exact sq, ?_⟩, q _ G1 H1 hq e⟩
  rw [← hl]
  cases ns <;> rfl
def dLenS (c : Ct) (t : DT) : DT := fun δ Q Ex => t δ (fun s => ∃ n, s = scr c n ∧ Q (.d (.int n))) Ex
theorem de_lenS (hK : X.K = c.K) (hm : X.mg "len" = none) (ha : PE X a (lift E ta)) (hg : Gl X "len" := by rfl)
    (he : starEach (a :: []) X.env = (false, eval a X.env) :: starEach [] X.env := by rfl) (hpl : (backTo pos (starEach [] X.env)).any (·.1) = false := by rfl) : PE X (.Call (.Name "len" p) [a] [] pos) (lift E (dLenS c ta)) := by
  refine peW (pe_callB call_len_seq hg hm PySem.boot_len (pa_cons ha pa_nil he) (by decide) (by decide) he hpl) ?_
  rintro σ H R ⟨tw, G0, H0, G, δ, Q, Ex, a, h, q⟩
  refine ⟨tw, G0, H0, G, δ, _, Ex, a, h, fun s v G1 H1 ⟨n, es, hq⟩ r e => ?_⟩
  subst es
  obtain ⟨b, ns, rfl, sq, hl⟩ := r.scr e.gh
  refine ⟨b, ns.map V.int, rfl, .inl (by rw [hK]; exact sq), ?_⟩
  rw [List.length_map, hl]
  exact q _ _ G1 H1 hq (WD.int _) e
def dIxS (c : Ct) (ta tb : DT) : DT := fun δ Q Ex => ta δ (fun s => ∃ n, s = scr c n ∧ tb δ (fun y => ∃ k : Nat, y = .d (.int k) ∧ k < n ∧ ∀ i : Int, Q (.d (.int i))) Ex) Ex
theorem de_ixS (hK : X.K = c.K) (ha : PE X a (lift E ta)) (hb : PE X b (lift E tb)) (hs : PlainIx b) : PE X (.Subscript a b pos) (lift E (dIxS c ta tb)) := by
  refine peW (pe_ix ix_list ha hb hs) ?_
  rintro σ H R ⟨tw, G0, H0, G, δ, Q, Ex, a, h, q⟩
  refine ⟨tw, G0, H0, G, δ, _, Ex, a, h, fun s v G1 H1 ⟨n, es, hq⟩ r e => ?_⟩
  subst es
  refine ⟨tw, G0, H0, G1, δ, _, Ex, a.go e, hq, fun s v2 G2 H2 ⟨k, es, hk, hq⟩ r2 e2 => ?_⟩
  subst es
  have ev := r2.int
  subst ev
  obtain ⟨b, ns, rfl, sq, hl⟩ := (r.go e.tk e2).scr e2.gh
  have hk' : k < ns.length := by omega
  refine ⟨b, ns.map V.int, (k : Int), .int ns[k], rfl, rfl, by rw [hK]; exact sq, ?_, q _ _ G2 H2 (hq _) (WD.int _) (e.trans e2)⟩
  refine atI_nat ?_
  rw [List.getElem?_map, List.getElem?_eq_getElem hk']
  rfl
end
/-! ### the law's head -/
section
variable {P : Program} {w : World} {K : PySem.W.Frag} {mg : Str → Option Value} {base : Heap}
def spBegun : Sp := fun vs H Q _ => vs = [] ∧ ∀ t r H', t ≠ r → H t = none → H r = none → Same H H' → H' t = some (.dK [(.inr "count", .int 0), (.inr "rests", .ref r)]) → H' r = some (.dK []) → Q (.ref t) H'
theorem ok_begun {x qual : Str} {st : Stmt} {f : Addr} {fd : FuncData} (F : Fun K x qual st f fd) (S : FnScope [] [] (defScope st)) {p1 p2 p3 p4 p5 p6 : Pos} {j1 j2 j3 : Nat}
    (hb : defBody st = [.Return (some (.Dict [some (.Constant (.str "count") j1 p1), some (.Constant (.str "rests") j2 p2)] [.Constant (.int 0) j3 p3, .Dict [] [] p4] p5)) p6]) : FnOk P w K mg base (L2.CX P w) 1 f fd [] spBegun := by
  refine F.okX S (fun vs H Q E h => ?_) (fun cdv A outer s H vs Q E hroom h => ?_)
  · rw [h.1]
    rfl
  · obtain ⟨rfl, q⟩ := h
    rw [hb]
    refine ⟨_, pss_one (ps_ret (pe_disp (pps_cons pe_str pe_int (pps_cons pe_str pe_dnewK pps_nil)) rfl rfl (by simp) (Nat.le_of_ble_eq_true rfl))), ?_⟩
    refine fun t nt r nr => ?_
    have hne : t ≠ r := fun z => by
      subst z
      rw [upd_same] at nr
      cases nr
    have nr' : H r = none := by
      rw [upd_ne hne.symm] at nr
      exact nr
    refine ⟨?_, [(.inr "count", .int 0), (.inr "rests", .ref r)], rfl, Nat.le_of_ble_eq_true rfl, ?_⟩
    · rw [upd_ne hne, upd_same]
    · refine q t r _ hne nt nr' (fun b o hb => ?_) upd_same ?_
      · rw [upd_ne (ne_of_none hb nt), upd_ne (ne_of_none hb nr'), upd_ne (ne_of_none hb nt)]
        exact hb
      · rw [upd_ne hne.symm, upd_same]
def spLaw (K : PySem.W.Frag) : Sp := fun vs H Q _ => ∃ (a : Addr) (ns : List Int), vs = [.ref a] ∧ SqL K H a (ns.map V.int) ∧ ns.length ≤ 63 ∧ ∀ H', Q (.bl true) H'
/-- THE RULE for a law: its first row begins the drawing -/
theorem fnLaw {c : Ct} {x qual y z : Str} {st : Stmt} {rest : List Stmt} {f fb : Addr} {fd fdb : FuncData} {N : List Str} {k : Nat} {t : DS} {p1 p2 p3 p4 : Pos} (hK : K = c.K) (F : Fun K x qual st f fd) (S : FnScope N [z] (defScope st))
    (B : FnOk P w K mg base (L2.CX P w) 1 fb fdb [] spBegun) (gB : mg "_law_begun" = some (.ref fb)) (kB : PySem.W.keepIn K (.ref fb) = true) (bB : Binds K fdb [] [])
    (hst : defBody st = .Assign [.Name y p1] (.Call (.Name "_law_begun" p2) [] [] p3) p4 :: rest) (hN : N[1]? = some y)
    (hy : ∀ (cdv : Value) (A : Around) (outer : List PySem.Env) (s : Shared) (H : Hp) (E : XK), Loc (cxOf (L2.CX P w) P w K mg base N qual (defScope st) f cdv A outer s H E).env.scope y ∧ Gl (cxOf (L2.CX P w) P w K mg base N qual (defScope st) f cdv A outer s H E) "_law_begun" ∧
      Passes (L2.CX P w) (cxOf (L2.CX P w) P w K mg base N qual (defScope st) f cdv A outer s H E) E ∧ ((cxOf (L2.CX P w) P w K mg base N qual (defScope st) f cdv A outer s H E).fn y = true ∨ (cxOf (L2.CX P w) P w K mg base N qual (defScope st) f cdv A outer s H E).env.scope.names.lookup y = some .local) ∧
      swapsWith (.Call (.Name "_law_begun" p2) [] [] p3) (some (.Name y p1)) p4.line (cxOf (L2.CX P w) P w K mg base N qual (defScope st) f cdv A outer s H E).env = pure false)
    (hb : ∀ (cdv : Value) (A : Around) (outer : List PySem.Env) (s : Shared) (H : Hp) (E : XK), Room (k + 1) (A.deeper (envOfC qual (defScope st) s.heap.objs.size f cdv)) → PSs (cxOf (L2.CX P w) P w K mg base N qual (defScope st) f cdv A outer s H E) rest (liftS E t))
    (hr : ∀ n, n ≤ 63 → t { nx := fun _ => False, rt := fun s => s = .d (.bool true) } (startD N.length [scr c n, .town]) (fun _ => False)) : FnOk P w K mg base (L2.CX P w) (k + 1 + 1) f fd [z] (spLaw K) := by
  subst hK
  refine F.okX S (fun vs H Q E h => ?_) (fun cdv A outer s H vs Q E hroom h => ?_)
  · obtain ⟨a, ns, rfl, _⟩ := h
    rfl
  · obtain ⟨a, ns, rfl, sq, hl, q⟩ := h
    obtain ⟨y1, y2, y3, y4, y5⟩ := hy cdv A outer s H E
    rw [hst]
    refine ⟨_, pss_cons (ps_set (i := 1) S.nd hN y1 (pe_call0 B (hroom.mono (by omega)) y2 gB kB bB .nil y3) y5 y4) (hb cdv A outer s H E hroom), ?_⟩
    refine ⟨rfl, fun t' r H' hne nt nr sm ht hr' => ?_⟩
    have o : Ok (some (t', r)) H H' := ⟨sm, ⟨hne, 0, [], ht, hr', List.nodup_nil, fun _ z => nomatch z⟩, fun b hb => by rcases hb with rfl | rfl <;> assumption⟩
    have fr : FRs (some (t', r)) H [.ref a, .ref t'] [scr c ns.length, .town] := ⟨⟨a, ns, rfl, sq, rfl⟩, ⟨t', r, rfl, rfl⟩, trivial⟩
    have rs := rep_start (N := N) o fr
    have e : (L2.start N [.ref a]).set 1 (some (.ref t')) = L2.start N [.ref a, .ref t'] := by
      have hN2 : 1 < N.length := (List.getElem?_eq_some_iff.mp hN).1
      unfold L2.start
      obtain ⟨m, hm⟩ : ∃ m, N.length = m + 2 := ⟨N.length - 2, by omega⟩
      rw [hm]
      rfl
    show liftS E t _ ((L2.start N [V.ref a]).set 1 (some (V.ref t'))) H'
    rw [e]
    refine ⟨some (t', r), H, H', H, _, _, fun _ => False, ⟨rs, fun _ _ _ z _ => z.elim⟩, hr ns.length hl, fun _ _ _ _ z _ => z.elim, fun _ _ _ _ z => z.elim, fun _ _ _ _ z => z.elim, fun s v G H2 hs hv _ => ?_⟩
    subst hs
    have hv' : WD G v (.bool true) := hv
    cases hv'
    exact q H2
end
end DL
/-! Fa: values, protocols: readings, specifications. -/
namespace DL
open PySem PySem.Spec PyProof.Rows L2
/-! ### data -/
theorem sh_int (i : Int) : SeqAt.shaped (.int i) = true := rfl
theorem sh_bool (i : Bool) : SeqAt.shaped (.bool i) = true := rfl
theorem sh_none : SeqAt.shaped .none = true := rfl
theorem lay_ints : ∀ ns : List Int, PyData.canLayAll0 (ns.map .int) = true
  | [] => rfl
  | n :: ns => by
    have := lay_ints ns
    simp [PyData.canLayAll0, PyData.canLay0, this]
theorem dep_ints : ∀ ns : List Int, PyData.depthAll (ns.map .int) = 0
  | [] => rfl
  | n :: ns => by
    have := dep_ints ns
    simp [PyData.depthAll, PyData.depth, this]
theorem eqv_int (i j : Int) : PyData.eqv (.int i) (.int j) = (i == j) := by simp [PyData.eqv]
theorem eqv_bool (i j : Bool) : PyData.eqv (.bool i) (.bool j) = (i == j) := by simp [PyData.eqv]
theorem isi_int (x : PyData) : isiD "int" x = match x with | .int _ => true | .bool _ => true | _ => false := by cases x <;> rfl
theorem isi_bool (x : PyData) : isiD "bool" x = match x with | .bool _ => true | _ => false := by cases x <;> rfl
theorem isi_tuple (x : PyData) : isiD "tuple" x = match x with | .tuple _ => true | _ => false := by cases x <;> rfl
theorem isi_str (x : PyData) : isiD "str" x = match x with | .str _ => true | _ => false := by cases x <;> rfl
theorem map_all {α : Type} (f : α → Bool) (xs : List α) : ((xs.map f).all id) = xs.all f := by
  induction xs with
  | nil => rfl
  | cons x xs ih => simp [ih]
theorem map_any {α : Type} (f : α → Bool) (xs : List α) : ((xs.map f).any id) = xs.any f := by
  induction xs with
  | nil => rfl
  | cons x xs ih => simp [ih]
/-- all([f(x) for x in xs]) -/
theorem all_map {xs : List PyData} (f : PyData → Bool) {Q : SV → Prop} (h : Q (.d (.bool (xs.all f)))) : ∃ bs : List Bool, xs.map (fun x => PyData.bool (f x)) = bs.map .bool ∧ Q (.d (.bool (bs.all id))) :=
  ⟨xs.map f, by simp, by rw [map_all]; exact h⟩
theorem any_map {xs : List PyData} (f : PyData → Bool) {Q : SV → Prop} (h : Q (.d (.bool (xs.any f)))) : ∃ bs : List Bool, xs.map (fun x => PyData.bool (f x)) = bs.map .bool ∧ Q (.d (.bool (bs.any id))) :=
  ⟨xs.map f, by simp, by rw [map_any]; exact h⟩
/-! ### places, cuts -/
theorem six1 (n d : Nat) : HT.sIx n d (some 1) = min 1 n := HT.sIx_nat n d 1
theorem cut_to (ds : List PyData) (k : Nat) : cut ds none (some (k : Int)) = ds.take k := by
  unfold cut
  rw [HT.sIx_none, HT.sIx_nat, Nat.sub_zero, List.drop_zero]
  rw [List.take_eq_take_iff]
  omega
theorem cut_from (ds : List PyData) (k : Nat) : cut ds (some (k : Int)) none = ds.drop k := by
  unfold cut
  rw [HT.sIx_none, HT.sIx_nat]
  by_cases h : k ≤ ds.length
  · rw [Nat.min_eq_left h, List.take_of_length_le (by rw [List.length_drop]; omega)]
  · rw [List.drop_eq_nil_of_le (by omega), List.drop_eq_nil_of_le (by omega), List.take_nil]
theorem cut_from1 (ds : List PyData) : cut ds (some 1) none = ds.drop 1 := cut_from ds 1
theorem cut_to3 (ds : List PyData) : cut ds none (some 3) = ds.take 3 := cut_to ds 3
theorem atI_0 {α : Type} (x : α) (xs : List α) : atI (x :: xs) 0 = some x := by
  have : atI (x :: xs) ((0 : Nat) : Int) = some x := atI_nat rfl
  exact this
theorem bcase (b : Bool) : b = false ∨ b = true := by cases b <;> simp
theorem atI_at {α : Type} (xs : List α) (k : Nat) : atI xs (k : Int) = xs[k]? := by
  cases h : xs[k]? with
  | none =>
    unfold atI ixN
    have : xs.length ≤ k := List.getElem?_eq_none_iff.mp h
    rw [if_pos (by omega), if_neg (by omega)]
    rfl
  | some x => exact atI_nat h
/-! ### is_between .. -/
def isBetween : PyData → Int → Int → Bool
  | .int i, lo, hi => decide (lo ≤ i) && decide (i ≤ hi)
  | _, _, _ => false
def sp_is_between (c : Ct) : Spec := fun ss Q _ => match ss with
  | [.d v, .d (.int lo), .d (.int hi)] => Q (.d (.bool (isBetween v lo hi)))
  | _ => False
def t_is_between (c : Ct) : DS :=
  (sRet (dAnd (dOne (oIsi "int") (dVar 0)) (dAnd (dNot (dOne (oIsi "bool") (dVar 0))) (dChain (wInt2 fun i j => .bool (decide (i ≤ j))) (wInt2 fun i j => .bool (decide (i ≤ j))) (dVar 1) (dVar 0) (dVar 2)))))
theorem rd_is_between (c : Ct) (ss : List SV) (Q : SV → Prop) (Ex : XP) (h : sp_is_between c ss Q Ex) : t_is_between c { nx := fun _ => Q (.d .none), rt := Q } (startD 3 ss) Ex := by
  unfold sp_is_between at h
  split at h
  · rename_i v lo hi
    show t_is_between c _ [some (.d v), some (.d (.int lo)), some (.d (.int hi))] Ex
    cases v <;> simp [t_is_between, sSeq, sNext, sExpr, sRet, sIf, sSet, sSetF, sAsg, sPar, sRaise, sFor, sApp, sExt, sPop, sItem, sAugI, sAug, sFrz, sMove, sBreak, sCont, gN, gT, gsNil, gsCons, dVar, vS_d, vS_own, vS_town, vS_v, vS_scr, fz_scr, dC, dOp, dCall, dCallK, daNil, daCons, dTup, dLst, dSl, doNone, doSome, dIf, dAnd, dOr, dNot, dNeg, dOne, dTwoI, dChain, dLc, bVal, bTru, bScr, dLenS, dIxS, dCount, dRest, sCount, sRest, bNot, bAnd, bOr, bYes, wInt2, wIntC, wAdd, wMul, wIx, wIn, wEqD, wIsN, oLen, oTuple, oList, oAll, oSum, oIsi, iSeq, iRng1D, iRng2D, iEnumD, iZipD, fz_d, fz_own, fz_town, fz_v, fz_abs, asDs, fzB, wipeD, asD_d, asD_own, asD_bor, asL_list, asL_tuple, asL_own, asL_bor, asL_int, asL_bool, asL_none, asS_list, asS_tuple, asS_own, asS_bor, tru_bool, tru_int, tru_none, tru_tuple, tru_list, tru_own, tru_bor, stO_d, stO_own, stO_town, stO_v, stO_abs, rtS_d, rtS_own, rtS_bor, rtS_v, rtS_abs, isN_none, isN_tuple, isN_int, isN_list, isN_bool, isi_int, isi_bool, isBetween] at h ⊢ <;> first | exact h | skip
    rename_i i
    by_cases h1 : lo ≤ i
    · simp [h1] at h ⊢
      exact h
    · simp [h1] at h ⊢
      exact h
  · exact h.elim
theorem at_is_between {c : Ct} {v : PyData} {lo hi : Int} {Q : SV → Prop} {Ex : XP} : sp_is_between c [.d v, .d (.int lo), .d (.int hi)] Q Ex = Q (.d (.bool (isBetween v lo hi))) := rfl
def areBetween : PyData → Int → Int → Bool
  | .tuple xs, lo, hi => xs.all fun x => isBetween x lo hi
  | _, _, _ => false
def sp_are_between (c : Ct) : Spec := fun ss Q _ => match ss with
  | [.d v, .d (.int lo), .d (.int hi)] => Q (.d (.bool (areBetween v lo hi)))
  | _ => False
theorem at_are_between {c : Ct} {v : PyData} {lo hi : Int} {Q : SV → Prop} {Ex : XP} : sp_are_between c [.d v, .d (.int lo), .d (.int hi)] Q Ex = Q (.d (.bool (areBetween v lo hi))) := rfl
def t_are_between (c : Ct) : DS :=
  (sRet (dAnd (dOne (oIsi "tuple") (dVar 0)) (dOne (oAll fun bs => bs.all id) (dLc (iSeq (dVar 0)) (gN 3) bYes (dCall (sp_is_between c) (daCons (dVar 3) (daCons (dVar 1) (daCons (dVar 2) daNil)))) [3]))))
theorem rd_are_between (c : Ct) (ss : List SV) (Q : SV → Prop) (Ex : XP) (h : sp_are_between c ss Q Ex) : t_are_between c { nx := fun _ => Q (.d .none), rt := Q } (startD 4 ss) Ex := by
  unfold sp_are_between at h
  split at h
  · rename_i v lo hi
    show t_are_between c _ [some (.d v), some (.d (.int lo)), some (.d (.int hi)), none] Ex
    cases v <;> simp [t_are_between, sSeq, sNext, sExpr, sRet, sIf, sSet, sSetF, sAsg, sPar, sRaise, sFor, sApp, sExt, sPop, sItem, sAugI, sAug, sFrz, sMove, sBreak, sCont, gN, gT, gsNil, gsCons, dVar, vS_d, vS_own, vS_town, vS_v, vS_scr, fz_scr, dC, dOp, dCall, dCallK, daNil, daCons, dTup, dLst, dSl, doNone, doSome, dIf, dAnd, dOr, dNot, dNeg, dOne, dTwoI, dChain, dLc, bVal, bTru, bScr, dLenS, dIxS, dCount, dRest, sCount, sRest, bNot, bAnd, bOr, bYes, wInt2, wIntC, wAdd, wMul, wIx, wIn, wEqD, wIsN, oLen, oTuple, oList, oAll, oSum, oIsi, iSeq, iRng1D, iRng2D, iEnumD, iZipD, fz_d, fz_own, fz_town, fz_v, fz_abs, asDs, fzB, wipeD, asD_d, asD_own, asD_bor, asL_list, asL_tuple, asL_own, asL_bor, asL_int, asL_bool, asL_none, asS_list, asS_tuple, asS_own, asS_bor, tru_bool, tru_int, tru_none, tru_tuple, tru_list, tru_own, tru_bor, stO_d, stO_own, stO_town, stO_v, stO_abs, rtS_d, rtS_own, rtS_bor, rtS_v, rtS_abs, isN_none, isN_tuple, isN_int, isN_list, isN_bool, isi_tuple, areBetween] at h ⊢ <;> first | exact h | skip
    rename_i xs
    refine lcR_map (fun x => .bool (isBetween x lo hi)) xs (fun x _ k hk => ?_) (all_map _ h)
    simp only [lcT, sSeq, sNext, sExpr, sRet, sIf, sSet, sSetF, sAsg, sPar, sRaise, sFor, sApp, sExt, sPop, sItem, sAugI, sAug, sFrz, sMove, sBreak, sCont, gN, gT, gsNil, gsCons, dVar, vS_d, vS_own, vS_town, vS_v, vS_scr, fz_scr, dC, dOp, dCall, dCallK, daNil, daCons, dTup, dLst, dSl, doNone, doSome, dIf, dAnd, dOr, dNot, dNeg, dOne, dTwoI, dChain, dLc, bVal, bTru, bScr, dLenS, dIxS, dCount, dRest, sCount, sRest, bNot, bAnd, bOr, bYes, wInt2, wIntC, wAdd, wMul, wIx, wIn, wEqD, wIsN, oLen, oTuple, oList, oAll, oSum, oIsi, iSeq, iRng1D, iRng2D, iEnumD, iZipD, fz_d, fz_own, fz_town, fz_v, fz_abs, asDs, fzB, wipeD, asD_d, asD_own, asD_bor, asL_list, asL_tuple, asL_own, asL_bor, asL_int, asL_bool, asL_none, asS_list, asS_tuple, asS_own, asS_bor, tru_bool, tru_int, tru_none, tru_tuple, tru_list, tru_own, tru_bor, stO_d, stO_own, stO_town, stO_v, stO_abs, rtS_d, rtS_own, rtS_bor, rtS_v, rtS_abs, isN_none, isN_tuple, isN_int, isN_list, isN_bool, List.map_cons, List.map_nil, List.length_cons, List.length_nil, List.cons_append, List.nil_append, List.getElem?_cons_zero, List.getElem?_cons_succ, List.set_cons_zero, List.set_cons_succ, Option.map_some, Option.map_none, Option.some.injEq, SV.d.injEq, SV.own.injEq, PyData.int.injEq, PyData.bool.injEq, PyData.tuple.injEq, PyData.list.injEq, PyData.str.injEq, List.cons.injEq, exists_eq_left, exists_eq_left', exists_eq_right, exists_and_left, exists_and_right, exists_const, and_true, true_and, if_true, if_false, reduceCtorEq, false_or, or_false, false_and, and_false, Bool.not_true, Bool.not_false, Bool.false_eq_true, ite_true, ite_false, reduceIte, Bool.true_eq_false, Nat.reduceAdd, nc0, nc1, nc2, nc3, nc4, nc5, nc6, nc7, nc8, Int.reduceBEq, beq_self_eq_true, Bool.and_true, Bool.true_and, Bool.and_false, Bool.false_and, Nat.zero_add, at_is_between]
    exact hk
  · exact h.elim
/-! ### is_ascending -/
/-- the ints of data -/
def intsOf : List PyData → List Int
  | .int i :: r => i :: intsOf r
  | _ => []
theorem intsOf_map : ∀ ns : List Int, intsOf (ns.map .int) = ns
  | [] => rfl
  | n :: ns => by
    show n :: intsOf (ns.map .int) = n :: ns
    rw [intsOf_map ns]
/-- x < y, of ints and of tuples of ints -/
def ltD : PyData → PyData → Bool
  | .int i, .int j => decide (i < j)
  | .tuple xs, .tuple ys => HT.lexLt (intsOf xs) (intsOf ys)
  | _, _ => false
def isI : PyData → Prop := fun x => ∃ i, x = .int i
def isT : PyData → Prop := fun x => ∃ ns : List Int, x = .tuple (ns.map .int)
def ascL : List PyData → Bool
  | a :: b :: r => ltD a b && ascL (b :: r)
  | _ => true
theorem zips_asc : ∀ xs : List PyData, ((zips xs (xs.drop 1)).all fun p => match p with | .tuple [a, b] => ltD a b | _ => false) = ascL xs
  | [] => rfl
  | [_] => rfl
  | a :: b :: r => by
    have ih := zips_asc (b :: r)
    show (ltD a b && (zips (b :: r) ((b :: r).drop 1)).all _) = (ltD a b && ascL (b :: r))
    rw [ih]
theorem zips_mem : ∀ (xs ys : List PyData) (p : PyData), p ∈ zips xs ys → ∃ a b, p = .tuple [a, b] ∧ a ∈ xs ∧ b ∈ ys
  | [], _, _, h => by simp [zips] at h
  | _ :: _, [], _, h => by simp [zips] at h
  | a :: xs, b :: ys, p, h => by
    unfold zips at h
    rcases List.mem_cons.mp h with rfl | h
    · exact ⟨a, b, rfl, List.mem_cons_self, List.mem_cons_self⟩
    · obtain ⟨x, y, e, h1, h2⟩ := zips_mem xs ys p h
      exact ⟨x, y, e, List.mem_cons_of_mem _ h1, List.mem_cons_of_mem _ h2⟩
def Ords (xs : List PyData) : Prop := (∀ x ∈ xs, isI x) ∨ ∀ x ∈ xs, isT x
theorem ords_ints (ns : List Int) : Ords (ns.map .int) := .inl fun x hx => by
  obtain ⟨i, _, rfl⟩ := List.mem_map.mp hx
  exact ⟨i, rfl⟩
def sp_is_ascending (c : Ct) : Spec := fun ss Q _ => match ss with
  | [.d (.tuple xs)] => Ords xs ∧ Q (.d (.bool (ascL xs)))
  | _ => False
theorem at_is_ascending {c : Ct} {xs : List PyData} {Q : SV → Prop} {Ex : XP} : sp_is_ascending c [.d (.tuple xs)] Q Ex = (Ords xs ∧ Q (.d (.bool (ascL xs)))) := rfl
def t_is_ascending (c : Ct) : DS :=
  (sRet (dOne (oAll fun bs => bs.all id) (dLc (iZipD (dVar 0) (dSl (dVar 0) (doSome (dC (.d (.int 1)))) doNone)) (gT 2 (gsCons (gN 1) (gsCons (gN 2) gsNil))) bYes (dOp wLt (dVar 1) (dVar 2)) [1, 2])))
theorem wLt_lt {a b : PyData} {xs : List PyData} (h : Ords xs) (ha : a ∈ xs) (hb : b ∈ xs) {Q : SV → Prop} (q : Q (.d (.bool (ltD a b)))) : wLt (.d a) (.d b) Q := by
  rcases h with h | h
  · obtain ⟨i, rfl⟩ := h a ha
    obtain ⟨j, rfl⟩ := h b hb
    exact q
  · obtain ⟨ns, rfl⟩ := h a ha
    obtain ⟨ms, rfl⟩ := h b hb
    refine ⟨ns, ms, rfl, rfl, ?_⟩
    have e : ltD (.tuple (ns.map .int)) (.tuple (ms.map .int)) = HT.lexLt ns ms := by
      show HT.lexLt (intsOf (ns.map .int)) (intsOf (ms.map .int)) = _
      rw [intsOf_map, intsOf_map]
    rw [e] at q
    exact q
theorem rd_is_ascending (c : Ct) (ss : List SV) (Q : SV → Prop) (Ex : XP) (h : sp_is_ascending c ss Q Ex) : t_is_ascending c { nx := fun _ => Q (.d .none), rt := Q } (startD 3 ss) Ex := by
  unfold sp_is_ascending at h
  split at h
  · rename_i xs
    obtain ⟨ho, h⟩ := h
    show t_is_ascending c _ [some (.d (.tuple xs)), none, none] Ex
    simp only [t_is_ascending, sSeq, sNext, sExpr, sRet, sIf, sSet, sSetF, sAsg, sPar, sRaise, sFor, sApp, sExt, sPop, sItem, sAugI, sAug, sFrz, sMove, sBreak, sCont, gN, gT, gsNil, gsCons, dVar, vS_d, vS_own, vS_town, vS_v, vS_scr, fz_scr, dC, dOp, dCall, dCallK, daNil, daCons, dTup, dLst, dSl, doNone, doSome, dIf, dAnd, dOr, dNot, dNeg, dOne, dTwoI, dChain, dLc, bVal, bTru, bScr, dLenS, dIxS, dCount, dRest, sCount, sRest, bNot, bAnd, bOr, bYes, wInt2, wIntC, wAdd, wMul, wIx, wIn, wEqD, wIsN, oLen, oTuple, oList, oAll, oSum, oIsi, iSeq, iRng1D, iRng2D, iEnumD, iZipD, fz_d, fz_own, fz_town, fz_v, fz_abs, asDs, fzB, wipeD, asD_d, asD_own, asD_bor, asL_list, asL_tuple, asL_own, asL_bor, asL_int, asL_bool, asL_none, asS_list, asS_tuple, asS_own, asS_bor, tru_bool, tru_int, tru_none, tru_tuple, tru_list, tru_own, tru_bor, stO_d, stO_own, stO_town, stO_v, stO_abs, rtS_d, rtS_own, rtS_bor, rtS_v, rtS_abs, isN_none, isN_tuple, isN_int, isN_list, isN_bool, List.map_cons, List.map_nil, List.length_cons, List.length_nil, List.cons_append, List.nil_append, List.getElem?_cons_zero, List.getElem?_cons_succ, List.set_cons_zero, List.set_cons_succ, Option.map_some, Option.map_none, Option.some.injEq, SV.d.injEq, SV.own.injEq, PyData.int.injEq, PyData.bool.injEq, PyData.tuple.injEq, PyData.list.injEq, PyData.str.injEq, List.cons.injEq, exists_eq_left, exists_eq_left', exists_eq_right, exists_and_left, exists_and_right, exists_const, and_true, true_and, if_true, if_false, reduceCtorEq, false_or, or_false, false_and, and_false, Bool.not_true, Bool.not_false, Bool.false_eq_true, ite_true, ite_false, reduceIte, Bool.true_eq_false, Nat.reduceAdd, nc0, nc1, nc2, nc3, nc4, nc5, nc6, nc7, nc8, Int.reduceBEq, beq_self_eq_true, Bool.and_true, Bool.true_and, Bool.and_false, Bool.false_and, Nat.zero_add, cut_from1]
    refine lcR_map (fun p => .bool (match p with | .tuple [a, b] => ltD a b | _ => false)) _ (fun p hp k hk => ?_) (all_map _ ?_)
    · obtain ⟨a, b, rfl, ha, hb⟩ := zips_mem _ _ _ hp
      simp only [lcT, sSeq, sNext, sExpr, sRet, sIf, sSet, sSetF, sAsg, sPar, sRaise, sFor, sApp, sExt, sPop, sItem, sAugI, sAug, sFrz, sMove, sBreak, sCont, gN, gT, gsNil, gsCons, dVar, vS_d, vS_own, vS_town, vS_v, vS_scr, fz_scr, dC, dOp, dCall, dCallK, daNil, daCons, dTup, dLst, dSl, doNone, doSome, dIf, dAnd, dOr, dNot, dNeg, dOne, dTwoI, dChain, dLc, bVal, bTru, bScr, dLenS, dIxS, dCount, dRest, sCount, sRest, bNot, bAnd, bOr, bYes, wInt2, wIntC, wAdd, wMul, wIx, wIn, wEqD, wIsN, oLen, oTuple, oList, oAll, oSum, oIsi, iSeq, iRng1D, iRng2D, iEnumD, iZipD, fz_d, fz_own, fz_town, fz_v, fz_abs, asDs, fzB, wipeD, asD_d, asD_own, asD_bor, asL_list, asL_tuple, asL_own, asL_bor, asL_int, asL_bool, asL_none, asS_list, asS_tuple, asS_own, asS_bor, tru_bool, tru_int, tru_none, tru_tuple, tru_list, tru_own, tru_bor, stO_d, stO_own, stO_town, stO_v, stO_abs, rtS_d, rtS_own, rtS_bor, rtS_v, rtS_abs, isN_none, isN_tuple, isN_int, isN_list, isN_bool, List.map_cons, List.map_nil, List.length_cons, List.length_nil, List.cons_append, List.nil_append, List.getElem?_cons_zero, List.getElem?_cons_succ, List.set_cons_zero, List.set_cons_succ, Option.map_some, Option.map_none, Option.some.injEq, SV.d.injEq, SV.own.injEq, PyData.int.injEq, PyData.bool.injEq, PyData.tuple.injEq, PyData.list.injEq, PyData.str.injEq, List.cons.injEq, exists_eq_left, exists_eq_left', exists_eq_right, exists_and_left, exists_and_right, exists_const, and_true, true_and, if_true, if_false, reduceCtorEq, false_or, or_false, false_and, and_false, Bool.not_true, Bool.not_false, Bool.false_eq_true, ite_true, ite_false, reduceIte, Bool.true_eq_false, Nat.reduceAdd, nc0, nc1, nc2, nc3, nc4, nc5, nc6, nc7, nc8, Int.reduceBEq, beq_self_eq_true, Bool.and_true, Bool.true_and, Bool.and_false, Bool.false_and, Nat.zero_add]
      refine wLt_lt ho ha (List.mem_of_mem_drop hb) ?_
      exact ⟨_, rfl, hk⟩
    · rw [zips_asc]
      exact h
  · exact h.elim
/-! ### is_rule, is_protocol -/
def isRule (many : Int) : PyData → Bool
  | .tuple [s, t, n, bars, eff] => areBetween (.tuple [s, t, n]) 0 (many - 1) && (areBetween bars 1 (many - 1) && (match bars with | .tuple bs => ascL bs && !(bs.any fun z => PyData.eqv z n) | _ => false)) &&
      (areBetween eff 0 (many - 1) && (match eff with | .tuple es => decide ((es.length : Int) = many) && (match es with | e :: _ => PyData.eqv e (.int 0) | [] => false) | _ => false))
  | _ => false
def sp_is_rule (c : Ct) : Spec := fun ss Q _ => match ss with
  | [.d (.int many), .d v] => 2 ≤ many ∧ Q (.d (.bool (isRule many v)))
  | _ => False
theorem at_is_rule {c : Ct} {v : PyData} {many : Int} {Q : SV → Prop} {Ex : XP} : sp_is_rule c [.d (.int many), .d v] Q Ex = (2 ≤ many ∧ Q (.d (.bool (isRule many v)))) := rfl
def t_is_rule (c : Ct) : DS :=
  (sSeq (sIf (bOr (bNot (bTru (dOne (oIsi "tuple") (dVar 1)))) (bOr (bVal (dOp (wEqD fun b => !b) (dOne oLen (dVar 1)) (dC (.d (.int 5))))) (bNot (bTru (dCall (sp_are_between c) (daCons (dSl (dVar 1) doNone (doSome (dC (.d (.int 3))))) (daCons (dC (.d (.int 0))) (daCons (dOp (wInt2 fun i j => .int (i - j)) (dVar 0) (dC (.d (.int 1)))) daNil)))))))) (sRet (dC (.d (.bool false)))) sNext)
  (sSeq (sAsg (dVar 1) (gT 5 (gsCons (gN 2) (gsCons (gN 3) (gsCons (gN 4) (gsCons (gN 5) (gsCons (gN 6) gsNil)))))))
  (sSeq (sIf (bOr (bNot (bTru (dCall (sp_are_between c) (daCons (dVar 5) (daCons (dC (.d (.int 1))) (daCons (dOp (wInt2 fun i j => .int (i - j)) (dVar 0) (dC (.d (.int 1)))) daNil)))))) (bOr (bNot (bTru (dCall (sp_is_ascending c) (daCons (dVar 5) daNil)))) (bVal (dOp (wIn fun b => b) (dVar 4) (dVar 5))))) (sRet (dC (.d (.bool false)))) sNext)
  (sRet (dAnd (dCall (sp_are_between c) (daCons (dVar 6) (daCons (dC (.d (.int 0))) (daCons (dOp (wInt2 fun i j => .int (i - j)) (dVar 0) (dC (.d (.int 1)))) daNil)))) (dAnd (dOp (wEqD fun b => b) (dOne oLen (dVar 6)) (dVar 0)) (dOp (wEqD fun b => b) (dOp wIx (dVar 6) (dC (.d (.int 0)))) (dC (.d (.int 0))))))))))
theorem btw_int {x : PyData} {lo hi : Int} (h : isBetween x lo hi = true) : ∃ i, x = .int i ∧ lo ≤ i ∧ i ≤ hi := by
  cases x with
  | int i =>
    simp [isBetween] at h
    exact ⟨i, rfl, h⟩
  | none => simp [isBetween] at h
  | bool _ => simp [isBetween] at h
  | str _ => simp [isBetween] at h
  | list _ => simp [isBetween] at h
  | tuple _ => simp [isBetween] at h
  | dict _ => simp [isBetween] at h
theorem btw_ints {lo hi : Int} : ∀ {xs : List PyData}, (xs.all fun x => isBetween x lo hi) = true → ∃ ns : List Int, xs = ns.map .int ∧ ∀ n ∈ ns, lo ≤ n ∧ n ≤ hi
  | [], _ => ⟨[], rfl, fun _ z => nomatch z⟩
  | x :: xs, h => by
    rw [List.all_cons, Bool.and_eq_true] at h
    obtain ⟨i, rfl, h1⟩ := btw_int h.1
    obtain ⟨ns, rfl, h2⟩ := btw_ints h.2
    refine ⟨i :: ns, rfl, fun n hn => ?_⟩
    rcases List.mem_cons.mp hn with rfl | hn
    · exact h1
    · exact h2 n hn
theorem are_ints {x : PyData} {lo hi : Int} (h : areBetween x lo hi = true) : ∃ ns : List Int, x = .tuple (ns.map .int) ∧ ∀ n ∈ ns, lo ≤ n ∧ n ≤ hi := by
  cases x with
  | tuple xs =>
    obtain ⟨ns, rfl, h2⟩ := btw_ints h
    exact ⟨ns, rfl, h2⟩
  | none => cases h
  | bool _ => cases h
  | int _ => cases h
  | str _ => cases h
  | list _ => cases h
  | dict _ => cases h
theorem rd_is_rule (c : Ct) (ss : List SV) (Q : SV → Prop) (Ex : XP) (h : sp_is_rule c ss Q Ex) : t_is_rule c { nx := fun _ => Q (.d .none), rt := Q } (startD 7 ss) Ex := by
  unfold sp_is_rule at h
  split at h
  · rename_i many v
    obtain ⟨hm, h⟩ := h
    show t_is_rule c _ [some (.d (.int many)), some (.d v), none, none, none, none, none] Ex
    cases v with
    | tuple xs =>
      by_cases hl : xs.length = 5
      · obtain ⟨s, t, n, bars, eff, rfl⟩ : ∃ s t n bars eff, xs = [s, t, n, bars, eff] := by
          match xs, hl with
          | [s, t, n, bars, eff], _ => exact ⟨s, t, n, bars, eff, rfl⟩
        simp only [t_is_rule, sSeq, sNext, sExpr, sRet, sIf, sSet, sSetF, sAsg, sPar, sRaise, sFor, sApp, sExt, sPop, sItem, sAugI, sAug, sFrz, sMove, sBreak, sCont, gN, gT, gsNil, gsCons, dVar, vS_d, vS_own, vS_town, vS_v, vS_scr, fz_scr, dC, dOp, dCall, dCallK, daNil, daCons, dTup, dLst, dSl, doNone, doSome, dIf, dAnd, dOr, dNot, dNeg, dOne, dTwoI, dChain, dLc, bVal, bTru, bScr, dLenS, dIxS, dCount, dRest, sCount, sRest, bNot, bAnd, bOr, bYes, wInt2, wIntC, wAdd, wMul, wIx, wIn, wEqD, wIsN, oLen, oTuple, oList, oAll, oSum, oIsi, iSeq, iRng1D, iRng2D, iEnumD, iZipD, fz_d, fz_own, fz_town, fz_v, fz_abs, asDs, fzB, wipeD, asD_d, asD_own, asD_bor, asL_list, asL_tuple, asL_own, asL_bor, asL_int, asL_bool, asL_none, asS_list, asS_tuple, asS_own, asS_bor, tru_bool, tru_int, tru_none, tru_tuple, tru_list, tru_own, tru_bor, stO_d, stO_own, stO_town, stO_v, stO_abs, rtS_d, rtS_own, rtS_bor, rtS_v, rtS_abs, isN_none, isN_tuple, isN_int, isN_list, isN_bool, List.map_cons, List.map_nil, List.length_cons, List.length_nil, List.cons_append, List.nil_append, List.getElem?_cons_zero, List.getElem?_cons_succ, List.set_cons_zero, List.set_cons_succ, Option.map_some, Option.map_none, Option.some.injEq, SV.d.injEq, SV.own.injEq, PyData.int.injEq, PyData.bool.injEq, PyData.tuple.injEq, PyData.list.injEq, PyData.str.injEq, List.cons.injEq, exists_eq_left, exists_eq_left', exists_eq_right, exists_and_left, exists_and_right, exists_const, and_true, true_and, if_true, if_false, reduceCtorEq, false_or, or_false, false_and, and_false, Bool.not_true, Bool.not_false, Bool.false_eq_true, ite_true, ite_false, reduceIte, Bool.true_eq_false, Nat.reduceAdd, nc0, nc1, nc2, nc3, nc4, nc5, nc6, nc7, nc8, Int.reduceBEq, beq_self_eq_true, Bool.and_true, Bool.true_and, Bool.and_false, Bool.false_and, Nat.zero_add, isi_tuple, sh_int, eqv_int, cut_to3, List.take, at_are_between]
        unfold isRule at h
        rcases bcase (areBetween (.tuple [s, t, n]) 0 (many - 1)) with h1 | h1
        · simp only [h1, List.map_cons, List.map_nil, List.length_cons, List.length_nil, List.cons_append, List.nil_append, List.getElem?_cons_zero, List.getElem?_cons_succ, List.set_cons_zero, List.set_cons_succ, Option.map_some, Option.map_none, Option.some.injEq, SV.d.injEq, SV.own.injEq, PyData.int.injEq, PyData.bool.injEq, PyData.tuple.injEq, PyData.list.injEq, PyData.str.injEq, List.cons.injEq, exists_eq_left, exists_eq_left', exists_eq_right, exists_and_left, exists_and_right, exists_const, and_true, true_and, if_true, if_false, reduceCtorEq, false_or, or_false, false_and, and_false, Bool.not_true, Bool.not_false, Bool.false_eq_true, ite_true, ite_false, reduceIte, Bool.true_eq_false, Nat.reduceAdd, nc0, nc1, nc2, nc3, nc4, nc5, nc6, nc7, nc8, Int.reduceBEq, beq_self_eq_true, Bool.and_true, Bool.true_and, Bool.and_false, Bool.false_and, Nat.zero_add] at h ⊢
          exact h
        ·
          cases h2 : areBetween bars 1 (many - 1) with
          | false =>
            simp only [h1, h2, List.map_cons, List.map_nil, List.length_cons, List.length_nil, List.cons_append, List.nil_append, List.getElem?_cons_zero, List.getElem?_cons_succ, List.set_cons_zero, List.set_cons_succ, Option.map_some, Option.map_none, Option.some.injEq, SV.d.injEq, SV.own.injEq, PyData.int.injEq, PyData.bool.injEq, PyData.tuple.injEq, PyData.list.injEq, PyData.str.injEq, List.cons.injEq, exists_eq_left, exists_eq_left', exists_eq_right, exists_and_left, exists_and_right, exists_const, and_true, true_and, if_true, if_false, reduceCtorEq, false_or, or_false, false_and, and_false, Bool.not_true, Bool.not_false, Bool.false_eq_true, ite_true, ite_false, reduceIte, Bool.true_eq_false, Nat.reduceAdd, nc0, nc1, nc2, nc3, nc4, nc5, nc6, nc7, nc8, Int.reduceBEq, beq_self_eq_true, Bool.and_true, Bool.true_and, Bool.and_false, Bool.false_and, Nat.zero_add] at h ⊢
            exact h
          | true =>
            obtain ⟨bs, rfl, hb⟩ := are_ints h2
            obtain ⟨ks, ek, hk⟩ := are_ints h1
            have en : ∃ i, n = .int i := by
              match ks, ek with
              | [_, _, k], e =>
                simp at e
                exact ⟨k, e.2.2⟩
            obtain ⟨i, rfl⟩ := en
            simp only [h1, h2, List.map_cons, List.map_nil, List.length_cons, List.length_nil, List.cons_append, List.nil_append, List.getElem?_cons_zero, List.getElem?_cons_succ, List.set_cons_zero, List.set_cons_succ, Option.map_some, Option.map_none, Option.some.injEq, SV.d.injEq, SV.own.injEq, PyData.int.injEq, PyData.bool.injEq, PyData.tuple.injEq, PyData.list.injEq, PyData.str.injEq, List.cons.injEq, exists_eq_left, exists_eq_left', exists_eq_right, exists_and_left, exists_and_right, exists_const, and_true, true_and, if_true, if_false, reduceCtorEq, false_or, or_false, false_and, and_false, Bool.not_true, Bool.not_false, Bool.false_eq_true, ite_true, ite_false, reduceIte, Bool.true_eq_false, Nat.reduceAdd, nc0, nc1, nc2, nc3, nc4, nc5, nc6, nc7, nc8, Int.reduceBEq, beq_self_eq_true, Bool.and_true, Bool.true_and, Bool.and_false, Bool.false_and, Nat.zero_add, at_is_ascending, sSeq, sNext, sExpr, sRet, sIf, sSet, sSetF, sAsg, sPar, sRaise, sFor, sApp, sExt, sPop, sItem, sAugI, sAug, sFrz, sMove, sBreak, sCont, gN, gT, gsNil, gsCons, dVar, vS_d, vS_own, vS_town, vS_v, vS_scr, fz_scr, dC, dOp, dCall, dCallK, daNil, daCons, dTup, dLst, dSl, doNone, doSome, dIf, dAnd, dOr, dNot, dNeg, dOne, dTwoI, dChain, dLc, bVal, bTru, bScr, dLenS, dIxS, dCount, dRest, sCount, sRest, bNot, bAnd, bOr, bYes, wInt2, wIntC, wAdd, wMul, wIx, wIn, wEqD, wIsN, oLen, oTuple, oList, oAll, oSum, oIsi, iSeq, iRng1D, iRng2D, iEnumD, iZipD, fz_d, fz_own, fz_town, fz_v, fz_abs, asDs, fzB, wipeD, asD_d, asD_own, asD_bor, asL_list, asL_tuple, asL_own, asL_bor, asL_int, asL_bool, asL_none, asS_list, asS_tuple, asS_own, asS_bor, tru_bool, tru_int, tru_none, tru_tuple, tru_list, tru_own, tru_bor, stO_d, stO_own, stO_town, stO_v, stO_abs, rtS_d, rtS_own, rtS_bor, rtS_v, rtS_abs, isN_none, isN_tuple, isN_int, isN_list, isN_bool, ords_ints, sh_int, lay_ints] at h ⊢
            cases h3 : ascL (bs.map .int) with
            | false =>
              simp only [h3, List.map_cons, List.map_nil, List.length_cons, List.length_nil, List.cons_append, List.nil_append, List.getElem?_cons_zero, List.getElem?_cons_succ, List.set_cons_zero, List.set_cons_succ, Option.map_some, Option.map_none, Option.some.injEq, SV.d.injEq, SV.own.injEq, PyData.int.injEq, PyData.bool.injEq, PyData.tuple.injEq, PyData.list.injEq, PyData.str.injEq, List.cons.injEq, exists_eq_left, exists_eq_left', exists_eq_right, exists_and_left, exists_and_right, exists_const, and_true, true_and, if_true, if_false, reduceCtorEq, false_or, or_false, false_and, and_false, Bool.not_true, Bool.not_false, Bool.false_eq_true, ite_true, ite_false, reduceIte, Bool.true_eq_false, Nat.reduceAdd, nc0, nc1, nc2, nc3, nc4, nc5, nc6, nc7, nc8, Int.reduceBEq, beq_self_eq_true, Bool.and_true, Bool.true_and, Bool.and_false, Bool.false_and, Nat.zero_add] at h ⊢
              exact h
            | true =>
              cases h4 : (List.map PyData.int bs).any fun z => z.eqv (PyData.int i) with
              | true =>
                simp only [h3, h4, List.map_cons, List.map_nil, List.length_cons, List.length_nil, List.cons_append, List.nil_append, List.getElem?_cons_zero, List.getElem?_cons_succ, List.set_cons_zero, List.set_cons_succ, Option.map_some, Option.map_none, Option.some.injEq, SV.d.injEq, SV.own.injEq, PyData.int.injEq, PyData.bool.injEq, PyData.tuple.injEq, PyData.list.injEq, PyData.str.injEq, List.cons.injEq, exists_eq_left, exists_eq_left', exists_eq_right, exists_and_left, exists_and_right, exists_const, and_true, true_and, if_true, if_false, reduceCtorEq, false_or, or_false, false_and, and_false, Bool.not_true, Bool.not_false, Bool.false_eq_true, ite_true, ite_false, reduceIte, Bool.true_eq_false, Nat.reduceAdd, nc0, nc1, nc2, nc3, nc4, nc5, nc6, nc7, nc8, Int.reduceBEq, beq_self_eq_true, Bool.and_true, Bool.true_and, Bool.and_false, Bool.false_and, Nat.zero_add] at h ⊢
                exact h
              | false =>
                simp only [h3, h4, List.map_cons, List.map_nil, List.length_cons, List.length_nil, List.cons_append, List.nil_append, List.getElem?_cons_zero, List.getElem?_cons_succ, List.set_cons_zero, List.set_cons_succ, Option.map_some, Option.map_none, Option.some.injEq, SV.d.injEq, SV.own.injEq, PyData.int.injEq, PyData.bool.injEq, PyData.tuple.injEq, PyData.list.injEq, PyData.str.injEq, List.cons.injEq, exists_eq_left, exists_eq_left', exists_eq_right, exists_and_left, exists_and_right, exists_const, and_true, true_and, if_true, if_false, reduceCtorEq, false_or, or_false, false_and, and_false, Bool.not_true, Bool.not_false, Bool.false_eq_true, ite_true, ite_false, reduceIte, Bool.true_eq_false, Nat.reduceAdd, nc0, nc1, nc2, nc3, nc4, nc5, nc6, nc7, nc8, Int.reduceBEq, beq_self_eq_true, Bool.and_true, Bool.true_and, Bool.and_false, Bool.false_and, Nat.zero_add] at h ⊢
                cases h5 : areBetween eff 0 (many - 1) with
                | false =>
                  simp only [h5, List.map_cons, List.map_nil, List.length_cons, List.length_nil, List.cons_append, List.nil_append, List.getElem?_cons_zero, List.getElem?_cons_succ, List.set_cons_zero, List.set_cons_succ, Option.map_some, Option.map_none, Option.some.injEq, SV.d.injEq, SV.own.injEq, PyData.int.injEq, PyData.bool.injEq, PyData.tuple.injEq, PyData.list.injEq, PyData.str.injEq, List.cons.injEq, exists_eq_left, exists_eq_left', exists_eq_right, exists_and_left, exists_and_right, exists_const, and_true, true_and, if_true, if_false, reduceCtorEq, false_or, or_false, false_and, and_false, Bool.not_true, Bool.not_false, Bool.false_eq_true, ite_true, ite_false, reduceIte, Bool.true_eq_false, Nat.reduceAdd, nc0, nc1, nc2, nc3, nc4, nc5, nc6, nc7, nc8, Int.reduceBEq, beq_self_eq_true, Bool.and_true, Bool.true_and, Bool.and_false, Bool.false_and, Nat.zero_add] at h ⊢
                  exact h
                | true =>
                  obtain ⟨es, rfl, he⟩ := are_ints h5
                  simp only [h5, List.map_cons, List.map_nil, List.length_cons, List.length_nil, List.cons_append, List.nil_append, List.getElem?_cons_zero, List.getElem?_cons_succ, List.set_cons_zero, List.set_cons_succ, Option.map_some, Option.map_none, Option.some.injEq, SV.d.injEq, SV.own.injEq, PyData.int.injEq, PyData.bool.injEq, PyData.tuple.injEq, PyData.list.injEq, PyData.str.injEq, List.cons.injEq, exists_eq_left, exists_eq_left', exists_eq_right, exists_and_left, exists_and_right, exists_const, and_true, true_and, if_true, if_false, reduceCtorEq, false_or, or_false, false_and, and_false, Bool.not_true, Bool.not_false, Bool.false_eq_true, ite_true, ite_false, reduceIte, Bool.true_eq_false, Nat.reduceAdd, nc0, nc1, nc2, nc3, nc4, nc5, nc6, nc7, nc8, Int.reduceBEq, beq_self_eq_true, Bool.and_true, Bool.true_and, Bool.and_false, Bool.false_and, Nat.zero_add, sSeq, sNext, sExpr, sRet, sIf, sSet, sSetF, sAsg, sPar, sRaise, sFor, sApp, sExt, sPop, sItem, sAugI, sAug, sFrz, sMove, sBreak, sCont, gN, gT, gsNil, gsCons, dVar, vS_d, vS_own, vS_town, vS_v, vS_scr, fz_scr, dC, dOp, dCall, dCallK, daNil, daCons, dTup, dLst, dSl, doNone, doSome, dIf, dAnd, dOr, dNot, dNeg, dOne, dTwoI, dChain, dLc, bVal, bTru, bScr, dLenS, dIxS, dCount, dRest, sCount, sRest, bNot, bAnd, bOr, bYes, wInt2, wIntC, wAdd, wMul, wIx, wIn, wEqD, wIsN, oLen, oTuple, oList, oAll, oSum, oIsi, iSeq, iRng1D, iRng2D, iEnumD, iZipD, fz_d, fz_own, fz_town, fz_v, fz_abs, asDs, fzB, wipeD, asD_d, asD_own, asD_bor, asL_list, asL_tuple, asL_own, asL_bor, asL_int, asL_bool, asL_none, asS_list, asS_tuple, asS_own, asS_bor, tru_bool, tru_int, tru_none, tru_tuple, tru_list, tru_own, tru_bor, stO_d, stO_own, stO_town, stO_v, stO_abs, rtS_d, rtS_own, rtS_bor, rtS_v, rtS_abs, isN_none, isN_tuple, isN_int, isN_list, isN_bool] at h ⊢
                  by_cases h6 : ((es.length : Nat) : Int) = many
                  · cases es with
                    | nil =>
                      simp at h6
                      omega
                    | cons e0 er =>
                      have h6' : ((er.length + 1 : Nat) : Int) = many := h6
                      simp only [List.map_cons, List.map_nil, List.length_cons, List.length_nil, List.cons_append, List.nil_append, List.getElem?_cons_zero, List.getElem?_cons_succ, List.set_cons_zero, List.set_cons_succ, Option.map_some, Option.map_none, Option.some.injEq, SV.d.injEq, SV.own.injEq, PyData.int.injEq, PyData.bool.injEq, PyData.tuple.injEq, PyData.list.injEq, PyData.str.injEq, List.cons.injEq, exists_eq_left, exists_eq_left', exists_eq_right, exists_and_left, exists_and_right, exists_const, and_true, true_and, if_true, if_false, reduceCtorEq, false_or, or_false, false_and, and_false, Bool.not_true, Bool.not_false, Bool.false_eq_true, ite_true, ite_false, reduceIte, Bool.true_eq_false, Nat.reduceAdd, nc0, nc1, nc2, nc3, nc4, nc5, nc6, nc7, nc8, Int.reduceBEq, beq_self_eq_true, Bool.and_true, Bool.true_and, Bool.and_false, Bool.false_and, Nat.zero_add, List.length_map, h6', h6, decide_true, atI_0, sh_int] at h ⊢
                      exact h
                  · have h7 : (((es.length : Nat) : Int) == many) = false := beq_eq_false_iff_ne.mpr h6
                    simp only [List.map_cons, List.map_nil, List.length_cons, List.length_nil, List.cons_append, List.nil_append, List.getElem?_cons_zero, List.getElem?_cons_succ, List.set_cons_zero, List.set_cons_succ, Option.map_some, Option.map_none, Option.some.injEq, SV.d.injEq, SV.own.injEq, PyData.int.injEq, PyData.bool.injEq, PyData.tuple.injEq, PyData.list.injEq, PyData.str.injEq, List.cons.injEq, exists_eq_left, exists_eq_left', exists_eq_right, exists_and_left, exists_and_right, exists_const, and_true, true_and, if_true, if_false, reduceCtorEq, false_or, or_false, false_and, and_false, Bool.not_true, Bool.not_false, Bool.false_eq_true, ite_true, ite_false, reduceIte, Bool.true_eq_false, Nat.reduceAdd, nc0, nc1, nc2, nc3, nc4, nc5, nc6, nc7, nc8, Int.reduceBEq, beq_self_eq_true, Bool.and_true, Bool.true_and, Bool.and_false, Bool.false_and, Nat.zero_add, List.length_map, h7, h6, decide_false] at h ⊢
                    exact h
      · have hf : isRule many (.tuple xs) = false := by
          unfold isRule
          split
          · rename_i s t n bars eff
            cases ‹_ = _›
            exact absurd rfl hl
          · rfl
        have h7 : (((xs.length : Nat) : Int) == 5) = false := beq_eq_false_iff_ne.mpr (by omega)
        rw [hf] at h
        simp only [t_is_rule, sSeq, sNext, sExpr, sRet, sIf, sSet, sSetF, sAsg, sPar, sRaise, sFor, sApp, sExt, sPop, sItem, sAugI, sAug, sFrz, sMove, sBreak, sCont, gN, gT, gsNil, gsCons, dVar, vS_d, vS_own, vS_town, vS_v, vS_scr, fz_scr, dC, dOp, dCall, dCallK, daNil, daCons, dTup, dLst, dSl, doNone, doSome, dIf, dAnd, dOr, dNot, dNeg, dOne, dTwoI, dChain, dLc, bVal, bTru, bScr, dLenS, dIxS, dCount, dRest, sCount, sRest, bNot, bAnd, bOr, bYes, wInt2, wIntC, wAdd, wMul, wIx, wIn, wEqD, wIsN, oLen, oTuple, oList, oAll, oSum, oIsi, iSeq, iRng1D, iRng2D, iEnumD, iZipD, fz_d, fz_own, fz_town, fz_v, fz_abs, asDs, fzB, wipeD, asD_d, asD_own, asD_bor, asL_list, asL_tuple, asL_own, asL_bor, asL_int, asL_bool, asL_none, asS_list, asS_tuple, asS_own, asS_bor, tru_bool, tru_int, tru_none, tru_tuple, tru_list, tru_own, tru_bor, stO_d, stO_own, stO_town, stO_v, stO_abs, rtS_d, rtS_own, rtS_bor, rtS_v, rtS_abs, isN_none, isN_tuple, isN_int, isN_list, isN_bool, List.map_cons, List.map_nil, List.length_cons, List.length_nil, List.cons_append, List.nil_append, List.getElem?_cons_zero, List.getElem?_cons_succ, List.set_cons_zero, List.set_cons_succ, Option.map_some, Option.map_none, Option.some.injEq, SV.d.injEq, SV.own.injEq, PyData.int.injEq, PyData.bool.injEq, PyData.tuple.injEq, PyData.list.injEq, PyData.str.injEq, List.cons.injEq, exists_eq_left, exists_eq_left', exists_eq_right, exists_and_left, exists_and_right, exists_const, and_true, true_and, if_true, if_false, reduceCtorEq, false_or, or_false, false_and, and_false, Bool.not_true, Bool.not_false, Bool.false_eq_true, ite_true, ite_false, reduceIte, Bool.true_eq_false, Nat.reduceAdd, nc0, nc1, nc2, nc3, nc4, nc5, nc6, nc7, nc8, Int.reduceBEq, beq_self_eq_true, Bool.and_true, Bool.true_and, Bool.and_false, Bool.false_and, Nat.zero_add, isi_tuple, sh_int, eqv_int, h7]
        exact h
    | none => simp only [t_is_rule, sSeq, sNext, sExpr, sRet, sIf, sSet, sSetF, sAsg, sPar, sRaise, sFor, sApp, sExt, sPop, sItem, sAugI, sAug, sFrz, sMove, sBreak, sCont, gN, gT, gsNil, gsCons, dVar, vS_d, vS_own, vS_town, vS_v, vS_scr, fz_scr, dC, dOp, dCall, dCallK, daNil, daCons, dTup, dLst, dSl, doNone, doSome, dIf, dAnd, dOr, dNot, dNeg, dOne, dTwoI, dChain, dLc, bVal, bTru, bScr, dLenS, dIxS, dCount, dRest, sCount, sRest, bNot, bAnd, bOr, bYes, wInt2, wIntC, wAdd, wMul, wIx, wIn, wEqD, wIsN, oLen, oTuple, oList, oAll, oSum, oIsi, iSeq, iRng1D, iRng2D, iEnumD, iZipD, fz_d, fz_own, fz_town, fz_v, fz_abs, asDs, fzB, wipeD, asD_d, asD_own, asD_bor, asL_list, asL_tuple, asL_own, asL_bor, asL_int, asL_bool, asL_none, asS_list, asS_tuple, asS_own, asS_bor, tru_bool, tru_int, tru_none, tru_tuple, tru_list, tru_own, tru_bor, stO_d, stO_own, stO_town, stO_v, stO_abs, rtS_d, rtS_own, rtS_bor, rtS_v, rtS_abs, isN_none, isN_tuple, isN_int, isN_list, isN_bool, List.map_cons, List.map_nil, List.length_cons, List.length_nil, List.cons_append, List.nil_append, List.getElem?_cons_zero, List.getElem?_cons_succ, List.set_cons_zero, List.set_cons_succ, Option.map_some, Option.map_none, Option.some.injEq, SV.d.injEq, SV.own.injEq, PyData.int.injEq, PyData.bool.injEq, PyData.tuple.injEq, PyData.list.injEq, PyData.str.injEq, List.cons.injEq, exists_eq_left, exists_eq_left', exists_eq_right, exists_and_left, exists_and_right, exists_const, and_true, true_and, if_true, if_false, reduceCtorEq, false_or, or_false, false_and, and_false, Bool.not_true, Bool.not_false, Bool.false_eq_true, ite_true, ite_false, reduceIte, Bool.true_eq_false, Nat.reduceAdd, nc0, nc1, nc2, nc3, nc4, nc5, nc6, nc7, nc8, Int.reduceBEq, beq_self_eq_true, Bool.and_true, Bool.true_and, Bool.and_false, Bool.false_and, Nat.zero_add, isi_tuple]; exact h
    | bool _ => simp only [t_is_rule, sSeq, sNext, sExpr, sRet, sIf, sSet, sSetF, sAsg, sPar, sRaise, sFor, sApp, sExt, sPop, sItem, sAugI, sAug, sFrz, sMove, sBreak, sCont, gN, gT, gsNil, gsCons, dVar, vS_d, vS_own, vS_town, vS_v, vS_scr, fz_scr, dC, dOp, dCall, dCallK, daNil, daCons, dTup, dLst, dSl, doNone, doSome, dIf, dAnd, dOr, dNot, dNeg, dOne, dTwoI, dChain, dLc, bVal, bTru, bScr, dLenS, dIxS, dCount, dRest, sCount, sRest, bNot, bAnd, bOr, bYes, wInt2, wIntC, wAdd, wMul, wIx, wIn, wEqD, wIsN, oLen, oTuple, oList, oAll, oSum, oIsi, iSeq, iRng1D, iRng2D, iEnumD, iZipD, fz_d, fz_own, fz_town, fz_v, fz_abs, asDs, fzB, wipeD, asD_d, asD_own, asD_bor, asL_list, asL_tuple, asL_own, asL_bor, asL_int, asL_bool, asL_none, asS_list, asS_tuple, asS_own, asS_bor, tru_bool, tru_int, tru_none, tru_tuple, tru_list, tru_own, tru_bor, stO_d, stO_own, stO_town, stO_v, stO_abs, rtS_d, rtS_own, rtS_bor, rtS_v, rtS_abs, isN_none, isN_tuple, isN_int, isN_list, isN_bool, List.map_cons, List.map_nil, List.length_cons, List.length_nil, List.cons_append, List.nil_append, List.getElem?_cons_zero, List.getElem?_cons_succ, List.set_cons_zero, List.set_cons_succ, Option.map_some, Option.map_none, Option.some.injEq, SV.d.injEq, SV.own.injEq, PyData.int.injEq, PyData.bool.injEq, PyData.tuple.injEq, PyData.list.injEq, PyData.str.injEq, List.cons.injEq, exists_eq_left, exists_eq_left', exists_eq_right, exists_and_left, exists_and_right, exists_const, and_true, true_and, if_true, if_false, reduceCtorEq, false_or, or_false, false_and, and_false, Bool.not_true, Bool.not_false, Bool.false_eq_true, ite_true, ite_false, reduceIte, Bool.true_eq_false, Nat.reduceAdd, nc0, nc1, nc2, nc3, nc4, nc5, nc6, nc7, nc8, Int.reduceBEq, beq_self_eq_true, Bool.and_true, Bool.true_and, Bool.and_false, Bool.false_and, Nat.zero_add, isi_tuple]; exact h
    | int _ => simp only [t_is_rule, sSeq, sNext, sExpr, sRet, sIf, sSet, sSetF, sAsg, sPar, sRaise, sFor, sApp, sExt, sPop, sItem, sAugI, sAug, sFrz, sMove, sBreak, sCont, gN, gT, gsNil, gsCons, dVar, vS_d, vS_own, vS_town, vS_v, vS_scr, fz_scr, dC, dOp, dCall, dCallK, daNil, daCons, dTup, dLst, dSl, doNone, doSome, dIf, dAnd, dOr, dNot, dNeg, dOne, dTwoI, dChain, dLc, bVal, bTru, bScr, dLenS, dIxS, dCount, dRest, sCount, sRest, bNot, bAnd, bOr, bYes, wInt2, wIntC, wAdd, wMul, wIx, wIn, wEqD, wIsN, oLen, oTuple, oList, oAll, oSum, oIsi, iSeq, iRng1D, iRng2D, iEnumD, iZipD, fz_d, fz_own, fz_town, fz_v, fz_abs, asDs, fzB, wipeD, asD_d, asD_own, asD_bor, asL_list, asL_tuple, asL_own, asL_bor, asL_int, asL_bool, asL_none, asS_list, asS_tuple, asS_own, asS_bor, tru_bool, tru_int, tru_none, tru_tuple, tru_list, tru_own, tru_bor, stO_d, stO_own, stO_town, stO_v, stO_abs, rtS_d, rtS_own, rtS_bor, rtS_v, rtS_abs, isN_none, isN_tuple, isN_int, isN_list, isN_bool, List.map_cons, List.map_nil, List.length_cons, List.length_nil, List.cons_append, List.nil_append, List.getElem?_cons_zero, List.getElem?_cons_succ, List.set_cons_zero, List.set_cons_succ, Option.map_some, Option.map_none, Option.some.injEq, SV.d.injEq, SV.own.injEq, PyData.int.injEq, PyData.bool.injEq, PyData.tuple.injEq, PyData.list.injEq, PyData.str.injEq, List.cons.injEq, exists_eq_left, exists_eq_left', exists_eq_right, exists_and_left, exists_and_right, exists_const, and_true, true_and, if_true, if_false, reduceCtorEq, false_or, or_false, false_and, and_false, Bool.not_true, Bool.not_false, Bool.false_eq_true, ite_true, ite_false, reduceIte, Bool.true_eq_false, Nat.reduceAdd, nc0, nc1, nc2, nc3, nc4, nc5, nc6, nc7, nc8, Int.reduceBEq, beq_self_eq_true, Bool.and_true, Bool.true_and, Bool.and_false, Bool.false_and, Nat.zero_add, isi_tuple]; exact h
    | str _ => simp only [t_is_rule, sSeq, sNext, sExpr, sRet, sIf, sSet, sSetF, sAsg, sPar, sRaise, sFor, sApp, sExt, sPop, sItem, sAugI, sAug, sFrz, sMove, sBreak, sCont, gN, gT, gsNil, gsCons, dVar, vS_d, vS_own, vS_town, vS_v, vS_scr, fz_scr, dC, dOp, dCall, dCallK, daNil, daCons, dTup, dLst, dSl, doNone, doSome, dIf, dAnd, dOr, dNot, dNeg, dOne, dTwoI, dChain, dLc, bVal, bTru, bScr, dLenS, dIxS, dCount, dRest, sCount, sRest, bNot, bAnd, bOr, bYes, wInt2, wIntC, wAdd, wMul, wIx, wIn, wEqD, wIsN, oLen, oTuple, oList, oAll, oSum, oIsi, iSeq, iRng1D, iRng2D, iEnumD, iZipD, fz_d, fz_own, fz_town, fz_v, fz_abs, asDs, fzB, wipeD, asD_d, asD_own, asD_bor, asL_list, asL_tuple, asL_own, asL_bor, asL_int, asL_bool, asL_none, asS_list, asS_tuple, asS_own, asS_bor, tru_bool, tru_int, tru_none, tru_tuple, tru_list, tru_own, tru_bor, stO_d, stO_own, stO_town, stO_v, stO_abs, rtS_d, rtS_own, rtS_bor, rtS_v, rtS_abs, isN_none, isN_tuple, isN_int, isN_list, isN_bool, List.map_cons, List.map_nil, List.length_cons, List.length_nil, List.cons_append, List.nil_append, List.getElem?_cons_zero, List.getElem?_cons_succ, List.set_cons_zero, List.set_cons_succ, Option.map_some, Option.map_none, Option.some.injEq, SV.d.injEq, SV.own.injEq, PyData.int.injEq, PyData.bool.injEq, PyData.tuple.injEq, PyData.list.injEq, PyData.str.injEq, List.cons.injEq, exists_eq_left, exists_eq_left', exists_eq_right, exists_and_left, exists_and_right, exists_const, and_true, true_and, if_true, if_false, reduceCtorEq, false_or, or_false, false_and, and_false, Bool.not_true, Bool.not_false, Bool.false_eq_true, ite_true, ite_false, reduceIte, Bool.true_eq_false, Nat.reduceAdd, nc0, nc1, nc2, nc3, nc4, nc5, nc6, nc7, nc8, Int.reduceBEq, beq_self_eq_true, Bool.and_true, Bool.true_and, Bool.and_false, Bool.false_and, Nat.zero_add, isi_tuple]; exact h
    | list _ => simp only [t_is_rule, sSeq, sNext, sExpr, sRet, sIf, sSet, sSetF, sAsg, sPar, sRaise, sFor, sApp, sExt, sPop, sItem, sAugI, sAug, sFrz, sMove, sBreak, sCont, gN, gT, gsNil, gsCons, dVar, vS_d, vS_own, vS_town, vS_v, vS_scr, fz_scr, dC, dOp, dCall, dCallK, daNil, daCons, dTup, dLst, dSl, doNone, doSome, dIf, dAnd, dOr, dNot, dNeg, dOne, dTwoI, dChain, dLc, bVal, bTru, bScr, dLenS, dIxS, dCount, dRest, sCount, sRest, bNot, bAnd, bOr, bYes, wInt2, wIntC, wAdd, wMul, wIx, wIn, wEqD, wIsN, oLen, oTuple, oList, oAll, oSum, oIsi, iSeq, iRng1D, iRng2D, iEnumD, iZipD, fz_d, fz_own, fz_town, fz_v, fz_abs, asDs, fzB, wipeD, asD_d, asD_own, asD_bor, asL_list, asL_tuple, asL_own, asL_bor, asL_int, asL_bool, asL_none, asS_list, asS_tuple, asS_own, asS_bor, tru_bool, tru_int, tru_none, tru_tuple, tru_list, tru_own, tru_bor, stO_d, stO_own, stO_town, stO_v, stO_abs, rtS_d, rtS_own, rtS_bor, rtS_v, rtS_abs, isN_none, isN_tuple, isN_int, isN_list, isN_bool, List.map_cons, List.map_nil, List.length_cons, List.length_nil, List.cons_append, List.nil_append, List.getElem?_cons_zero, List.getElem?_cons_succ, List.set_cons_zero, List.set_cons_succ, Option.map_some, Option.map_none, Option.some.injEq, SV.d.injEq, SV.own.injEq, PyData.int.injEq, PyData.bool.injEq, PyData.tuple.injEq, PyData.list.injEq, PyData.str.injEq, List.cons.injEq, exists_eq_left, exists_eq_left', exists_eq_right, exists_and_left, exists_and_right, exists_const, and_true, true_and, if_true, if_false, reduceCtorEq, false_or, or_false, false_and, and_false, Bool.not_true, Bool.not_false, Bool.false_eq_true, ite_true, ite_false, reduceIte, Bool.true_eq_false, Nat.reduceAdd, nc0, nc1, nc2, nc3, nc4, nc5, nc6, nc7, nc8, Int.reduceBEq, beq_self_eq_true, Bool.and_true, Bool.true_and, Bool.and_false, Bool.false_and, Nat.zero_add, isi_tuple]; exact h
    | dict _ => simp only [t_is_rule, sSeq, sNext, sExpr, sRet, sIf, sSet, sSetF, sAsg, sPar, sRaise, sFor, sApp, sExt, sPop, sItem, sAugI, sAug, sFrz, sMove, sBreak, sCont, gN, gT, gsNil, gsCons, dVar, vS_d, vS_own, vS_town, vS_v, vS_scr, fz_scr, dC, dOp, dCall, dCallK, daNil, daCons, dTup, dLst, dSl, doNone, doSome, dIf, dAnd, dOr, dNot, dNeg, dOne, dTwoI, dChain, dLc, bVal, bTru, bScr, dLenS, dIxS, dCount, dRest, sCount, sRest, bNot, bAnd, bOr, bYes, wInt2, wIntC, wAdd, wMul, wIx, wIn, wEqD, wIsN, oLen, oTuple, oList, oAll, oSum, oIsi, iSeq, iRng1D, iRng2D, iEnumD, iZipD, fz_d, fz_own, fz_town, fz_v, fz_abs, asDs, fzB, wipeD, asD_d, asD_own, asD_bor, asL_list, asL_tuple, asL_own, asL_bor, asL_int, asL_bool, asL_none, asS_list, asS_tuple, asS_own, asS_bor, tru_bool, tru_int, tru_none, tru_tuple, tru_list, tru_own, tru_bor, stO_d, stO_own, stO_town, stO_v, stO_abs, rtS_d, rtS_own, rtS_bor, rtS_v, rtS_abs, isN_none, isN_tuple, isN_int, isN_list, isN_bool, List.map_cons, List.map_nil, List.length_cons, List.length_nil, List.cons_append, List.nil_append, List.getElem?_cons_zero, List.getElem?_cons_succ, List.set_cons_zero, List.set_cons_succ, Option.map_some, Option.map_none, Option.some.injEq, SV.d.injEq, SV.own.injEq, PyData.int.injEq, PyData.bool.injEq, PyData.tuple.injEq, PyData.list.injEq, PyData.str.injEq, List.cons.injEq, exists_eq_left, exists_eq_left', exists_eq_right, exists_and_left, exists_and_right, exists_const, and_true, true_and, if_true, if_false, reduceCtorEq, false_or, or_false, false_and, and_false, Bool.not_true, Bool.not_false, Bool.false_eq_true, ite_true, ite_false, reduceIte, Bool.true_eq_false, Nat.reduceAdd, nc0, nc1, nc2, nc3, nc4, nc5, nc6, nc7, nc8, Int.reduceBEq, beq_self_eq_true, Bool.and_true, Bool.true_and, Bool.and_false, Bool.false_and, Nat.zero_add, isi_tuple]; exact h
  · exact h.elim
/-! ### is_protocol -/
def isProtocol : PyData → Bool
  | .tuple [many, .tuple rules] => (match many with | .int m => decide (2 ≤ m) && decide (m ≤ 5) && (decide (rules.length ≤ 8) && rules.all (isRule m)) | _ => false)
  | _ => false
def sp_is_protocol (c : Ct) : Spec := fun ss Q _ => match ss with
  | [.d v] => Q (.d (.bool (isProtocol v)))
  | _ => False
theorem at_is_protocol {c : Ct} {v : PyData} {Q : SV → Prop} {Ex : XP} : sp_is_protocol c [.d v] Q Ex = Q (.d (.bool (isProtocol v))) := rfl
def t_is_protocol (c : Ct) : DS :=
  (sSeq (sIf (bOr (bNot (bTru (dOne (oIsi "tuple") (dVar 0)))) (bOr (bVal (dOp (wEqD fun b => !b) (dOne oLen (dVar 0)) (dC (.d (.int 2))))) (bNot (bTru (dCall (sp_is_between c) (daCons (dOp wIx (dVar 0) (dC (.d (.int 0)))) (daCons (dC (.d (.int 2))) (daCons (dC (.d (.int 5))) daNil)))))))) (sRet (dC (.d (.bool false)))) sNext)
  (sSeq (sAsg (dVar 0) (gT 2 (gsCons (gN 1) (gsCons (gN 2) gsNil))))
  (sRet (dAnd (dOne (oIsi "tuple") (dVar 2)) (dAnd (dOp (wInt2 fun i j => .bool (decide (i ≤ j))) (dOne oLen (dVar 2)) (dC (.d (.int 8)))) (dOne (oAll fun bs => bs.all id) (dLc (iSeq (dVar 2)) (gN 3) bYes (dCall (sp_is_rule c) (daCons (dVar 1) (daCons (dVar 3) daNil))) [3])))))))
theorem ltle {n : Nat} : decide ((n : Int) ≤ 8) = decide (n ≤ 8) := by
  by_cases h : n ≤ 8
  · rw [decide_eq_true h, decide_eq_true (by omega)]
  · rw [decide_eq_false h, decide_eq_false (by omega)]
theorem rd_is_protocol (c : Ct) (ss : List SV) (Q : SV → Prop) (Ex : XP) (h : sp_is_protocol c ss Q Ex) : t_is_protocol c { nx := fun _ => Q (.d .none), rt := Q } (startD 4 ss) Ex := by
  unfold sp_is_protocol at h
  split at h
  · rename_i v
    show t_is_protocol c _ [some (.d v), none, none, none] Ex
    cases v with
    | tuple xs =>
      by_cases hl : xs.length = 2
      · obtain ⟨m, r, rfl⟩ : ∃ m r, xs = [m, r] := by
          match xs, hl with
          | [m, r], _ => exact ⟨m, r, rfl⟩
        simp only [t_is_protocol, sSeq, sNext, sExpr, sRet, sIf, sSet, sSetF, sAsg, sPar, sRaise, sFor, sApp, sExt, sPop, sItem, sAugI, sAug, sFrz, sMove, sBreak, sCont, gN, gT, gsNil, gsCons, dVar, vS_d, vS_own, vS_town, vS_v, vS_scr, fz_scr, dC, dOp, dCall, dCallK, daNil, daCons, dTup, dLst, dSl, doNone, doSome, dIf, dAnd, dOr, dNot, dNeg, dOne, dTwoI, dChain, dLc, bVal, bTru, bScr, dLenS, dIxS, dCount, dRest, sCount, sRest, bNot, bAnd, bOr, bYes, wInt2, wIntC, wAdd, wMul, wIx, wIn, wEqD, wIsN, oLen, oTuple, oList, oAll, oSum, oIsi, iSeq, iRng1D, iRng2D, iEnumD, iZipD, fz_d, fz_own, fz_town, fz_v, fz_abs, asDs, fzB, wipeD, asD_d, asD_own, asD_bor, asL_list, asL_tuple, asL_own, asL_bor, asL_int, asL_bool, asL_none, asS_list, asS_tuple, asS_own, asS_bor, tru_bool, tru_int, tru_none, tru_tuple, tru_list, tru_own, tru_bor, stO_d, stO_own, stO_town, stO_v, stO_abs, rtS_d, rtS_own, rtS_bor, rtS_v, rtS_abs, isN_none, isN_tuple, isN_int, isN_list, isN_bool, List.map_cons, List.map_nil, List.length_cons, List.length_nil, List.cons_append, List.nil_append, List.getElem?_cons_zero, List.getElem?_cons_succ, List.set_cons_zero, List.set_cons_succ, Option.map_some, Option.map_none, Option.some.injEq, SV.d.injEq, SV.own.injEq, PyData.int.injEq, PyData.bool.injEq, PyData.tuple.injEq, PyData.list.injEq, PyData.str.injEq, List.cons.injEq, exists_eq_left, exists_eq_left', exists_eq_right, exists_and_left, exists_and_right, exists_const, and_true, true_and, if_true, if_false, reduceCtorEq, false_or, or_false, false_and, and_false, Bool.not_true, Bool.not_false, Bool.false_eq_true, ite_true, ite_false, reduceIte, Bool.true_eq_false, Nat.reduceAdd, nc0, nc1, nc2, nc3, nc4, nc5, nc6, nc7, nc8, Int.reduceBEq, beq_self_eq_true, Bool.and_true, Bool.true_and, Bool.and_false, Bool.false_and, Nat.zero_add, isi_tuple, sh_int, eqv_int, atI_0, at_is_between]
        cases h1 : isBetween m 2 5 with
        | false =>
          have hf : isProtocol (.tuple [m, r]) = false := by
            unfold isProtocol
            split
            · rename_i many rules e
              cases e
              split
              · rename_i k
                simp only [isBetween] at h1
                simp only [h1, Bool.false_and]
              · rfl
            · rfl
          rw [hf] at h
          simp only [h1, List.map_cons, List.map_nil, List.length_cons, List.length_nil, List.cons_append, List.nil_append, List.getElem?_cons_zero, List.getElem?_cons_succ, List.set_cons_zero, List.set_cons_succ, Option.map_some, Option.map_none, Option.some.injEq, SV.d.injEq, SV.own.injEq, PyData.int.injEq, PyData.bool.injEq, PyData.tuple.injEq, PyData.list.injEq, PyData.str.injEq, List.cons.injEq, exists_eq_left, exists_eq_left', exists_eq_right, exists_and_left, exists_and_right, exists_const, and_true, true_and, if_true, if_false, reduceCtorEq, false_or, or_false, false_and, and_false, Bool.not_true, Bool.not_false, Bool.false_eq_true, ite_true, ite_false, reduceIte, Bool.true_eq_false, Nat.reduceAdd, nc0, nc1, nc2, nc3, nc4, nc5, nc6, nc7, nc8, Int.reduceBEq, beq_self_eq_true, Bool.and_true, Bool.true_and, Bool.and_false, Bool.false_and, Nat.zero_add]
          exact h
        | true =>
          obtain ⟨i, rfl, hi1, hi2⟩ := btw_int h1
          simp only [h1, List.map_cons, List.map_nil, List.length_cons, List.length_nil, List.cons_append, List.nil_append, List.getElem?_cons_zero, List.getElem?_cons_succ, List.set_cons_zero, List.set_cons_succ, Option.map_some, Option.map_none, Option.some.injEq, SV.d.injEq, SV.own.injEq, PyData.int.injEq, PyData.bool.injEq, PyData.tuple.injEq, PyData.list.injEq, PyData.str.injEq, List.cons.injEq, exists_eq_left, exists_eq_left', exists_eq_right, exists_and_left, exists_and_right, exists_const, and_true, true_and, if_true, if_false, reduceCtorEq, false_or, or_false, false_and, and_false, Bool.not_true, Bool.not_false, Bool.false_eq_true, ite_true, ite_false, reduceIte, Bool.true_eq_false, Nat.reduceAdd, nc0, nc1, nc2, nc3, nc4, nc5, nc6, nc7, nc8, Int.reduceBEq, beq_self_eq_true, Bool.and_true, Bool.true_and, Bool.and_false, Bool.false_and, Nat.zero_add]
          cases r with
          | tuple rules =>
            simp only [isProtocol, hi1, hi2, decide_true, List.map_cons, List.map_nil, List.length_cons, List.length_nil, List.cons_append, List.nil_append, List.getElem?_cons_zero, List.getElem?_cons_succ, List.set_cons_zero, List.set_cons_succ, Option.map_some, Option.map_none, Option.some.injEq, SV.d.injEq, SV.own.injEq, PyData.int.injEq, PyData.bool.injEq, PyData.tuple.injEq, PyData.list.injEq, PyData.str.injEq, List.cons.injEq, exists_eq_left, exists_eq_left', exists_eq_right, exists_and_left, exists_and_right, exists_const, and_true, true_and, if_true, if_false, reduceCtorEq, false_or, or_false, false_and, and_false, Bool.not_true, Bool.not_false, Bool.false_eq_true, ite_true, ite_false, reduceIte, Bool.true_eq_false, Nat.reduceAdd, nc0, nc1, nc2, nc3, nc4, nc5, nc6, nc7, nc8, Int.reduceBEq, beq_self_eq_true, Bool.and_true, Bool.true_and, Bool.and_false, Bool.false_and, Nat.zero_add] at h
            simp only [sSeq, sNext, sExpr, sRet, sIf, sSet, sSetF, sAsg, sPar, sRaise, sFor, sApp, sExt, sPop, sItem, sAugI, sAug, sFrz, sMove, sBreak, sCont, gN, gT, gsNil, gsCons, dVar, vS_d, vS_own, vS_town, vS_v, vS_scr, fz_scr, dC, dOp, dCall, dCallK, daNil, daCons, dTup, dLst, dSl, doNone, doSome, dIf, dAnd, dOr, dNot, dNeg, dOne, dTwoI, dChain, dLc, bVal, bTru, bScr, dLenS, dIxS, dCount, dRest, sCount, sRest, bNot, bAnd, bOr, bYes, wInt2, wIntC, wAdd, wMul, wIx, wIn, wEqD, wIsN, oLen, oTuple, oList, oAll, oSum, oIsi, iSeq, iRng1D, iRng2D, iEnumD, iZipD, fz_d, fz_own, fz_town, fz_v, fz_abs, asDs, fzB, wipeD, asD_d, asD_own, asD_bor, asL_list, asL_tuple, asL_own, asL_bor, asL_int, asL_bool, asL_none, asS_list, asS_tuple, asS_own, asS_bor, tru_bool, tru_int, tru_none, tru_tuple, tru_list, tru_own, tru_bor, stO_d, stO_own, stO_town, stO_v, stO_abs, rtS_d, rtS_own, rtS_bor, rtS_v, rtS_abs, isN_none, isN_tuple, isN_int, isN_list, isN_bool, List.map_cons, List.map_nil, List.length_cons, List.length_nil, List.cons_append, List.nil_append, List.getElem?_cons_zero, List.getElem?_cons_succ, List.set_cons_zero, List.set_cons_succ, Option.map_some, Option.map_none, Option.some.injEq, SV.d.injEq, SV.own.injEq, PyData.int.injEq, PyData.bool.injEq, PyData.tuple.injEq, PyData.list.injEq, PyData.str.injEq, List.cons.injEq, exists_eq_left, exists_eq_left', exists_eq_right, exists_and_left, exists_and_right, exists_const, and_true, true_and, if_true, if_false, reduceCtorEq, false_or, or_false, false_and, and_false, Bool.not_true, Bool.not_false, Bool.false_eq_true, ite_true, ite_false, reduceIte, Bool.true_eq_false, Nat.reduceAdd, nc0, nc1, nc2, nc3, nc4, nc5, nc6, nc7, nc8, Int.reduceBEq, beq_self_eq_true, Bool.and_true, Bool.true_and, Bool.and_false, Bool.false_and, Nat.zero_add, ltle]
            by_cases h8 : rules.length ≤ 8
            · simp only [h8, decide_true, List.map_cons, List.map_nil, List.length_cons, List.length_nil, List.cons_append, List.nil_append, List.getElem?_cons_zero, List.getElem?_cons_succ, List.set_cons_zero, List.set_cons_succ, Option.map_some, Option.map_none, Option.some.injEq, SV.d.injEq, SV.own.injEq, PyData.int.injEq, PyData.bool.injEq, PyData.tuple.injEq, PyData.list.injEq, PyData.str.injEq, List.cons.injEq, exists_eq_left, exists_eq_left', exists_eq_right, exists_and_left, exists_and_right, exists_const, and_true, true_and, if_true, if_false, reduceCtorEq, false_or, or_false, false_and, and_false, Bool.not_true, Bool.not_false, Bool.false_eq_true, ite_true, ite_false, reduceIte, Bool.true_eq_false, Nat.reduceAdd, nc0, nc1, nc2, nc3, nc4, nc5, nc6, nc7, nc8, Int.reduceBEq, beq_self_eq_true, Bool.and_true, Bool.true_and, Bool.and_false, Bool.false_and, Nat.zero_add] at h ⊢
              refine lcR_map (fun x => .bool (isRule i x)) rules (fun x _ k hk => ?_) (all_map _ h)
              simp only [lcT, sSeq, sNext, sExpr, sRet, sIf, sSet, sSetF, sAsg, sPar, sRaise, sFor, sApp, sExt, sPop, sItem, sAugI, sAug, sFrz, sMove, sBreak, sCont, gN, gT, gsNil, gsCons, dVar, vS_d, vS_own, vS_town, vS_v, vS_scr, fz_scr, dC, dOp, dCall, dCallK, daNil, daCons, dTup, dLst, dSl, doNone, doSome, dIf, dAnd, dOr, dNot, dNeg, dOne, dTwoI, dChain, dLc, bVal, bTru, bScr, dLenS, dIxS, dCount, dRest, sCount, sRest, bNot, bAnd, bOr, bYes, wInt2, wIntC, wAdd, wMul, wIx, wIn, wEqD, wIsN, oLen, oTuple, oList, oAll, oSum, oIsi, iSeq, iRng1D, iRng2D, iEnumD, iZipD, fz_d, fz_own, fz_town, fz_v, fz_abs, asDs, fzB, wipeD, asD_d, asD_own, asD_bor, asL_list, asL_tuple, asL_own, asL_bor, asL_int, asL_bool, asL_none, asS_list, asS_tuple, asS_own, asS_bor, tru_bool, tru_int, tru_none, tru_tuple, tru_list, tru_own, tru_bor, stO_d, stO_own, stO_town, stO_v, stO_abs, rtS_d, rtS_own, rtS_bor, rtS_v, rtS_abs, isN_none, isN_tuple, isN_int, isN_list, isN_bool, List.map_cons, List.map_nil, List.length_cons, List.length_nil, List.cons_append, List.nil_append, List.getElem?_cons_zero, List.getElem?_cons_succ, List.set_cons_zero, List.set_cons_succ, Option.map_some, Option.map_none, Option.some.injEq, SV.d.injEq, SV.own.injEq, PyData.int.injEq, PyData.bool.injEq, PyData.tuple.injEq, PyData.list.injEq, PyData.str.injEq, List.cons.injEq, exists_eq_left, exists_eq_left', exists_eq_right, exists_and_left, exists_and_right, exists_const, and_true, true_and, if_true, if_false, reduceCtorEq, false_or, or_false, false_and, and_false, Bool.not_true, Bool.not_false, Bool.false_eq_true, ite_true, ite_false, reduceIte, Bool.true_eq_false, Nat.reduceAdd, nc0, nc1, nc2, nc3, nc4, nc5, nc6, nc7, nc8, Int.reduceBEq, beq_self_eq_true, Bool.and_true, Bool.true_and, Bool.and_false, Bool.false_and, Nat.zero_add, at_is_rule]
              exact ⟨by omega, hk⟩
            · simp only [h8, decide_false, List.map_cons, List.map_nil, List.length_cons, List.length_nil, List.cons_append, List.nil_append, List.getElem?_cons_zero, List.getElem?_cons_succ, List.set_cons_zero, List.set_cons_succ, Option.map_some, Option.map_none, Option.some.injEq, SV.d.injEq, SV.own.injEq, PyData.int.injEq, PyData.bool.injEq, PyData.tuple.injEq, PyData.list.injEq, PyData.str.injEq, List.cons.injEq, exists_eq_left, exists_eq_left', exists_eq_right, exists_and_left, exists_and_right, exists_const, and_true, true_and, if_true, if_false, reduceCtorEq, false_or, or_false, false_and, and_false, Bool.not_true, Bool.not_false, Bool.false_eq_true, ite_true, ite_false, reduceIte, Bool.true_eq_false, Nat.reduceAdd, nc0, nc1, nc2, nc3, nc4, nc5, nc6, nc7, nc8, Int.reduceBEq, beq_self_eq_true, Bool.and_true, Bool.true_and, Bool.and_false, Bool.false_and, Nat.zero_add] at h ⊢
              exact h
          | none => simp only [sSeq, sNext, sExpr, sRet, sIf, sSet, sSetF, sAsg, sPar, sRaise, sFor, sApp, sExt, sPop, sItem, sAugI, sAug, sFrz, sMove, sBreak, sCont, gN, gT, gsNil, gsCons, dVar, vS_d, vS_own, vS_town, vS_v, vS_scr, fz_scr, dC, dOp, dCall, dCallK, daNil, daCons, dTup, dLst, dSl, doNone, doSome, dIf, dAnd, dOr, dNot, dNeg, dOne, dTwoI, dChain, dLc, bVal, bTru, bScr, dLenS, dIxS, dCount, dRest, sCount, sRest, bNot, bAnd, bOr, bYes, wInt2, wIntC, wAdd, wMul, wIx, wIn, wEqD, wIsN, oLen, oTuple, oList, oAll, oSum, oIsi, iSeq, iRng1D, iRng2D, iEnumD, iZipD, fz_d, fz_own, fz_town, fz_v, fz_abs, asDs, fzB, wipeD, asD_d, asD_own, asD_bor, asL_list, asL_tuple, asL_own, asL_bor, asL_int, asL_bool, asL_none, asS_list, asS_tuple, asS_own, asS_bor, tru_bool, tru_int, tru_none, tru_tuple, tru_list, tru_own, tru_bor, stO_d, stO_own, stO_town, stO_v, stO_abs, rtS_d, rtS_own, rtS_bor, rtS_v, rtS_abs, isN_none, isN_tuple, isN_int, isN_list, isN_bool, List.map_cons, List.map_nil, List.length_cons, List.length_nil, List.cons_append, List.nil_append, List.getElem?_cons_zero, List.getElem?_cons_succ, List.set_cons_zero, List.set_cons_succ, Option.map_some, Option.map_none, Option.some.injEq, SV.d.injEq, SV.own.injEq, PyData.int.injEq, PyData.bool.injEq, PyData.tuple.injEq, PyData.list.injEq, PyData.str.injEq, List.cons.injEq, exists_eq_left, exists_eq_left', exists_eq_right, exists_and_left, exists_and_right, exists_const, and_true, true_and, if_true, if_false, reduceCtorEq, false_or, or_false, false_and, and_false, Bool.not_true, Bool.not_false, Bool.false_eq_true, ite_true, ite_false, reduceIte, Bool.true_eq_false, Nat.reduceAdd, nc0, nc1, nc2, nc3, nc4, nc5, nc6, nc7, nc8, Int.reduceBEq, beq_self_eq_true, Bool.and_true, Bool.true_and, Bool.and_false, Bool.false_and, Nat.zero_add]; exact h
          | bool _ => simp only [sSeq, sNext, sExpr, sRet, sIf, sSet, sSetF, sAsg, sPar, sRaise, sFor, sApp, sExt, sPop, sItem, sAugI, sAug, sFrz, sMove, sBreak, sCont, gN, gT, gsNil, gsCons, dVar, vS_d, vS_own, vS_town, vS_v, vS_scr, fz_scr, dC, dOp, dCall, dCallK, daNil, daCons, dTup, dLst, dSl, doNone, doSome, dIf, dAnd, dOr, dNot, dNeg, dOne, dTwoI, dChain, dLc, bVal, bTru, bScr, dLenS, dIxS, dCount, dRest, sCount, sRest, bNot, bAnd, bOr, bYes, wInt2, wIntC, wAdd, wMul, wIx, wIn, wEqD, wIsN, oLen, oTuple, oList, oAll, oSum, oIsi, iSeq, iRng1D, iRng2D, iEnumD, iZipD, fz_d, fz_own, fz_town, fz_v, fz_abs, asDs, fzB, wipeD, asD_d, asD_own, asD_bor, asL_list, asL_tuple, asL_own, asL_bor, asL_int, asL_bool, asL_none, asS_list, asS_tuple, asS_own, asS_bor, tru_bool, tru_int, tru_none, tru_tuple, tru_list, tru_own, tru_bor, stO_d, stO_own, stO_town, stO_v, stO_abs, rtS_d, rtS_own, rtS_bor, rtS_v, rtS_abs, isN_none, isN_tuple, isN_int, isN_list, isN_bool, List.map_cons, List.map_nil, List.length_cons, List.length_nil, List.cons_append, List.nil_append, List.getElem?_cons_zero, List.getElem?_cons_succ, List.set_cons_zero, List.set_cons_succ, Option.map_some, Option.map_none, Option.some.injEq, SV.d.injEq, SV.own.injEq, PyData.int.injEq, PyData.bool.injEq, PyData.tuple.injEq, PyData.list.injEq, PyData.str.injEq, List.cons.injEq, exists_eq_left, exists_eq_left', exists_eq_right, exists_and_left, exists_and_right, exists_const, and_true, true_and, if_true, if_false, reduceCtorEq, false_or, or_false, false_and, and_false, Bool.not_true, Bool.not_false, Bool.false_eq_true, ite_true, ite_false, reduceIte, Bool.true_eq_false, Nat.reduceAdd, nc0, nc1, nc2, nc3, nc4, nc5, nc6, nc7, nc8, Int.reduceBEq, beq_self_eq_true, Bool.and_true, Bool.true_and, Bool.and_false, Bool.false_and, Nat.zero_add]; exact h
          | int _ => simp only [sSeq, sNext, sExpr, sRet, sIf, sSet, sSetF, sAsg, sPar, sRaise, sFor, sApp, sExt, sPop, sItem, sAugI, sAug, sFrz, sMove, sBreak, sCont, gN, gT, gsNil, gsCons, dVar, vS_d, vS_own, vS_town, vS_v, vS_scr, fz_scr, dC, dOp, dCall, dCallK, daNil, daCons, dTup, dLst, dSl, doNone, doSome, dIf, dAnd, dOr, dNot, dNeg, dOne, dTwoI, dChain, dLc, bVal, bTru, bScr, dLenS, dIxS, dCount, dRest, sCount, sRest, bNot, bAnd, bOr, bYes, wInt2, wIntC, wAdd, wMul, wIx, wIn, wEqD, wIsN, oLen, oTuple, oList, oAll, oSum, oIsi, iSeq, iRng1D, iRng2D, iEnumD, iZipD, fz_d, fz_own, fz_town, fz_v, fz_abs, asDs, fzB, wipeD, asD_d, asD_own, asD_bor, asL_list, asL_tuple, asL_own, asL_bor, asL_int, asL_bool, asL_none, asS_list, asS_tuple, asS_own, asS_bor, tru_bool, tru_int, tru_none, tru_tuple, tru_list, tru_own, tru_bor, stO_d, stO_own, stO_town, stO_v, stO_abs, rtS_d, rtS_own, rtS_bor, rtS_v, rtS_abs, isN_none, isN_tuple, isN_int, isN_list, isN_bool, List.map_cons, List.map_nil, List.length_cons, List.length_nil, List.cons_append, List.nil_append, List.getElem?_cons_zero, List.getElem?_cons_succ, List.set_cons_zero, List.set_cons_succ, Option.map_some, Option.map_none, Option.some.injEq, SV.d.injEq, SV.own.injEq, PyData.int.injEq, PyData.bool.injEq, PyData.tuple.injEq, PyData.list.injEq, PyData.str.injEq, List.cons.injEq, exists_eq_left, exists_eq_left', exists_eq_right, exists_and_left, exists_and_right, exists_const, and_true, true_and, if_true, if_false, reduceCtorEq, false_or, or_false, false_and, and_false, Bool.not_true, Bool.not_false, Bool.false_eq_true, ite_true, ite_false, reduceIte, Bool.true_eq_false, Nat.reduceAdd, nc0, nc1, nc2, nc3, nc4, nc5, nc6, nc7, nc8, Int.reduceBEq, beq_self_eq_true, Bool.and_true, Bool.true_and, Bool.and_false, Bool.false_and, Nat.zero_add]; exact h
          | str _ => simp only [sSeq, sNext, sExpr, sRet, sIf, sSet, sSetF, sAsg, sPar, sRaise, sFor, sApp, sExt, sPop, sItem, sAugI, sAug, sFrz, sMove, sBreak, sCont, gN, gT, gsNil, gsCons, dVar, vS_d, vS_own, vS_town, vS_v, vS_scr, fz_scr, dC, dOp, dCall, dCallK, daNil, daCons, dTup, dLst, dSl, doNone, doSome, dIf, dAnd, dOr, dNot, dNeg, dOne, dTwoI, dChain, dLc, bVal, bTru, bScr, dLenS, dIxS, dCount, dRest, sCount, sRest, bNot, bAnd, bOr, bYes, wInt2, wIntC, wAdd, wMul, wIx, wIn, wEqD, wIsN, oLen, oTuple, oList, oAll, oSum, oIsi, iSeq, iRng1D, iRng2D, iEnumD, iZipD, fz_d, fz_own, fz_town, fz_v, fz_abs, asDs, fzB, wipeD, asD_d, asD_own, asD_bor, asL_list, asL_tuple, asL_own, asL_bor, asL_int, asL_bool, asL_none, asS_list, asS_tuple, asS_own, asS_bor, tru_bool, tru_int, tru_none, tru_tuple, tru_list, tru_own, tru_bor, stO_d, stO_own, stO_town, stO_v, stO_abs, rtS_d, rtS_own, rtS_bor, rtS_v, rtS_abs, isN_none, isN_tuple, isN_int, isN_list, isN_bool, List.map_cons, List.map_nil, List.length_cons, List.length_nil, List.cons_append, List.nil_append, List.getElem?_cons_zero, List.getElem?_cons_succ, List.set_cons_zero, List.set_cons_succ, Option.map_some, Option.map_none, Option.some.injEq, SV.d.injEq, SV.own.injEq, PyData.int.injEq, PyData.bool.injEq, PyData.tuple.injEq, PyData.list.injEq, PyData.str.injEq, List.cons.injEq, exists_eq_left, exists_eq_left', exists_eq_right, exists_and_left, exists_and_right, exists_const, and_true, true_and, if_true, if_false, reduceCtorEq, false_or, or_false, false_and, and_false, Bool.not_true, Bool.not_false, Bool.false_eq_true, ite_true, ite_false, reduceIte, Bool.true_eq_false, Nat.reduceAdd, nc0, nc1, nc2, nc3, nc4, nc5, nc6, nc7, nc8, Int.reduceBEq, beq_self_eq_true, Bool.and_true, Bool.true_and, Bool.and_false, Bool.false_and, Nat.zero_add]; exact h
          | list _ => simp only [sSeq, sNext, sExpr, sRet, sIf, sSet, sSetF, sAsg, sPar, sRaise, sFor, sApp, sExt, sPop, sItem, sAugI, sAug, sFrz, sMove, sBreak, sCont, gN, gT, gsNil, gsCons, dVar, vS_d, vS_own, vS_town, vS_v, vS_scr, fz_scr, dC, dOp, dCall, dCallK, daNil, daCons, dTup, dLst, dSl, doNone, doSome, dIf, dAnd, dOr, dNot, dNeg, dOne, dTwoI, dChain, dLc, bVal, bTru, bScr, dLenS, dIxS, dCount, dRest, sCount, sRest, bNot, bAnd, bOr, bYes, wInt2, wIntC, wAdd, wMul, wIx, wIn, wEqD, wIsN, oLen, oTuple, oList, oAll, oSum, oIsi, iSeq, iRng1D, iRng2D, iEnumD, iZipD, fz_d, fz_own, fz_town, fz_v, fz_abs, asDs, fzB, wipeD, asD_d, asD_own, asD_bor, asL_list, asL_tuple, asL_own, asL_bor, asL_int, asL_bool, asL_none, asS_list, asS_tuple, asS_own, asS_bor, tru_bool, tru_int, tru_none, tru_tuple, tru_list, tru_own, tru_bor, stO_d, stO_own, stO_town, stO_v, stO_abs, rtS_d, rtS_own, rtS_bor, rtS_v, rtS_abs, isN_none, isN_tuple, isN_int, isN_list, isN_bool, List.map_cons, List.map_nil, List.length_cons, List.length_nil, List.cons_append, List.nil_append, List.getElem?_cons_zero, List.getElem?_cons_succ, List.set_cons_zero, List.set_cons_succ, Option.map_some, Option.map_none, Option.some.injEq, SV.d.injEq, SV.own.injEq, PyData.int.injEq, PyData.bool.injEq, PyData.tuple.injEq, PyData.list.injEq, PyData.str.injEq, List.cons.injEq, exists_eq_left, exists_eq_left', exists_eq_right, exists_and_left, exists_and_right, exists_const, and_true, true_and, if_true, if_false, reduceCtorEq, false_or, or_false, false_and, and_false, Bool.not_true, Bool.not_false, Bool.false_eq_true, ite_true, ite_false, reduceIte, Bool.true_eq_false, Nat.reduceAdd, nc0, nc1, nc2, nc3, nc4, nc5, nc6, nc7, nc8, Int.reduceBEq, beq_self_eq_true, Bool.and_true, Bool.true_and, Bool.and_false, Bool.false_and, Nat.zero_add]; exact h
          | dict _ => simp only [sSeq, sNext, sExpr, sRet, sIf, sSet, sSetF, sAsg, sPar, sRaise, sFor, sApp, sExt, sPop, sItem, sAugI, sAug, sFrz, sMove, sBreak, sCont, gN, gT, gsNil, gsCons, dVar, vS_d, vS_own, vS_town, vS_v, vS_scr, fz_scr, dC, dOp, dCall, dCallK, daNil, daCons, dTup, dLst, dSl, doNone, doSome, dIf, dAnd, dOr, dNot, dNeg, dOne, dTwoI, dChain, dLc, bVal, bTru, bScr, dLenS, dIxS, dCount, dRest, sCount, sRest, bNot, bAnd, bOr, bYes, wInt2, wIntC, wAdd, wMul, wIx, wIn, wEqD, wIsN, oLen, oTuple, oList, oAll, oSum, oIsi, iSeq, iRng1D, iRng2D, iEnumD, iZipD, fz_d, fz_own, fz_town, fz_v, fz_abs, asDs, fzB, wipeD, asD_d, asD_own, asD_bor, asL_list, asL_tuple, asL_own, asL_bor, asL_int, asL_bool, asL_none, asS_list, asS_tuple, asS_own, asS_bor, tru_bool, tru_int, tru_none, tru_tuple, tru_list, tru_own, tru_bor, stO_d, stO_own, stO_town, stO_v, stO_abs, rtS_d, rtS_own, rtS_bor, rtS_v, rtS_abs, isN_none, isN_tuple, isN_int, isN_list, isN_bool, List.map_cons, List.map_nil, List.length_cons, List.length_nil, List.cons_append, List.nil_append, List.getElem?_cons_zero, List.getElem?_cons_succ, List.set_cons_zero, List.set_cons_succ, Option.map_some, Option.map_none, Option.some.injEq, SV.d.injEq, SV.own.injEq, PyData.int.injEq, PyData.bool.injEq, PyData.tuple.injEq, PyData.list.injEq, PyData.str.injEq, List.cons.injEq, exists_eq_left, exists_eq_left', exists_eq_right, exists_and_left, exists_and_right, exists_const, and_true, true_and, if_true, if_false, reduceCtorEq, false_or, or_false, false_and, and_false, Bool.not_true, Bool.not_false, Bool.false_eq_true, ite_true, ite_false, reduceIte, Bool.true_eq_false, Nat.reduceAdd, nc0, nc1, nc2, nc3, nc4, nc5, nc6, nc7, nc8, Int.reduceBEq, beq_self_eq_true, Bool.and_true, Bool.true_and, Bool.and_false, Bool.false_and, Nat.zero_add]; exact h
      · have hf : isProtocol (.tuple xs) = false := by
          unfold isProtocol
          split
          · rename_i m r e
            cases e
            exact absurd rfl hl
          · rfl
        have h7 : (((xs.length : Nat) : Int) == 2) = false := beq_eq_false_iff_ne.mpr (by omega)
        rw [hf] at h
        simp only [t_is_protocol, sSeq, sNext, sExpr, sRet, sIf, sSet, sSetF, sAsg, sPar, sRaise, sFor, sApp, sExt, sPop, sItem, sAugI, sAug, sFrz, sMove, sBreak, sCont, gN, gT, gsNil, gsCons, dVar, vS_d, vS_own, vS_town, vS_v, vS_scr, fz_scr, dC, dOp, dCall, dCallK, daNil, daCons, dTup, dLst, dSl, doNone, doSome, dIf, dAnd, dOr, dNot, dNeg, dOne, dTwoI, dChain, dLc, bVal, bTru, bScr, dLenS, dIxS, dCount, dRest, sCount, sRest, bNot, bAnd, bOr, bYes, wInt2, wIntC, wAdd, wMul, wIx, wIn, wEqD, wIsN, oLen, oTuple, oList, oAll, oSum, oIsi, iSeq, iRng1D, iRng2D, iEnumD, iZipD, fz_d, fz_own, fz_town, fz_v, fz_abs, asDs, fzB, wipeD, asD_d, asD_own, asD_bor, asL_list, asL_tuple, asL_own, asL_bor, asL_int, asL_bool, asL_none, asS_list, asS_tuple, asS_own, asS_bor, tru_bool, tru_int, tru_none, tru_tuple, tru_list, tru_own, tru_bor, stO_d, stO_own, stO_town, stO_v, stO_abs, rtS_d, rtS_own, rtS_bor, rtS_v, rtS_abs, isN_none, isN_tuple, isN_int, isN_list, isN_bool, List.map_cons, List.map_nil, List.length_cons, List.length_nil, List.cons_append, List.nil_append, List.getElem?_cons_zero, List.getElem?_cons_succ, List.set_cons_zero, List.set_cons_succ, Option.map_some, Option.map_none, Option.some.injEq, SV.d.injEq, SV.own.injEq, PyData.int.injEq, PyData.bool.injEq, PyData.tuple.injEq, PyData.list.injEq, PyData.str.injEq, List.cons.injEq, exists_eq_left, exists_eq_left', exists_eq_right, exists_and_left, exists_and_right, exists_const, and_true, true_and, if_true, if_false, reduceCtorEq, false_or, or_false, false_and, and_false, Bool.not_true, Bool.not_false, Bool.false_eq_true, ite_true, ite_false, reduceIte, Bool.true_eq_false, Nat.reduceAdd, nc0, nc1, nc2, nc3, nc4, nc5, nc6, nc7, nc8, Int.reduceBEq, beq_self_eq_true, Bool.and_true, Bool.true_and, Bool.and_false, Bool.false_and, Nat.zero_add, isi_tuple, sh_int, eqv_int, h7]
        exact h
    | none => simp only [t_is_protocol, sSeq, sNext, sExpr, sRet, sIf, sSet, sSetF, sAsg, sPar, sRaise, sFor, sApp, sExt, sPop, sItem, sAugI, sAug, sFrz, sMove, sBreak, sCont, gN, gT, gsNil, gsCons, dVar, vS_d, vS_own, vS_town, vS_v, vS_scr, fz_scr, dC, dOp, dCall, dCallK, daNil, daCons, dTup, dLst, dSl, doNone, doSome, dIf, dAnd, dOr, dNot, dNeg, dOne, dTwoI, dChain, dLc, bVal, bTru, bScr, dLenS, dIxS, dCount, dRest, sCount, sRest, bNot, bAnd, bOr, bYes, wInt2, wIntC, wAdd, wMul, wIx, wIn, wEqD, wIsN, oLen, oTuple, oList, oAll, oSum, oIsi, iSeq, iRng1D, iRng2D, iEnumD, iZipD, fz_d, fz_own, fz_town, fz_v, fz_abs, asDs, fzB, wipeD, asD_d, asD_own, asD_bor, asL_list, asL_tuple, asL_own, asL_bor, asL_int, asL_bool, asL_none, asS_list, asS_tuple, asS_own, asS_bor, tru_bool, tru_int, tru_none, tru_tuple, tru_list, tru_own, tru_bor, stO_d, stO_own, stO_town, stO_v, stO_abs, rtS_d, rtS_own, rtS_bor, rtS_v, rtS_abs, isN_none, isN_tuple, isN_int, isN_list, isN_bool, List.map_cons, List.map_nil, List.length_cons, List.length_nil, List.cons_append, List.nil_append, List.getElem?_cons_zero, List.getElem?_cons_succ, List.set_cons_zero, List.set_cons_succ, Option.map_some, Option.map_none, Option.some.injEq, SV.d.injEq, SV.own.injEq, PyData.int.injEq, PyData.bool.injEq, PyData.tuple.injEq, PyData.list.injEq, PyData.str.injEq, List.cons.injEq, exists_eq_left, exists_eq_left', exists_eq_right, exists_and_left, exists_and_right, exists_const, and_true, true_and, if_true, if_false, reduceCtorEq, false_or, or_false, false_and, and_false, Bool.not_true, Bool.not_false, Bool.false_eq_true, ite_true, ite_false, reduceIte, Bool.true_eq_false, Nat.reduceAdd, nc0, nc1, nc2, nc3, nc4, nc5, nc6, nc7, nc8, Int.reduceBEq, beq_self_eq_true, Bool.and_true, Bool.true_and, Bool.and_false, Bool.false_and, Nat.zero_add, isi_tuple]; exact h
    | bool _ => simp only [t_is_protocol, sSeq, sNext, sExpr, sRet, sIf, sSet, sSetF, sAsg, sPar, sRaise, sFor, sApp, sExt, sPop, sItem, sAugI, sAug, sFrz, sMove, sBreak, sCont, gN, gT, gsNil, gsCons, dVar, vS_d, vS_own, vS_town, vS_v, vS_scr, fz_scr, dC, dOp, dCall, dCallK, daNil, daCons, dTup, dLst, dSl, doNone, doSome, dIf, dAnd, dOr, dNot, dNeg, dOne, dTwoI, dChain, dLc, bVal, bTru, bScr, dLenS, dIxS, dCount, dRest, sCount, sRest, bNot, bAnd, bOr, bYes, wInt2, wIntC, wAdd, wMul, wIx, wIn, wEqD, wIsN, oLen, oTuple, oList, oAll, oSum, oIsi, iSeq, iRng1D, iRng2D, iEnumD, iZipD, fz_d, fz_own, fz_town, fz_v, fz_abs, asDs, fzB, wipeD, asD_d, asD_own, asD_bor, asL_list, asL_tuple, asL_own, asL_bor, asL_int, asL_bool, asL_none, asS_list, asS_tuple, asS_own, asS_bor, tru_bool, tru_int, tru_none, tru_tuple, tru_list, tru_own, tru_bor, stO_d, stO_own, stO_town, stO_v, stO_abs, rtS_d, rtS_own, rtS_bor, rtS_v, rtS_abs, isN_none, isN_tuple, isN_int, isN_list, isN_bool, List.map_cons, List.map_nil, List.length_cons, List.length_nil, List.cons_append, List.nil_append, List.getElem?_cons_zero, List.getElem?_cons_succ, List.set_cons_zero, List.set_cons_succ, Option.map_some, Option.map_none, Option.some.injEq, SV.d.injEq, SV.own.injEq, PyData.int.injEq, PyData.bool.injEq, PyData.tuple.injEq, PyData.list.injEq, PyData.str.injEq, List.cons.injEq, exists_eq_left, exists_eq_left', exists_eq_right, exists_and_left, exists_and_right, exists_const, and_true, true_and, if_true, if_false, reduceCtorEq, false_or, or_false, false_and, and_false, Bool.not_true, Bool.not_false, Bool.false_eq_true, ite_true, ite_false, reduceIte, Bool.true_eq_false, Nat.reduceAdd, nc0, nc1, nc2, nc3, nc4, nc5, nc6, nc7, nc8, Int.reduceBEq, beq_self_eq_true, Bool.and_true, Bool.true_and, Bool.and_false, Bool.false_and, Nat.zero_add, isi_tuple]; exact h
    | int _ => simp only [t_is_protocol, sSeq, sNext, sExpr, sRet, sIf, sSet, sSetF, sAsg, sPar, sRaise, sFor, sApp, sExt, sPop, sItem, sAugI, sAug, sFrz, sMove, sBreak, sCont, gN, gT, gsNil, gsCons, dVar, vS_d, vS_own, vS_town, vS_v, vS_scr, fz_scr, dC, dOp, dCall, dCallK, daNil, daCons, dTup, dLst, dSl, doNone, doSome, dIf, dAnd, dOr, dNot, dNeg, dOne, dTwoI, dChain, dLc, bVal, bTru, bScr, dLenS, dIxS, dCount, dRest, sCount, sRest, bNot, bAnd, bOr, bYes, wInt2, wIntC, wAdd, wMul, wIx, wIn, wEqD, wIsN, oLen, oTuple, oList, oAll, oSum, oIsi, iSeq, iRng1D, iRng2D, iEnumD, iZipD, fz_d, fz_own, fz_town, fz_v, fz_abs, asDs, fzB, wipeD, asD_d, asD_own, asD_bor, asL_list, asL_tuple, asL_own, asL_bor, asL_int, asL_bool, asL_none, asS_list, asS_tuple, asS_own, asS_bor, tru_bool, tru_int, tru_none, tru_tuple, tru_list, tru_own, tru_bor, stO_d, stO_own, stO_town, stO_v, stO_abs, rtS_d, rtS_own, rtS_bor, rtS_v, rtS_abs, isN_none, isN_tuple, isN_int, isN_list, isN_bool, List.map_cons, List.map_nil, List.length_cons, List.length_nil, List.cons_append, List.nil_append, List.getElem?_cons_zero, List.getElem?_cons_succ, List.set_cons_zero, List.set_cons_succ, Option.map_some, Option.map_none, Option.some.injEq, SV.d.injEq, SV.own.injEq, PyData.int.injEq, PyData.bool.injEq, PyData.tuple.injEq, PyData.list.injEq, PyData.str.injEq, List.cons.injEq, exists_eq_left, exists_eq_left', exists_eq_right, exists_and_left, exists_and_right, exists_const, and_true, true_and, if_true, if_false, reduceCtorEq, false_or, or_false, false_and, and_false, Bool.not_true, Bool.not_false, Bool.false_eq_true, ite_true, ite_false, reduceIte, Bool.true_eq_false, Nat.reduceAdd, nc0, nc1, nc2, nc3, nc4, nc5, nc6, nc7, nc8, Int.reduceBEq, beq_self_eq_true, Bool.and_true, Bool.true_and, Bool.and_false, Bool.false_and, Nat.zero_add, isi_tuple]; exact h
    | str _ => simp only [t_is_protocol, sSeq, sNext, sExpr, sRet, sIf, sSet, sSetF, sAsg, sPar, sRaise, sFor, sApp, sExt, sPop, sItem, sAugI, sAug, sFrz, sMove, sBreak, sCont, gN, gT, gsNil, gsCons, dVar, vS_d, vS_own, vS_town, vS_v, vS_scr, fz_scr, dC, dOp, dCall, dCallK, daNil, daCons, dTup, dLst, dSl, doNone, doSome, dIf, dAnd, dOr, dNot, dNeg, dOne, dTwoI, dChain, dLc, bVal, bTru, bScr, dLenS, dIxS, dCount, dRest, sCount, sRest, bNot, bAnd, bOr, bYes, wInt2, wIntC, wAdd, wMul, wIx, wIn, wEqD, wIsN, oLen, oTuple, oList, oAll, oSum, oIsi, iSeq, iRng1D, iRng2D, iEnumD, iZipD, fz_d, fz_own, fz_town, fz_v, fz_abs, asDs, fzB, wipeD, asD_d, asD_own, asD_bor, asL_list, asL_tuple, asL_own, asL_bor, asL_int, asL_bool, asL_none, asS_list, asS_tuple, asS_own, asS_bor, tru_bool, tru_int, tru_none, tru_tuple, tru_list, tru_own, tru_bor, stO_d, stO_own, stO_town, stO_v, stO_abs, rtS_d, rtS_own, rtS_bor, rtS_v, rtS_abs, isN_none, isN_tuple, isN_int, isN_list, isN_bool, List.map_cons, List.map_nil, List.length_cons, List.length_nil, List.cons_append, List.nil_append, List.getElem?_cons_zero, List.getElem?_cons_succ, List.set_cons_zero, List.set_cons_succ, Option.map_some, Option.map_none, Option.some.injEq, SV.d.injEq, SV.own.injEq, PyData.int.injEq, PyData.bool.injEq, PyData.tuple.injEq, PyData.list.injEq, PyData.str.injEq, List.cons.injEq, exists_eq_left, exists_eq_left', exists_eq_right, exists_and_left, exists_and_right, exists_const, and_true, true_and, if_true, if_false, reduceCtorEq, false_or, or_false, false_and, and_false, Bool.not_true, Bool.not_false, Bool.false_eq_true, ite_true, ite_false, reduceIte, Bool.true_eq_false, Nat.reduceAdd, nc0, nc1, nc2, nc3, nc4, nc5, nc6, nc7, nc8, Int.reduceBEq, beq_self_eq_true, Bool.and_true, Bool.true_and, Bool.and_false, Bool.false_and, Nat.zero_add, isi_tuple]; exact h
    | list _ => simp only [t_is_protocol, sSeq, sNext, sExpr, sRet, sIf, sSet, sSetF, sAsg, sPar, sRaise, sFor, sApp, sExt, sPop, sItem, sAugI, sAug, sFrz, sMove, sBreak, sCont, gN, gT, gsNil, gsCons, dVar, vS_d, vS_own, vS_town, vS_v, vS_scr, fz_scr, dC, dOp, dCall, dCallK, daNil, daCons, dTup, dLst, dSl, doNone, doSome, dIf, dAnd, dOr, dNot, dNeg, dOne, dTwoI, dChain, dLc, bVal, bTru, bScr, dLenS, dIxS, dCount, dRest, sCount, sRest, bNot, bAnd, bOr, bYes, wInt2, wIntC, wAdd, wMul, wIx, wIn, wEqD, wIsN, oLen, oTuple, oList, oAll, oSum, oIsi, iSeq, iRng1D, iRng2D, iEnumD, iZipD, fz_d, fz_own, fz_town, fz_v, fz_abs, asDs, fzB, wipeD, asD_d, asD_own, asD_bor, asL_list, asL_tuple, asL_own, asL_bor, asL_int, asL_bool, asL_none, asS_list, asS_tuple, asS_own, asS_bor, tru_bool, tru_int, tru_none, tru_tuple, tru_list, tru_own, tru_bor, stO_d, stO_own, stO_town, stO_v, stO_abs, rtS_d, rtS_own, rtS_bor, rtS_v, rtS_abs, isN_none, isN_tuple, isN_int, isN_list, isN_bool, List.map_cons, List.map_nil, List.length_cons, List.length_nil, List.cons_append, List.nil_append, List.getElem?_cons_zero, List.getElem?_cons_succ, List.set_cons_zero, List.set_cons_succ, Option.map_some, Option.map_none, Option.some.injEq, SV.d.injEq, SV.own.injEq, PyData.int.injEq, PyData.bool.injEq, PyData.tuple.injEq, PyData.list.injEq, PyData.str.injEq, List.cons.injEq, exists_eq_left, exists_eq_left', exists_eq_right, exists_and_left, exists_and_right, exists_const, and_true, true_and, if_true, if_false, reduceCtorEq, false_or, or_false, false_and, and_false, Bool.not_true, Bool.not_false, Bool.false_eq_true, ite_true, ite_false, reduceIte, Bool.true_eq_false, Nat.reduceAdd, nc0, nc1, nc2, nc3, nc4, nc5, nc6, nc7, nc8, Int.reduceBEq, beq_self_eq_true, Bool.and_true, Bool.true_and, Bool.and_false, Bool.false_and, Nat.zero_add, isi_tuple]; exact h
    | dict _ => simp only [t_is_protocol, sSeq, sNext, sExpr, sRet, sIf, sSet, sSetF, sAsg, sPar, sRaise, sFor, sApp, sExt, sPop, sItem, sAugI, sAug, sFrz, sMove, sBreak, sCont, gN, gT, gsNil, gsCons, dVar, vS_d, vS_own, vS_town, vS_v, vS_scr, fz_scr, dC, dOp, dCall, dCallK, daNil, daCons, dTup, dLst, dSl, doNone, doSome, dIf, dAnd, dOr, dNot, dNeg, dOne, dTwoI, dChain, dLc, bVal, bTru, bScr, dLenS, dIxS, dCount, dRest, sCount, sRest, bNot, bAnd, bOr, bYes, wInt2, wIntC, wAdd, wMul, wIx, wIn, wEqD, wIsN, oLen, oTuple, oList, oAll, oSum, oIsi, iSeq, iRng1D, iRng2D, iEnumD, iZipD, fz_d, fz_own, fz_town, fz_v, fz_abs, asDs, fzB, wipeD, asD_d, asD_own, asD_bor, asL_list, asL_tuple, asL_own, asL_bor, asL_int, asL_bool, asL_none, asS_list, asS_tuple, asS_own, asS_bor, tru_bool, tru_int, tru_none, tru_tuple, tru_list, tru_own, tru_bor, stO_d, stO_own, stO_town, stO_v, stO_abs, rtS_d, rtS_own, rtS_bor, rtS_v, rtS_abs, isN_none, isN_tuple, isN_int, isN_list, isN_bool, List.map_cons, List.map_nil, List.length_cons, List.length_nil, List.cons_append, List.nil_append, List.getElem?_cons_zero, List.getElem?_cons_succ, List.set_cons_zero, List.set_cons_succ, Option.map_some, Option.map_none, Option.some.injEq, SV.d.injEq, SV.own.injEq, PyData.int.injEq, PyData.bool.injEq, PyData.tuple.injEq, PyData.list.injEq, PyData.str.injEq, List.cons.injEq, exists_eq_left, exists_eq_left', exists_eq_right, exists_and_left, exists_and_right, exists_const, and_true, true_and, if_true, if_false, reduceCtorEq, false_or, or_false, false_and, and_false, Bool.not_true, Bool.not_false, Bool.false_eq_true, ite_true, ite_false, reduceIte, Bool.true_eq_false, Nat.reduceAdd, nc0, nc1, nc2, nc3, nc4, nc5, nc6, nc7, nc8, Int.reduceBEq, beq_self_eq_true, Bool.and_true, Bool.true_and, Bool.and_false, Bool.false_and, Nat.zero_add, isi_tuple]; exact h
  · exact h.elim
def xInvalid (c : Ct) (n : String) : Value := .ref (c.cls n)
def sp_check_protocol (c : Ct) : Spec := fun ss Q Ex => match ss with
  | [.d v] => if isProtocol v = true then Q (.d .none) else Ex (.ref (c.cls "InvalidProtocol"))
  | _ => False
theorem at_check_protocol {c : Ct} {v : PyData} {Q : SV → Prop} {Ex : XP} : sp_check_protocol c [.d v] Q Ex = if isProtocol v = true then Q (.d .none) else Ex (.ref (c.cls "InvalidProtocol")) := rfl
def t_check_protocol (c : Ct) : DS :=
  (sIf (bNot (bTru (dCall (sp_is_protocol c) (daCons (dVar 0) daNil)))) (sRaise (.ref (c.cls "InvalidProtocol"))) sNext)
theorem rd_check_protocol (c : Ct) (ss : List SV) (Q : SV → Prop) (Ex : XP) (h : sp_check_protocol c ss Q Ex) : t_check_protocol c { nx := fun _ => Q (.d .none), rt := Q } (startD 1 ss) Ex := by
  unfold sp_check_protocol at h
  split at h
  · rename_i v
    show t_check_protocol c _ [some (.d v)] Ex
    simp only [t_check_protocol, sSeq, sNext, sExpr, sRet, sIf, sSet, sSetF, sAsg, sPar, sRaise, sFor, sApp, sExt, sPop, sItem, sAugI, sAug, sFrz, sMove, sBreak, sCont, gN, gT, gsNil, gsCons, dVar, vS_d, vS_own, vS_town, vS_v, vS_scr, fz_scr, dC, dOp, dCall, dCallK, daNil, daCons, dTup, dLst, dSl, doNone, doSome, dIf, dAnd, dOr, dNot, dNeg, dOne, dTwoI, dChain, dLc, bVal, bTru, bScr, dLenS, dIxS, dCount, dRest, sCount, sRest, bNot, bAnd, bOr, bYes, wInt2, wIntC, wAdd, wMul, wIx, wIn, wEqD, wIsN, oLen, oTuple, oList, oAll, oSum, oIsi, iSeq, iRng1D, iRng2D, iEnumD, iZipD, fz_d, fz_own, fz_town, fz_v, fz_abs, asDs, fzB, wipeD, asD_d, asD_own, asD_bor, asL_list, asL_tuple, asL_own, asL_bor, asL_int, asL_bool, asL_none, asS_list, asS_tuple, asS_own, asS_bor, tru_bool, tru_int, tru_none, tru_tuple, tru_list, tru_own, tru_bor, stO_d, stO_own, stO_town, stO_v, stO_abs, rtS_d, rtS_own, rtS_bor, rtS_v, rtS_abs, isN_none, isN_tuple, isN_int, isN_list, isN_bool, List.map_cons, List.map_nil, List.length_cons, List.length_nil, List.cons_append, List.nil_append, List.getElem?_cons_zero, List.getElem?_cons_succ, List.set_cons_zero, List.set_cons_succ, Option.map_some, Option.map_none, Option.some.injEq, SV.d.injEq, SV.own.injEq, PyData.int.injEq, PyData.bool.injEq, PyData.tuple.injEq, PyData.list.injEq, PyData.str.injEq, List.cons.injEq, exists_eq_left, exists_eq_left', exists_eq_right, exists_and_left, exists_and_right, exists_const, and_true, true_and, if_true, if_false, reduceCtorEq, false_or, or_false, false_and, and_false, Bool.not_true, Bool.not_false, Bool.false_eq_true, ite_true, ite_false, reduceIte, Bool.true_eq_false, Nat.reduceAdd, nc0, nc1, nc2, nc3, nc4, nc5, nc6, nc7, nc8, Int.reduceBEq, beq_self_eq_true, Bool.and_true, Bool.true_and, Bool.and_false, Bool.false_and, Nat.zero_add, at_is_protocol]
    cases e : isProtocol v <;> simp only [e, List.map_cons, List.map_nil, List.length_cons, List.length_nil, List.cons_append, List.nil_append, List.getElem?_cons_zero, List.getElem?_cons_succ, List.set_cons_zero, List.set_cons_succ, Option.map_some, Option.map_none, Option.some.injEq, SV.d.injEq, SV.own.injEq, PyData.int.injEq, PyData.bool.injEq, PyData.tuple.injEq, PyData.list.injEq, PyData.str.injEq, List.cons.injEq, exists_eq_left, exists_eq_left', exists_eq_right, exists_and_left, exists_and_right, exists_const, and_true, true_and, if_true, if_false, reduceCtorEq, false_or, or_false, false_and, and_false, Bool.not_true, Bool.not_false, Bool.false_eq_true, ite_true, ite_false, reduceIte, Bool.true_eq_false, Nat.reduceAdd, nc0, nc1, nc2, nc3, nc4, nc5, nc6, nc7, nc8, Int.reduceBEq, beq_self_eq_true, Bool.and_true, Bool.true_and, Bool.and_false, Bool.false_and, Nat.zero_add] at h ⊢ <;> exact h
  · exact h.elim
/-! ### counts -/
def isCount : PyData → Bool
  | .int i => decide (0 ≤ i)
  | _ => false
def sp_is_count (c : Ct) : Spec := fun ss Q _ => match ss with
  | [.d v] => Q (.d (.bool (isCount v)))
  | _ => False
theorem at_is_count {c : Ct} {v : PyData} {Q : SV → Prop} {Ex : XP} : sp_is_count c [.d v] Q Ex = Q (.d (.bool (isCount v))) := rfl
def t_is_count (c : Ct) : DS :=
  (sRet (dAnd (dOne (oIsi "int") (dVar 0)) (dAnd (dNot (dOne (oIsi "bool") (dVar 0))) (dOp (wInt2 fun i j => .bool (decide (j ≤ i))) (dVar 0) (dC (.d (.int 0)))))))
theorem rd_is_count (c : Ct) (ss : List SV) (Q : SV → Prop) (Ex : XP) (h : sp_is_count c ss Q Ex) : t_is_count c { nx := fun _ => Q (.d .none), rt := Q } (startD 1 ss) Ex := by
  unfold sp_is_count at h
  split at h
  · rename_i v
    show t_is_count c _ [some (.d v)] Ex
    cases v <;> simp only [t_is_count, sSeq, sNext, sExpr, sRet, sIf, sSet, sSetF, sAsg, sPar, sRaise, sFor, sApp, sExt, sPop, sItem, sAugI, sAug, sFrz, sMove, sBreak, sCont, gN, gT, gsNil, gsCons, dVar, vS_d, vS_own, vS_town, vS_v, vS_scr, fz_scr, dC, dOp, dCall, dCallK, daNil, daCons, dTup, dLst, dSl, doNone, doSome, dIf, dAnd, dOr, dNot, dNeg, dOne, dTwoI, dChain, dLc, bVal, bTru, bScr, dLenS, dIxS, dCount, dRest, sCount, sRest, bNot, bAnd, bOr, bYes, wInt2, wIntC, wAdd, wMul, wIx, wIn, wEqD, wIsN, oLen, oTuple, oList, oAll, oSum, oIsi, iSeq, iRng1D, iRng2D, iEnumD, iZipD, fz_d, fz_own, fz_town, fz_v, fz_abs, asDs, fzB, wipeD, asD_d, asD_own, asD_bor, asL_list, asL_tuple, asL_own, asL_bor, asL_int, asL_bool, asL_none, asS_list, asS_tuple, asS_own, asS_bor, tru_bool, tru_int, tru_none, tru_tuple, tru_list, tru_own, tru_bor, stO_d, stO_own, stO_town, stO_v, stO_abs, rtS_d, rtS_own, rtS_bor, rtS_v, rtS_abs, isN_none, isN_tuple, isN_int, isN_list, isN_bool, List.map_cons, List.map_nil, List.length_cons, List.length_nil, List.cons_append, List.nil_append, List.getElem?_cons_zero, List.getElem?_cons_succ, List.set_cons_zero, List.set_cons_succ, Option.map_some, Option.map_none, Option.some.injEq, SV.d.injEq, SV.own.injEq, PyData.int.injEq, PyData.bool.injEq, PyData.tuple.injEq, PyData.list.injEq, PyData.str.injEq, List.cons.injEq, exists_eq_left, exists_eq_left', exists_eq_right, exists_and_left, exists_and_right, exists_const, and_true, true_and, if_true, if_false, reduceCtorEq, false_or, or_false, false_and, and_false, Bool.not_true, Bool.not_false, Bool.false_eq_true, ite_true, ite_false, reduceIte, Bool.true_eq_false, Nat.reduceAdd, nc0, nc1, nc2, nc3, nc4, nc5, nc6, nc7, nc8, Int.reduceBEq, beq_self_eq_true, Bool.and_true, Bool.true_and, Bool.and_false, Bool.false_and, Nat.zero_add, isi_int, isi_bool] <;> exact h
  · exact h.elim
/-- a tuple with a count for each state -/
def areCounts (many : Int) : PyData → Bool
  | .tuple xs => decide ((xs.length : Int) = many) && xs.all isCount
  | _ => false
/-- the first item of a protocol's tuple -/
def sp_are_counts (c : Ct) : Spec := fun ss Q _ => match ss with
  | [.d (.tuple (.int many :: _)), .d v] => Q (.d (.bool (areCounts many v)))
  | _ => False
theorem at_are_counts {c : Ct} {v : PyData} {many : Int} {r : List PyData} {Q : SV → Prop} {Ex : XP} : sp_are_counts c [.d (.tuple (.int many :: r)), .d v] Q Ex = Q (.d (.bool (areCounts many v))) := rfl
def t_are_counts (c : Ct) : DS :=
  (sRet (dAnd (dOne (oIsi "tuple") (dVar 1)) (dAnd (dOp (wEqD fun b => b) (dOne oLen (dVar 1)) (dOp wIx (dVar 0) (dC (.d (.int 0))))) (dOne (oAll fun bs => bs.all id) (dLc (iSeq (dVar 1)) (gN 2) bYes (dCall (sp_is_count c) (daCons (dVar 2) daNil)) [2])))))
theorem rd_are_counts (c : Ct) (ss : List SV) (Q : SV → Prop) (Ex : XP) (h : sp_are_counts c ss Q Ex) : t_are_counts c { nx := fun _ => Q (.d .none), rt := Q } (startD 3 ss) Ex := by
  unfold sp_are_counts at h
  split at h
  · rename_i many r v
    show t_are_counts c _ [some (.d (.tuple (.int many :: r))), some (.d v), none] Ex
    cases v with
    | tuple xs =>
      simp only [t_are_counts, sSeq, sNext, sExpr, sRet, sIf, sSet, sSetF, sAsg, sPar, sRaise, sFor, sApp, sExt, sPop, sItem, sAugI, sAug, sFrz, sMove, sBreak, sCont, gN, gT, gsNil, gsCons, dVar, vS_d, vS_own, vS_town, vS_v, vS_scr, fz_scr, dC, dOp, dCall, dCallK, daNil, daCons, dTup, dLst, dSl, doNone, doSome, dIf, dAnd, dOr, dNot, dNeg, dOne, dTwoI, dChain, dLc, bVal, bTru, bScr, dLenS, dIxS, dCount, dRest, sCount, sRest, bNot, bAnd, bOr, bYes, wInt2, wIntC, wAdd, wMul, wIx, wIn, wEqD, wIsN, oLen, oTuple, oList, oAll, oSum, oIsi, iSeq, iRng1D, iRng2D, iEnumD, iZipD, fz_d, fz_own, fz_town, fz_v, fz_abs, asDs, fzB, wipeD, asD_d, asD_own, asD_bor, asL_list, asL_tuple, asL_own, asL_bor, asL_int, asL_bool, asL_none, asS_list, asS_tuple, asS_own, asS_bor, tru_bool, tru_int, tru_none, tru_tuple, tru_list, tru_own, tru_bor, stO_d, stO_own, stO_town, stO_v, stO_abs, rtS_d, rtS_own, rtS_bor, rtS_v, rtS_abs, isN_none, isN_tuple, isN_int, isN_list, isN_bool, List.map_cons, List.map_nil, List.length_cons, List.length_nil, List.cons_append, List.nil_append, List.getElem?_cons_zero, List.getElem?_cons_succ, List.set_cons_zero, List.set_cons_succ, Option.map_some, Option.map_none, Option.some.injEq, SV.d.injEq, SV.own.injEq, PyData.int.injEq, PyData.bool.injEq, PyData.tuple.injEq, PyData.list.injEq, PyData.str.injEq, List.cons.injEq, exists_eq_left, exists_eq_left', exists_eq_right, exists_and_left, exists_and_right, exists_const, and_true, true_and, if_true, if_false, reduceCtorEq, false_or, or_false, false_and, and_false, Bool.not_true, Bool.not_false, Bool.false_eq_true, ite_true, ite_false, reduceIte, Bool.true_eq_false, Nat.reduceAdd, nc0, nc1, nc2, nc3, nc4, nc5, nc6, nc7, nc8, Int.reduceBEq, beq_self_eq_true, Bool.and_true, Bool.true_and, Bool.and_false, Bool.false_and, Nat.zero_add, isi_tuple, sh_int, eqv_int, atI_0]
      unfold areCounts at h
      by_cases h6 : ((xs.length : Nat) : Int) = many
      · simp only [h6, decide_true, List.map_cons, List.map_nil, List.length_cons, List.length_nil, List.cons_append, List.nil_append, List.getElem?_cons_zero, List.getElem?_cons_succ, List.set_cons_zero, List.set_cons_succ, Option.map_some, Option.map_none, Option.some.injEq, SV.d.injEq, SV.own.injEq, PyData.int.injEq, PyData.bool.injEq, PyData.tuple.injEq, PyData.list.injEq, PyData.str.injEq, List.cons.injEq, exists_eq_left, exists_eq_left', exists_eq_right, exists_and_left, exists_and_right, exists_const, and_true, true_and, if_true, if_false, reduceCtorEq, false_or, or_false, false_and, and_false, Bool.not_true, Bool.not_false, Bool.false_eq_true, ite_true, ite_false, reduceIte, Bool.true_eq_false, Nat.reduceAdd, nc0, nc1, nc2, nc3, nc4, nc5, nc6, nc7, nc8, Int.reduceBEq, beq_self_eq_true, Bool.and_true, Bool.true_and, Bool.and_false, Bool.false_and, Nat.zero_add] at h ⊢
        refine lcR_map (fun x => .bool (isCount x)) xs (fun x _ k hk => ?_) (all_map _ h)
        simp only [lcT, sSeq, sNext, sExpr, sRet, sIf, sSet, sSetF, sAsg, sPar, sRaise, sFor, sApp, sExt, sPop, sItem, sAugI, sAug, sFrz, sMove, sBreak, sCont, gN, gT, gsNil, gsCons, dVar, vS_d, vS_own, vS_town, vS_v, vS_scr, fz_scr, dC, dOp, dCall, dCallK, daNil, daCons, dTup, dLst, dSl, doNone, doSome, dIf, dAnd, dOr, dNot, dNeg, dOne, dTwoI, dChain, dLc, bVal, bTru, bScr, dLenS, dIxS, dCount, dRest, sCount, sRest, bNot, bAnd, bOr, bYes, wInt2, wIntC, wAdd, wMul, wIx, wIn, wEqD, wIsN, oLen, oTuple, oList, oAll, oSum, oIsi, iSeq, iRng1D, iRng2D, iEnumD, iZipD, fz_d, fz_own, fz_town, fz_v, fz_abs, asDs, fzB, wipeD, asD_d, asD_own, asD_bor, asL_list, asL_tuple, asL_own, asL_bor, asL_int, asL_bool, asL_none, asS_list, asS_tuple, asS_own, asS_bor, tru_bool, tru_int, tru_none, tru_tuple, tru_list, tru_own, tru_bor, stO_d, stO_own, stO_town, stO_v, stO_abs, rtS_d, rtS_own, rtS_bor, rtS_v, rtS_abs, isN_none, isN_tuple, isN_int, isN_list, isN_bool, List.map_cons, List.map_nil, List.length_cons, List.length_nil, List.cons_append, List.nil_append, List.getElem?_cons_zero, List.getElem?_cons_succ, List.set_cons_zero, List.set_cons_succ, Option.map_some, Option.map_none, Option.some.injEq, SV.d.injEq, SV.own.injEq, PyData.int.injEq, PyData.bool.injEq, PyData.tuple.injEq, PyData.list.injEq, PyData.str.injEq, List.cons.injEq, exists_eq_left, exists_eq_left', exists_eq_right, exists_and_left, exists_and_right, exists_const, and_true, true_and, if_true, if_false, reduceCtorEq, false_or, or_false, false_and, and_false, Bool.not_true, Bool.not_false, Bool.false_eq_true, ite_true, ite_false, reduceIte, Bool.true_eq_false, Nat.reduceAdd, nc0, nc1, nc2, nc3, nc4, nc5, nc6, nc7, nc8, Int.reduceBEq, beq_self_eq_true, Bool.and_true, Bool.true_and, Bool.and_false, Bool.false_and, Nat.zero_add, at_is_count]
        exact hk
      · have h7 : (((xs.length : Nat) : Int) == many) = false := beq_eq_false_iff_ne.mpr h6
        simp only [h6, h7, decide_false, List.map_cons, List.map_nil, List.length_cons, List.length_nil, List.cons_append, List.nil_append, List.getElem?_cons_zero, List.getElem?_cons_succ, List.set_cons_zero, List.set_cons_succ, Option.map_some, Option.map_none, Option.some.injEq, SV.d.injEq, SV.own.injEq, PyData.int.injEq, PyData.bool.injEq, PyData.tuple.injEq, PyData.list.injEq, PyData.str.injEq, List.cons.injEq, exists_eq_left, exists_eq_left', exists_eq_right, exists_and_left, exists_and_right, exists_const, and_true, true_and, if_true, if_false, reduceCtorEq, false_or, or_false, false_and, and_false, Bool.not_true, Bool.not_false, Bool.false_eq_true, ite_true, ite_false, reduceIte, Bool.true_eq_false, Nat.reduceAdd, nc0, nc1, nc2, nc3, nc4, nc5, nc6, nc7, nc8, Int.reduceBEq, beq_self_eq_true, Bool.and_true, Bool.true_and, Bool.and_false, Bool.false_and, Nat.zero_add] at h ⊢
        exact h
    | none => simp only [t_are_counts, sSeq, sNext, sExpr, sRet, sIf, sSet, sSetF, sAsg, sPar, sRaise, sFor, sApp, sExt, sPop, sItem, sAugI, sAug, sFrz, sMove, sBreak, sCont, gN, gT, gsNil, gsCons, dVar, vS_d, vS_own, vS_town, vS_v, vS_scr, fz_scr, dC, dOp, dCall, dCallK, daNil, daCons, dTup, dLst, dSl, doNone, doSome, dIf, dAnd, dOr, dNot, dNeg, dOne, dTwoI, dChain, dLc, bVal, bTru, bScr, dLenS, dIxS, dCount, dRest, sCount, sRest, bNot, bAnd, bOr, bYes, wInt2, wIntC, wAdd, wMul, wIx, wIn, wEqD, wIsN, oLen, oTuple, oList, oAll, oSum, oIsi, iSeq, iRng1D, iRng2D, iEnumD, iZipD, fz_d, fz_own, fz_town, fz_v, fz_abs, asDs, fzB, wipeD, asD_d, asD_own, asD_bor, asL_list, asL_tuple, asL_own, asL_bor, asL_int, asL_bool, asL_none, asS_list, asS_tuple, asS_own, asS_bor, tru_bool, tru_int, tru_none, tru_tuple, tru_list, tru_own, tru_bor, stO_d, stO_own, stO_town, stO_v, stO_abs, rtS_d, rtS_own, rtS_bor, rtS_v, rtS_abs, isN_none, isN_tuple, isN_int, isN_list, isN_bool, List.map_cons, List.map_nil, List.length_cons, List.length_nil, List.cons_append, List.nil_append, List.getElem?_cons_zero, List.getElem?_cons_succ, List.set_cons_zero, List.set_cons_succ, Option.map_some, Option.map_none, Option.some.injEq, SV.d.injEq, SV.own.injEq, PyData.int.injEq, PyData.bool.injEq, PyData.tuple.injEq, PyData.list.injEq, PyData.str.injEq, List.cons.injEq, exists_eq_left, exists_eq_left', exists_eq_right, exists_and_left, exists_and_right, exists_const, and_true, true_and, if_true, if_false, reduceCtorEq, false_or, or_false, false_and, and_false, Bool.not_true, Bool.not_false, Bool.false_eq_true, ite_true, ite_false, reduceIte, Bool.true_eq_false, Nat.reduceAdd, nc0, nc1, nc2, nc3, nc4, nc5, nc6, nc7, nc8, Int.reduceBEq, beq_self_eq_true, Bool.and_true, Bool.true_and, Bool.and_false, Bool.false_and, Nat.zero_add, isi_tuple]; exact h
    | bool _ => simp only [t_are_counts, sSeq, sNext, sExpr, sRet, sIf, sSet, sSetF, sAsg, sPar, sRaise, sFor, sApp, sExt, sPop, sItem, sAugI, sAug, sFrz, sMove, sBreak, sCont, gN, gT, gsNil, gsCons, dVar, vS_d, vS_own, vS_town, vS_v, vS_scr, fz_scr, dC, dOp, dCall, dCallK, daNil, daCons, dTup, dLst, dSl, doNone, doSome, dIf, dAnd, dOr, dNot, dNeg, dOne, dTwoI, dChain, dLc, bVal, bTru, bScr, dLenS, dIxS, dCount, dRest, sCount, sRest, bNot, bAnd, bOr, bYes, wInt2, wIntC, wAdd, wMul, wIx, wIn, wEqD, wIsN, oLen, oTuple, oList, oAll, oSum, oIsi, iSeq, iRng1D, iRng2D, iEnumD, iZipD, fz_d, fz_own, fz_town, fz_v, fz_abs, asDs, fzB, wipeD, asD_d, asD_own, asD_bor, asL_list, asL_tuple, asL_own, asL_bor, asL_int, asL_bool, asL_none, asS_list, asS_tuple, asS_own, asS_bor, tru_bool, tru_int, tru_none, tru_tuple, tru_list, tru_own, tru_bor, stO_d, stO_own, stO_town, stO_v, stO_abs, rtS_d, rtS_own, rtS_bor, rtS_v, rtS_abs, isN_none, isN_tuple, isN_int, isN_list, isN_bool, List.map_cons, List.map_nil, List.length_cons, List.length_nil, List.cons_append, List.nil_append, List.getElem?_cons_zero, List.getElem?_cons_succ, List.set_cons_zero, List.set_cons_succ, Option.map_some, Option.map_none, Option.some.injEq, SV.d.injEq, SV.own.injEq, PyData.int.injEq, PyData.bool.injEq, PyData.tuple.injEq, PyData.list.injEq, PyData.str.injEq, List.cons.injEq, exists_eq_left, exists_eq_left', exists_eq_right, exists_and_left, exists_and_right, exists_const, and_true, true_and, if_true, if_false, reduceCtorEq, false_or, or_false, false_and, and_false, Bool.not_true, Bool.not_false, Bool.false_eq_true, ite_true, ite_false, reduceIte, Bool.true_eq_false, Nat.reduceAdd, nc0, nc1, nc2, nc3, nc4, nc5, nc6, nc7, nc8, Int.reduceBEq, beq_self_eq_true, Bool.and_true, Bool.true_and, Bool.and_false, Bool.false_and, Nat.zero_add, isi_tuple]; exact h
    | int _ => simp only [t_are_counts, sSeq, sNext, sExpr, sRet, sIf, sSet, sSetF, sAsg, sPar, sRaise, sFor, sApp, sExt, sPop, sItem, sAugI, sAug, sFrz, sMove, sBreak, sCont, gN, gT, gsNil, gsCons, dVar, vS_d, vS_own, vS_town, vS_v, vS_scr, fz_scr, dC, dOp, dCall, dCallK, daNil, daCons, dTup, dLst, dSl, doNone, doSome, dIf, dAnd, dOr, dNot, dNeg, dOne, dTwoI, dChain, dLc, bVal, bTru, bScr, dLenS, dIxS, dCount, dRest, sCount, sRest, bNot, bAnd, bOr, bYes, wInt2, wIntC, wAdd, wMul, wIx, wIn, wEqD, wIsN, oLen, oTuple, oList, oAll, oSum, oIsi, iSeq, iRng1D, iRng2D, iEnumD, iZipD, fz_d, fz_own, fz_town, fz_v, fz_abs, asDs, fzB, wipeD, asD_d, asD_own, asD_bor, asL_list, asL_tuple, asL_own, asL_bor, asL_int, asL_bool, asL_none, asS_list, asS_tuple, asS_own, asS_bor, tru_bool, tru_int, tru_none, tru_tuple, tru_list, tru_own, tru_bor, stO_d, stO_own, stO_town, stO_v, stO_abs, rtS_d, rtS_own, rtS_bor, rtS_v, rtS_abs, isN_none, isN_tuple, isN_int, isN_list, isN_bool, List.map_cons, List.map_nil, List.length_cons, List.length_nil, List.cons_append, List.nil_append, List.getElem?_cons_zero, List.getElem?_cons_succ, List.set_cons_zero, List.set_cons_succ, Option.map_some, Option.map_none, Option.some.injEq, SV.d.injEq, SV.own.injEq, PyData.int.injEq, PyData.bool.injEq, PyData.tuple.injEq, PyData.list.injEq, PyData.str.injEq, List.cons.injEq, exists_eq_left, exists_eq_left', exists_eq_right, exists_and_left, exists_and_right, exists_const, and_true, true_and, if_true, if_false, reduceCtorEq, false_or, or_false, false_and, and_false, Bool.not_true, Bool.not_false, Bool.false_eq_true, ite_true, ite_false, reduceIte, Bool.true_eq_false, Nat.reduceAdd, nc0, nc1, nc2, nc3, nc4, nc5, nc6, nc7, nc8, Int.reduceBEq, beq_self_eq_true, Bool.and_true, Bool.true_and, Bool.and_false, Bool.false_and, Nat.zero_add, isi_tuple]; exact h
    | str _ => simp only [t_are_counts, sSeq, sNext, sExpr, sRet, sIf, sSet, sSetF, sAsg, sPar, sRaise, sFor, sApp, sExt, sPop, sItem, sAugI, sAug, sFrz, sMove, sBreak, sCont, gN, gT, gsNil, gsCons, dVar, vS_d, vS_own, vS_town, vS_v, vS_scr, fz_scr, dC, dOp, dCall, dCallK, daNil, daCons, dTup, dLst, dSl, doNone, doSome, dIf, dAnd, dOr, dNot, dNeg, dOne, dTwoI, dChain, dLc, bVal, bTru, bScr, dLenS, dIxS, dCount, dRest, sCount, sRest, bNot, bAnd, bOr, bYes, wInt2, wIntC, wAdd, wMul, wIx, wIn, wEqD, wIsN, oLen, oTuple, oList, oAll, oSum, oIsi, iSeq, iRng1D, iRng2D, iEnumD, iZipD, fz_d, fz_own, fz_town, fz_v, fz_abs, asDs, fzB, wipeD, asD_d, asD_own, asD_bor, asL_list, asL_tuple, asL_own, asL_bor, asL_int, asL_bool, asL_none, asS_list, asS_tuple, asS_own, asS_bor, tru_bool, tru_int, tru_none, tru_tuple, tru_list, tru_own, tru_bor, stO_d, stO_own, stO_town, stO_v, stO_abs, rtS_d, rtS_own, rtS_bor, rtS_v, rtS_abs, isN_none, isN_tuple, isN_int, isN_list, isN_bool, List.map_cons, List.map_nil, List.length_cons, List.length_nil, List.cons_append, List.nil_append, List.getElem?_cons_zero, List.getElem?_cons_succ, List.set_cons_zero, List.set_cons_succ, Option.map_some, Option.map_none, Option.some.injEq, SV.d.injEq, SV.own.injEq, PyData.int.injEq, PyData.bool.injEq, PyData.tuple.injEq, PyData.list.injEq, PyData.str.injEq, List.cons.injEq, exists_eq_left, exists_eq_left', exists_eq_right, exists_and_left, exists_and_right, exists_const, and_true, true_and, if_true, if_false, reduceCtorEq, false_or, or_false, false_and, and_false, Bool.not_true, Bool.not_false, Bool.false_eq_true, ite_true, ite_false, reduceIte, Bool.true_eq_false, Nat.reduceAdd, nc0, nc1, nc2, nc3, nc4, nc5, nc6, nc7, nc8, Int.reduceBEq, beq_self_eq_true, Bool.and_true, Bool.true_and, Bool.and_false, Bool.false_and, Nat.zero_add, isi_tuple]; exact h
    | list _ => simp only [t_are_counts, sSeq, sNext, sExpr, sRet, sIf, sSet, sSetF, sAsg, sPar, sRaise, sFor, sApp, sExt, sPop, sItem, sAugI, sAug, sFrz, sMove, sBreak, sCont, gN, gT, gsNil, gsCons, dVar, vS_d, vS_own, vS_town, vS_v, vS_scr, fz_scr, dC, dOp, dCall, dCallK, daNil, daCons, dTup, dLst, dSl, doNone, doSome, dIf, dAnd, dOr, dNot, dNeg, dOne, dTwoI, dChain, dLc, bVal, bTru, bScr, dLenS, dIxS, dCount, dRest, sCount, sRest, bNot, bAnd, bOr, bYes, wInt2, wIntC, wAdd, wMul, wIx, wIn, wEqD, wIsN, oLen, oTuple, oList, oAll, oSum, oIsi, iSeq, iRng1D, iRng2D, iEnumD, iZipD, fz_d, fz_own, fz_town, fz_v, fz_abs, asDs, fzB, wipeD, asD_d, asD_own, asD_bor, asL_list, asL_tuple, asL_own, asL_bor, asL_int, asL_bool, asL_none, asS_list, asS_tuple, asS_own, asS_bor, tru_bool, tru_int, tru_none, tru_tuple, tru_list, tru_own, tru_bor, stO_d, stO_own, stO_town, stO_v, stO_abs, rtS_d, rtS_own, rtS_bor, rtS_v, rtS_abs, isN_none, isN_tuple, isN_int, isN_list, isN_bool, List.map_cons, List.map_nil, List.length_cons, List.length_nil, List.cons_append, List.nil_append, List.getElem?_cons_zero, List.getElem?_cons_succ, List.set_cons_zero, List.set_cons_succ, Option.map_some, Option.map_none, Option.some.injEq, SV.d.injEq, SV.own.injEq, PyData.int.injEq, PyData.bool.injEq, PyData.tuple.injEq, PyData.list.injEq, PyData.str.injEq, List.cons.injEq, exists_eq_left, exists_eq_left', exists_eq_right, exists_and_left, exists_and_right, exists_const, and_true, true_and, if_true, if_false, reduceCtorEq, false_or, or_false, false_and, and_false, Bool.not_true, Bool.not_false, Bool.false_eq_true, ite_true, ite_false, reduceIte, Bool.true_eq_false, Nat.reduceAdd, nc0, nc1, nc2, nc3, nc4, nc5, nc6, nc7, nc8, Int.reduceBEq, beq_self_eq_true, Bool.and_true, Bool.true_and, Bool.and_false, Bool.false_and, Nat.zero_add, isi_tuple]; exact h
    | dict _ => simp only [t_are_counts, sSeq, sNext, sExpr, sRet, sIf, sSet, sSetF, sAsg, sPar, sRaise, sFor, sApp, sExt, sPop, sItem, sAugI, sAug, sFrz, sMove, sBreak, sCont, gN, gT, gsNil, gsCons, dVar, vS_d, vS_own, vS_town, vS_v, vS_scr, fz_scr, dC, dOp, dCall, dCallK, daNil, daCons, dTup, dLst, dSl, doNone, doSome, dIf, dAnd, dOr, dNot, dNeg, dOne, dTwoI, dChain, dLc, bVal, bTru, bScr, dLenS, dIxS, dCount, dRest, sCount, sRest, bNot, bAnd, bOr, bYes, wInt2, wIntC, wAdd, wMul, wIx, wIn, wEqD, wIsN, oLen, oTuple, oList, oAll, oSum, oIsi, iSeq, iRng1D, iRng2D, iEnumD, iZipD, fz_d, fz_own, fz_town, fz_v, fz_abs, asDs, fzB, wipeD, asD_d, asD_own, asD_bor, asL_list, asL_tuple, asL_own, asL_bor, asL_int, asL_bool, asL_none, asS_list, asS_tuple, asS_own, asS_bor, tru_bool, tru_int, tru_none, tru_tuple, tru_list, tru_own, tru_bor, stO_d, stO_own, stO_town, stO_v, stO_abs, rtS_d, rtS_own, rtS_bor, rtS_v, rtS_abs, isN_none, isN_tuple, isN_int, isN_list, isN_bool, List.map_cons, List.map_nil, List.length_cons, List.length_nil, List.cons_append, List.nil_append, List.getElem?_cons_zero, List.getElem?_cons_succ, List.set_cons_zero, List.set_cons_succ, Option.map_some, Option.map_none, Option.some.injEq, SV.d.injEq, SV.own.injEq, PyData.int.injEq, PyData.bool.injEq, PyData.tuple.injEq, PyData.list.injEq, PyData.str.injEq, List.cons.injEq, exists_eq_left, exists_eq_left', exists_eq_right, exists_and_left, exists_and_right, exists_const, and_true, true_and, if_true, if_false, reduceCtorEq, false_or, or_false, false_and, and_false, Bool.not_true, Bool.not_false, Bool.false_eq_true, ite_true, ite_false, reduceIte, Bool.true_eq_false, Nat.reduceAdd, nc0, nc1, nc2, nc3, nc4, nc5, nc6, nc7, nc8, Int.reduceBEq, beq_self_eq_true, Bool.and_true, Bool.true_and, Bool.and_false, Bool.false_and, Nat.zero_add, isi_tuple]; exact h
  · exact h.elim
theorem counts_ints {many : Int} {v : PyData} (h : areCounts many v = true) : ∃ ns : List Nat, v = .tuple (ns.map fun n : Nat => .int (n : Int)) ∧ (ns.length : Int) = many := by
  cases v with
  | tuple xs =>
    unfold areCounts at h
    rw [Bool.and_eq_true, decide_eq_true_eq] at h
    obtain ⟨h1, h2⟩ := h
    have key : ∀ xs : List PyData, xs.all isCount = true → ∃ ns : List Nat, xs = ns.map fun n : Nat => .int (n : Int) := by
      intro xs
      induction xs with
      | nil => exact fun _ => ⟨[], rfl⟩
      | cons x xs ih =>
        intro h
        rw [List.all_cons, Bool.and_eq_true] at h
        obtain ⟨ns, rfl⟩ := ih h.2
        cases x with
        | int i =>
          have hi : 0 ≤ i := of_decide_eq_true h.1
          refine ⟨i.toNat :: ns, ?_⟩
          rw [List.map_cons, Int.toNat_of_nonneg hi]
        | none => cases h.1
        | bool _ => cases h.1
        | str _ => cases h.1
        | list _ => cases h.1
        | tuple _ => cases h.1
        | dict _ => cases h.1
    obtain ⟨ns, rfl⟩ := key xs h2
    exact ⟨ns, rfl, by rw [List.length_map] at h1; exact h1⟩
  | none => cases h
  | bool _ => cases h
  | int _ => cases h
  | str _ => cases h
  | list _ => cases h
  | dict _ => cases h
theorem nats_ints (ns : List Nat) : (ns.map fun n : Nat => PyData.int (n : Int)) = (ns.map fun n : Nat => (n : Int)).map .int := by simp
theorem nats_sum (ns : List Nat) : (ns.map fun n : Nat => (n : Int)).sum = (ns.sum : Int) := by
  induction ns with
  | nil => rfl
  | cons n ns ih => rw [List.map_cons, List.sum_cons, List.sum_cons, ih, Int.natCast_add]
/-- the sum of the ints of a tuple -/
def sumD : PyData → Int
  | .tuple xs => (intsOf xs).sum
  | _ => 0
def isConf (many : Int) (v : PyData) : Bool := areCounts many v && (decide (1 ≤ sumD v) && decide (sumD v ≤ 8))
def sp_is_configuration_of (c : Ct) : Spec := fun ss Q _ => match ss with
  | [.d (.tuple (.int many :: _)), .d v] => Q (.d (.bool (isConf many v)))
  | _ => False
theorem at_is_configuration_of {c : Ct} {v : PyData} {many : Int} {r : List PyData} {Q : SV → Prop} {Ex : XP} : sp_is_configuration_of c [.d (.tuple (.int many :: r)), .d v] Q Ex = Q (.d (.bool (isConf many v))) := rfl
def t_is_configuration_of (c : Ct) : DS :=
  (sRet (dAnd (dCall (sp_are_counts c) (daCons (dVar 0) (daCons (dVar 1) daNil))) (dChain (wInt2 fun i j => .bool (decide (i ≤ j))) (wInt2 fun i j => .bool (decide (i ≤ j))) (dC (.d (.int 1))) (dOne oSum (dVar 1)) (dC (.d (.int 8))))))
theorem sumD_ints (ns : List Int) : sumD (.tuple (ns.map .int)) = ns.sum := by
  show (intsOf (ns.map .int)).sum = _
  rw [intsOf_map]
theorem rd_is_configuration_of (c : Ct) (ss : List SV) (Q : SV → Prop) (Ex : XP) (h : sp_is_configuration_of c ss Q Ex) : t_is_configuration_of c { nx := fun _ => Q (.d .none), rt := Q } (startD 2 ss) Ex := by
  unfold sp_is_configuration_of at h
  split at h
  · rename_i many r v
    show t_is_configuration_of c _ [some (.d (.tuple (.int many :: r))), some (.d v)] Ex
    simp only [t_is_configuration_of, sSeq, sNext, sExpr, sRet, sIf, sSet, sSetF, sAsg, sPar, sRaise, sFor, sApp, sExt, sPop, sItem, sAugI, sAug, sFrz, sMove, sBreak, sCont, gN, gT, gsNil, gsCons, dVar, vS_d, vS_own, vS_town, vS_v, vS_scr, fz_scr, dC, dOp, dCall, dCallK, daNil, daCons, dTup, dLst, dSl, doNone, doSome, dIf, dAnd, dOr, dNot, dNeg, dOne, dTwoI, dChain, dLc, bVal, bTru, bScr, dLenS, dIxS, dCount, dRest, sCount, sRest, bNot, bAnd, bOr, bYes, wInt2, wIntC, wAdd, wMul, wIx, wIn, wEqD, wIsN, oLen, oTuple, oList, oAll, oSum, oIsi, iSeq, iRng1D, iRng2D, iEnumD, iZipD, fz_d, fz_own, fz_town, fz_v, fz_abs, asDs, fzB, wipeD, asD_d, asD_own, asD_bor, asL_list, asL_tuple, asL_own, asL_bor, asL_int, asL_bool, asL_none, asS_list, asS_tuple, asS_own, asS_bor, tru_bool, tru_int, tru_none, tru_tuple, tru_list, tru_own, tru_bor, stO_d, stO_own, stO_town, stO_v, stO_abs, rtS_d, rtS_own, rtS_bor, rtS_v, rtS_abs, isN_none, isN_tuple, isN_int, isN_list, isN_bool, List.map_cons, List.map_nil, List.length_cons, List.length_nil, List.cons_append, List.nil_append, List.getElem?_cons_zero, List.getElem?_cons_succ, List.set_cons_zero, List.set_cons_succ, Option.map_some, Option.map_none, Option.some.injEq, SV.d.injEq, SV.own.injEq, PyData.int.injEq, PyData.bool.injEq, PyData.tuple.injEq, PyData.list.injEq, PyData.str.injEq, List.cons.injEq, exists_eq_left, exists_eq_left', exists_eq_right, exists_and_left, exists_and_right, exists_const, and_true, true_and, if_true, if_false, reduceCtorEq, false_or, or_false, false_and, and_false, Bool.not_true, Bool.not_false, Bool.false_eq_true, ite_true, ite_false, reduceIte, Bool.true_eq_false, Nat.reduceAdd, nc0, nc1, nc2, nc3, nc4, nc5, nc6, nc7, nc8, Int.reduceBEq, beq_self_eq_true, Bool.and_true, Bool.true_and, Bool.and_false, Bool.false_and, Nat.zero_add, at_are_counts]
    unfold isConf at h
    cases h1 : areCounts many v with
    | false =>
      simp only [h1, List.map_cons, List.map_nil, List.length_cons, List.length_nil, List.cons_append, List.nil_append, List.getElem?_cons_zero, List.getElem?_cons_succ, List.set_cons_zero, List.set_cons_succ, Option.map_some, Option.map_none, Option.some.injEq, SV.d.injEq, SV.own.injEq, PyData.int.injEq, PyData.bool.injEq, PyData.tuple.injEq, PyData.list.injEq, PyData.str.injEq, List.cons.injEq, exists_eq_left, exists_eq_left', exists_eq_right, exists_and_left, exists_and_right, exists_const, and_true, true_and, if_true, if_false, reduceCtorEq, false_or, or_false, false_and, and_false, Bool.not_true, Bool.not_false, Bool.false_eq_true, ite_true, ite_false, reduceIte, Bool.true_eq_false, Nat.reduceAdd, nc0, nc1, nc2, nc3, nc4, nc5, nc6, nc7, nc8, Int.reduceBEq, beq_self_eq_true, Bool.and_true, Bool.true_and, Bool.and_false, Bool.false_and, Nat.zero_add] at h ⊢
      exact h
    | true =>
      obtain ⟨ns, rfl, _⟩ := counts_ints h1
      simp only [h1, List.map_cons, List.map_nil, List.length_cons, List.length_nil, List.cons_append, List.nil_append, List.getElem?_cons_zero, List.getElem?_cons_succ, List.set_cons_zero, List.set_cons_succ, Option.map_some, Option.map_none, Option.some.injEq, SV.d.injEq, SV.own.injEq, PyData.int.injEq, PyData.bool.injEq, PyData.tuple.injEq, PyData.list.injEq, PyData.str.injEq, List.cons.injEq, exists_eq_left, exists_eq_left', exists_eq_right, exists_and_left, exists_and_right, exists_const, and_true, true_and, if_true, if_false, reduceCtorEq, false_or, or_false, false_and, and_false, Bool.not_true, Bool.not_false, Bool.false_eq_true, ite_true, ite_false, reduceIte, Bool.true_eq_false, Nat.reduceAdd, nc0, nc1, nc2, nc3, nc4, nc5, nc6, nc7, nc8, Int.reduceBEq, beq_self_eq_true, Bool.and_true, Bool.true_and, Bool.and_false, Bool.false_and, Nat.zero_add] at h ⊢
      rw [nats_ints] at h ⊢
      rw [sumD_ints] at h
      simp only [sSeq, sNext, sExpr, sRet, sIf, sSet, sSetF, sAsg, sPar, sRaise, sFor, sApp, sExt, sPop, sItem, sAugI, sAug, sFrz, sMove, sBreak, sCont, gN, gT, gsNil, gsCons, dVar, vS_d, vS_own, vS_town, vS_v, vS_scr, fz_scr, dC, dOp, dCall, dCallK, daNil, daCons, dTup, dLst, dSl, doNone, doSome, dIf, dAnd, dOr, dNot, dNeg, dOne, dTwoI, dChain, dLc, bVal, bTru, bScr, dLenS, dIxS, dCount, dRest, sCount, sRest, bNot, bAnd, bOr, bYes, wInt2, wIntC, wAdd, wMul, wIx, wIn, wEqD, wIsN, oLen, oTuple, oList, oAll, oSum, oIsi, iSeq, iRng1D, iRng2D, iEnumD, iZipD, fz_d, fz_own, fz_town, fz_v, fz_abs, asDs, fzB, wipeD, asD_d, asD_own, asD_bor, asL_list, asL_tuple, asL_own, asL_bor, asL_int, asL_bool, asL_none, asS_list, asS_tuple, asS_own, asS_bor, tru_bool, tru_int, tru_none, tru_tuple, tru_list, tru_own, tru_bor, stO_d, stO_own, stO_town, stO_v, stO_abs, rtS_d, rtS_own, rtS_bor, rtS_v, rtS_abs, isN_none, isN_tuple, isN_int, isN_list, isN_bool, List.map_cons, List.map_nil, List.length_cons, List.length_nil, List.cons_append, List.nil_append, List.getElem?_cons_zero, List.getElem?_cons_succ, List.set_cons_zero, List.set_cons_succ, Option.map_some, Option.map_none, Option.some.injEq, SV.d.injEq, SV.own.injEq, PyData.int.injEq, PyData.bool.injEq, PyData.tuple.injEq, PyData.list.injEq, PyData.str.injEq, List.cons.injEq, exists_eq_left, exists_eq_left', exists_eq_right, exists_and_left, exists_and_right, exists_const, and_true, true_and, if_true, if_false, reduceCtorEq, false_or, or_false, false_and, and_false, Bool.not_true, Bool.not_false, Bool.false_eq_true, ite_true, ite_false, reduceIte, Bool.true_eq_false, Nat.reduceAdd, nc0, nc1, nc2, nc3, nc4, nc5, nc6, nc7, nc8, Int.reduceBEq, beq_self_eq_true, Bool.and_true, Bool.true_and, Bool.and_false, Bool.false_and, Nat.zero_add]
      refine ⟨_, rfl, ?_⟩
      by_cases h2 : 1 ≤ (ns.map fun n : Nat => (n : Int)).sum
      · simp only [h2, decide_true, List.map_cons, List.map_nil, List.length_cons, List.length_nil, List.cons_append, List.nil_append, List.getElem?_cons_zero, List.getElem?_cons_succ, List.set_cons_zero, List.set_cons_succ, Option.map_some, Option.map_none, Option.some.injEq, SV.d.injEq, SV.own.injEq, PyData.int.injEq, PyData.bool.injEq, PyData.tuple.injEq, PyData.list.injEq, PyData.str.injEq, List.cons.injEq, exists_eq_left, exists_eq_left', exists_eq_right, exists_and_left, exists_and_right, exists_const, and_true, true_and, if_true, if_false, reduceCtorEq, false_or, or_false, false_and, and_false, Bool.not_true, Bool.not_false, Bool.false_eq_true, ite_true, ite_false, reduceIte, Bool.true_eq_false, Nat.reduceAdd, nc0, nc1, nc2, nc3, nc4, nc5, nc6, nc7, nc8, Int.reduceBEq, beq_self_eq_true, Bool.and_true, Bool.true_and, Bool.and_false, Bool.false_and, Nat.zero_add] at h ⊢
        exact h
      · simp only [h2, decide_false, List.map_cons, List.map_nil, List.length_cons, List.length_nil, List.cons_append, List.nil_append, List.getElem?_cons_zero, List.getElem?_cons_succ, List.set_cons_zero, List.set_cons_succ, Option.map_some, Option.map_none, Option.some.injEq, SV.d.injEq, SV.own.injEq, PyData.int.injEq, PyData.bool.injEq, PyData.tuple.injEq, PyData.list.injEq, PyData.str.injEq, List.cons.injEq, exists_eq_left, exists_eq_left', exists_eq_right, exists_and_left, exists_and_right, exists_const, and_true, true_and, if_true, if_false, reduceCtorEq, false_or, or_false, false_and, and_false, Bool.not_true, Bool.not_false, Bool.false_eq_true, ite_true, ite_false, reduceIte, Bool.true_eq_false, Nat.reduceAdd, nc0, nc1, nc2, nc3, nc4, nc5, nc6, nc7, nc8, Int.reduceBEq, beq_self_eq_true, Bool.and_true, Bool.true_and, Bool.and_false, Bool.false_and, Nat.zero_add] at h ⊢
        exact h
  · exact h.elim
end DL
/-! Fb: configurations, patterns, logs: readings, specifications. -/
namespace DL
open PySem PySem.Spec PyProof.Rows L2
/-- a protocol's data -/
def isP (v : PyData) : Prop := isProtocol v = true
theorem isP_shape {v : PyData} (h : isProtocol v = true) : ∃ many rules, v = .tuple [.int many, .tuple rules] ∧ 2 ≤ many ∧ many ≤ 5 ∧ rules.length ≤ 8 ∧ ∀ r ∈ rules, isRule many r = true := by
  unfold isProtocol at h
  split at h
  · rename_i m rules
    split at h
    · rename_i k
      simp only [Bool.and_eq_true, decide_eq_true_eq, List.all_eq_true] at h
      exact ⟨k, rules, rfl, h.1.1, h.1.2, h.2.1, h.2.2⟩
    · cases h
  · cases h
def sp_is_configuration (c : Ct) : Spec := fun ss Q Ex => match ss with
  | [.d p, .d v] => if isProtocol p = true then Q (.d (.bool (isConf (match p with | .tuple (.int m :: _) => m | _ => 0) v))) else Ex (.ref (c.cls "InvalidProtocol"))
  | _ => False
def t_is_configuration (c : Ct) : DS :=
  (sSeq (sExpr (dCall (sp_check_protocol c) (daCons (dVar 0) daNil)))
  (sRet (dCall (sp_is_configuration_of c) (daCons (dVar 0) (daCons (dVar 1) daNil)))))
theorem rd_is_configuration (c : Ct) (ss : List SV) (Q : SV → Prop) (Ex : XP) (h : sp_is_configuration c ss Q Ex) : t_is_configuration c { nx := fun _ => Q (.d .none), rt := Q } (startD 2 ss) Ex := by
  unfold sp_is_configuration at h
  split at h
  · rename_i p v
    show t_is_configuration c _ [some (.d p), some (.d v)] Ex
    simp only [t_is_configuration, sSeq, sNext, sExpr, sRet, sIf, sSet, sSetF, sAsg, sPar, sRaise, sFor, sApp, sExt, sPop, sItem, sAugI, sAug, sFrz, sMove, sBreak, sCont, gN, gT, gsNil, gsCons, dVar, vS_d, vS_own, vS_town, vS_v, vS_scr, fz_scr, dC, dOp, dCall, dCallK, daNil, daCons, dTup, dLst, dSl, doNone, doSome, dIf, dAnd, dOr, dNot, dNeg, dOne, dTwoI, dChain, dLc, bVal, bTru, bScr, dLenS, dIxS, dCount, dRest, sCount, sRest, bNot, bAnd, bOr, bYes, wInt2, wIntC, wAdd, wMul, wIx, wIn, wEqD, wIsN, oLen, oTuple, oList, oAll, oSum, oIsi, iSeq, iRng1D, iRng2D, iEnumD, iZipD, fz_d, fz_own, fz_town, fz_v, fz_abs, asDs, fzB, wipeD, asD_d, asD_own, asD_bor, asL_list, asL_tuple, asL_own, asL_bor, asL_int, asL_bool, asL_none, asS_list, asS_tuple, asS_own, asS_bor, tru_bool, tru_int, tru_none, tru_tuple, tru_list, tru_own, tru_bor, stO_d, stO_own, stO_town, stO_v, stO_abs, rtS_d, rtS_own, rtS_bor, rtS_v, rtS_abs, isN_none, isN_tuple, isN_int, isN_list, isN_bool, List.map_cons, List.map_nil, List.length_cons, List.length_nil, List.cons_append, List.nil_append, List.getElem?_cons_zero, List.getElem?_cons_succ, List.set_cons_zero, List.set_cons_succ, Option.map_some, Option.map_none, Option.some.injEq, SV.d.injEq, SV.own.injEq, PyData.int.injEq, PyData.bool.injEq, PyData.tuple.injEq, PyData.list.injEq, PyData.str.injEq, List.cons.injEq, exists_eq_left, exists_eq_left', exists_eq_right, exists_and_left, exists_and_right, exists_const, and_true, true_and, if_true, if_false, reduceCtorEq, false_or, or_false, false_and, and_false, Bool.not_true, Bool.not_false, Bool.false_eq_true, ite_true, ite_false, reduceIte, Bool.true_eq_false, Nat.reduceAdd, nc0, nc1, nc2, nc3, nc4, nc5, nc6, nc7, nc8, Int.reduceBEq, beq_self_eq_true, Bool.and_true, Bool.true_and, Bool.and_false, Bool.false_and, Nat.zero_add, at_check_protocol]
    cases e : isProtocol p with
    | false =>
      simp only [e, List.map_cons, List.map_nil, List.length_cons, List.length_nil, List.cons_append, List.nil_append, List.getElem?_cons_zero, List.getElem?_cons_succ, List.set_cons_zero, List.set_cons_succ, Option.map_some, Option.map_none, Option.some.injEq, SV.d.injEq, SV.own.injEq, PyData.int.injEq, PyData.bool.injEq, PyData.tuple.injEq, PyData.list.injEq, PyData.str.injEq, List.cons.injEq, exists_eq_left, exists_eq_left', exists_eq_right, exists_and_left, exists_and_right, exists_const, and_true, true_and, if_true, if_false, reduceCtorEq, false_or, or_false, false_and, and_false, Bool.not_true, Bool.not_false, Bool.false_eq_true, ite_true, ite_false, reduceIte, Bool.true_eq_false, Nat.reduceAdd, nc0, nc1, nc2, nc3, nc4, nc5, nc6, nc7, nc8, Int.reduceBEq, beq_self_eq_true, Bool.and_true, Bool.true_and, Bool.and_false, Bool.false_and, Nat.zero_add] at h ⊢
      exact h
    | true =>
      obtain ⟨many, rules, rfl, _⟩ := isP_shape e
      simp only [e, List.map_cons, List.map_nil, List.length_cons, List.length_nil, List.cons_append, List.nil_append, List.getElem?_cons_zero, List.getElem?_cons_succ, List.set_cons_zero, List.set_cons_succ, Option.map_some, Option.map_none, Option.some.injEq, SV.d.injEq, SV.own.injEq, PyData.int.injEq, PyData.bool.injEq, PyData.tuple.injEq, PyData.list.injEq, PyData.str.injEq, List.cons.injEq, exists_eq_left, exists_eq_left', exists_eq_right, exists_and_left, exists_and_right, exists_const, and_true, true_and, if_true, if_false, reduceCtorEq, false_or, or_false, false_and, and_false, Bool.not_true, Bool.not_false, Bool.false_eq_true, ite_true, ite_false, reduceIte, Bool.true_eq_false, Nat.reduceAdd, nc0, nc1, nc2, nc3, nc4, nc5, nc6, nc7, nc8, Int.reduceBEq, beq_self_eq_true, Bool.and_true, Bool.true_and, Bool.and_false, Bool.false_and, Nat.zero_add, at_is_configuration_of] at h ⊢
      exact h
  · exact h.elim
theorem at_is_configuration {c : Ct} {many : Int} {r : List PyData} {v : PyData} {Q : SV → Prop} {Ex : XP} (h : isProtocol (.tuple (.int many :: r)) = true) : sp_is_configuration c [.d (.tuple (.int many :: r)), .d v] Q Ex = Q (.d (.bool (isConf many v))) := by
  show (if isProtocol (.tuple (.int many :: r)) = true then _ else _) = _
  rw [if_pos h]
/-! ### patterns -/
def isPat (many : Int) (v : PyData) : Bool := areCounts many v && ((match v with | .tuple (x :: _) => PyData.eqv x (.int 0) | _ => false) && (decide (1 ≤ sumD v) && decide (sumD v ≤ 4)))
def sp_is_pattern_of (c : Ct) : Spec := fun ss Q _ => match ss with
  | [.d (.tuple (.int many :: _)), .d v] => 2 ≤ many ∧ Q (.d (.bool (isPat many v)))
  | _ => False
theorem at_is_pattern_of {c : Ct} {v : PyData} {many : Int} {r : List PyData} {Q : SV → Prop} {Ex : XP} : sp_is_pattern_of c [.d (.tuple (.int many :: r)), .d v] Q Ex = (2 ≤ many ∧ Q (.d (.bool (isPat many v)))) := rfl
def t_is_pattern_of (c : Ct) : DS :=
  (sRet (dAnd (dCall (sp_are_counts c) (daCons (dVar 0) (daCons (dVar 1) daNil))) (dAnd (dOp (wEqD fun b => b) (dOp wIx (dVar 1) (dC (.d (.int 0)))) (dC (.d (.int 0)))) (dChain (wInt2 fun i j => .bool (decide (i ≤ j))) (wInt2 fun i j => .bool (decide (i ≤ j))) (dC (.d (.int 1))) (dOne oSum (dVar 1)) (dC (.d (.int 4)))))))
theorem rd_is_pattern_of (c : Ct) (ss : List SV) (Q : SV → Prop) (Ex : XP) (h : sp_is_pattern_of c ss Q Ex) : t_is_pattern_of c { nx := fun _ => Q (.d .none), rt := Q } (startD 2 ss) Ex := by
  unfold sp_is_pattern_of at h
  split at h
  · rename_i many r v
    obtain ⟨hm, h⟩ := h
    show t_is_pattern_of c _ [some (.d (.tuple (.int many :: r))), some (.d v)] Ex
    simp only [t_is_pattern_of, sSeq, sNext, sExpr, sRet, sIf, sSet, sSetF, sAsg, sPar, sRaise, sFor, sApp, sExt, sPop, sItem, sAugI, sAug, sFrz, sMove, sBreak, sCont, gN, gT, gsNil, gsCons, dVar, vS_d, vS_own, vS_town, vS_v, vS_scr, fz_scr, dC, dOp, dCall, dCallK, daNil, daCons, dTup, dLst, dSl, doNone, doSome, dIf, dAnd, dOr, dNot, dNeg, dOne, dTwoI, dChain, dLc, bVal, bTru, bScr, dLenS, dIxS, dCount, dRest, sCount, sRest, bNot, bAnd, bOr, bYes, wInt2, wIntC, wAdd, wMul, wIx, wIn, wEqD, wIsN, oLen, oTuple, oList, oAll, oSum, oIsi, iSeq, iRng1D, iRng2D, iEnumD, iZipD, fz_d, fz_own, fz_town, fz_v, fz_abs, asDs, fzB, wipeD, asD_d, asD_own, asD_bor, asL_list, asL_tuple, asL_own, asL_bor, asL_int, asL_bool, asL_none, asS_list, asS_tuple, asS_own, asS_bor, tru_bool, tru_int, tru_none, tru_tuple, tru_list, tru_own, tru_bor, stO_d, stO_own, stO_town, stO_v, stO_abs, rtS_d, rtS_own, rtS_bor, rtS_v, rtS_abs, isN_none, isN_tuple, isN_int, isN_list, isN_bool, List.map_cons, List.map_nil, List.length_cons, List.length_nil, List.cons_append, List.nil_append, List.getElem?_cons_zero, List.getElem?_cons_succ, List.set_cons_zero, List.set_cons_succ, Option.map_some, Option.map_none, Option.some.injEq, SV.d.injEq, SV.own.injEq, PyData.int.injEq, PyData.bool.injEq, PyData.tuple.injEq, PyData.list.injEq, PyData.str.injEq, List.cons.injEq, exists_eq_left, exists_eq_left', exists_eq_right, exists_and_left, exists_and_right, exists_const, and_true, true_and, if_true, if_false, reduceCtorEq, false_or, or_false, false_and, and_false, Bool.not_true, Bool.not_false, Bool.false_eq_true, ite_true, ite_false, reduceIte, Bool.true_eq_false, Nat.reduceAdd, nc0, nc1, nc2, nc3, nc4, nc5, nc6, nc7, nc8, Int.reduceBEq, beq_self_eq_true, Bool.and_true, Bool.true_and, Bool.and_false, Bool.false_and, Nat.zero_add, at_are_counts]
    unfold isPat at h
    cases h1 : areCounts many v with
    | false =>
      simp only [h1, List.map_cons, List.map_nil, List.length_cons, List.length_nil, List.cons_append, List.nil_append, List.getElem?_cons_zero, List.getElem?_cons_succ, List.set_cons_zero, List.set_cons_succ, Option.map_some, Option.map_none, Option.some.injEq, SV.d.injEq, SV.own.injEq, PyData.int.injEq, PyData.bool.injEq, PyData.tuple.injEq, PyData.list.injEq, PyData.str.injEq, List.cons.injEq, exists_eq_left, exists_eq_left', exists_eq_right, exists_and_left, exists_and_right, exists_const, and_true, true_and, if_true, if_false, reduceCtorEq, false_or, or_false, false_and, and_false, Bool.not_true, Bool.not_false, Bool.false_eq_true, ite_true, ite_false, reduceIte, Bool.true_eq_false, Nat.reduceAdd, nc0, nc1, nc2, nc3, nc4, nc5, nc6, nc7, nc8, Int.reduceBEq, beq_self_eq_true, Bool.and_true, Bool.true_and, Bool.and_false, Bool.false_and, Nat.zero_add] at h ⊢
      exact h
    | true =>
      rw [h1] at h
      obtain ⟨ns, rfl, hl⟩ := counts_ints h1
      cases ns with
      | nil =>
        simp at hl
        omega
      | cons n ns =>
        simp only [h1, List.map_cons, List.map_nil, List.length_cons, List.length_nil, List.cons_append, List.nil_append, List.getElem?_cons_zero, List.getElem?_cons_succ, List.set_cons_zero, List.set_cons_succ, Option.map_some, Option.map_none, Option.some.injEq, SV.d.injEq, SV.own.injEq, PyData.int.injEq, PyData.bool.injEq, PyData.tuple.injEq, PyData.list.injEq, PyData.str.injEq, List.cons.injEq, exists_eq_left, exists_eq_left', exists_eq_right, exists_and_left, exists_and_right, exists_const, and_true, true_and, if_true, if_false, reduceCtorEq, false_or, or_false, false_and, and_false, Bool.not_true, Bool.not_false, Bool.false_eq_true, ite_true, ite_false, reduceIte, Bool.true_eq_false, Nat.reduceAdd, nc0, nc1, nc2, nc3, nc4, nc5, nc6, nc7, nc8, Int.reduceBEq, beq_self_eq_true, Bool.and_true, Bool.true_and, Bool.and_false, Bool.false_and, Nat.zero_add, sSeq, sNext, sExpr, sRet, sIf, sSet, sSetF, sAsg, sPar, sRaise, sFor, sApp, sExt, sPop, sItem, sAugI, sAug, sFrz, sMove, sBreak, sCont, gN, gT, gsNil, gsCons, dVar, vS_d, vS_own, vS_town, vS_v, vS_scr, fz_scr, dC, dOp, dCall, dCallK, daNil, daCons, dTup, dLst, dSl, doNone, doSome, dIf, dAnd, dOr, dNot, dNeg, dOne, dTwoI, dChain, dLc, bVal, bTru, bScr, dLenS, dIxS, dCount, dRest, sCount, sRest, bNot, bAnd, bOr, bYes, wInt2, wIntC, wAdd, wMul, wIx, wIn, wEqD, wIsN, oLen, oTuple, oList, oAll, oSum, oIsi, iSeq, iRng1D, iRng2D, iEnumD, iZipD, fz_d, fz_own, fz_town, fz_v, fz_abs, asDs, fzB, wipeD, asD_d, asD_own, asD_bor, asL_list, asL_tuple, asL_own, asL_bor, asL_int, asL_bool, asL_none, asS_list, asS_tuple, asS_own, asS_bor, tru_bool, tru_int, tru_none, tru_tuple, tru_list, tru_own, tru_bor, stO_d, stO_own, stO_town, stO_v, stO_abs, rtS_d, rtS_own, rtS_bor, rtS_v, rtS_abs, isN_none, isN_tuple, isN_int, isN_list, isN_bool, atI_0, sh_int, eqv_int] at h ⊢
        cases h2 : ((n : Int) == 0) with
        | false =>
          simp only [h2, List.map_cons, List.map_nil, List.length_cons, List.length_nil, List.cons_append, List.nil_append, List.getElem?_cons_zero, List.getElem?_cons_succ, List.set_cons_zero, List.set_cons_succ, Option.map_some, Option.map_none, Option.some.injEq, SV.d.injEq, SV.own.injEq, PyData.int.injEq, PyData.bool.injEq, PyData.tuple.injEq, PyData.list.injEq, PyData.str.injEq, List.cons.injEq, exists_eq_left, exists_eq_left', exists_eq_right, exists_and_left, exists_and_right, exists_const, and_true, true_and, if_true, if_false, reduceCtorEq, false_or, or_false, false_and, and_false, Bool.not_true, Bool.not_false, Bool.false_eq_true, ite_true, ite_false, reduceIte, Bool.true_eq_false, Nat.reduceAdd, nc0, nc1, nc2, nc3, nc4, nc5, nc6, nc7, nc8, Int.reduceBEq, beq_self_eq_true, Bool.and_true, Bool.true_and, Bool.and_false, Bool.false_and, Nat.zero_add] at h ⊢
          exact h
        | true =>
          simp only [h2, List.map_cons, List.map_nil, List.length_cons, List.length_nil, List.cons_append, List.nil_append, List.getElem?_cons_zero, List.getElem?_cons_succ, List.set_cons_zero, List.set_cons_succ, Option.map_some, Option.map_none, Option.some.injEq, SV.d.injEq, SV.own.injEq, PyData.int.injEq, PyData.bool.injEq, PyData.tuple.injEq, PyData.list.injEq, PyData.str.injEq, List.cons.injEq, exists_eq_left, exists_eq_left', exists_eq_right, exists_and_left, exists_and_right, exists_const, and_true, true_and, if_true, if_false, reduceCtorEq, false_or, or_false, false_and, and_false, Bool.not_true, Bool.not_false, Bool.false_eq_true, ite_true, ite_false, reduceIte, Bool.true_eq_false, Nat.reduceAdd, nc0, nc1, nc2, nc3, nc4, nc5, nc6, nc7, nc8, Int.reduceBEq, beq_self_eq_true, Bool.and_true, Bool.true_and, Bool.and_false, Bool.false_and, Nat.zero_add] at h ⊢
          have e : PyData.int (n : Int) :: (ns.map fun n : Nat => PyData.int (n : Int)) = ((n :: ns).map fun n : Nat => (n : Int)).map .int := by simp
          rw [e] at h ⊢
          rw [sumD_ints] at h
          refine ⟨_, rfl, ?_⟩
          split
          · rename_i hA
            rw [hA] at h
            exact h
          · rename_i hA
            rw [Bool.eq_false_iff.mpr hA] at h
            exact h
  · exact h.elim
def sp_is_pattern (c : Ct) : Spec := fun ss Q Ex => match ss with
  | [.d p, .d v] => if isProtocol p = true then Q (.d (.bool (isPat (match p with | .tuple (.int m :: _) => m | _ => 0) v))) else Ex (.ref (c.cls "InvalidProtocol"))
  | _ => False
theorem at_is_pattern {c : Ct} {many : Int} {r : List PyData} {v : PyData} {Q : SV → Prop} {Ex : XP} (h : isProtocol (.tuple (.int many :: r)) = true) : sp_is_pattern c [.d (.tuple (.int many :: r)), .d v] Q Ex = Q (.d (.bool (isPat many v))) := by
  show (if isProtocol (.tuple (.int many :: r)) = true then _ else _) = _
  rw [if_pos h]
def t_is_pattern (c : Ct) : DS :=
  (sSeq (sExpr (dCall (sp_check_protocol c) (daCons (dVar 0) daNil)))
  (sRet (dCall (sp_is_pattern_of c) (daCons (dVar 0) (daCons (dVar 1) daNil)))))
theorem rd_is_pattern (c : Ct) (ss : List SV) (Q : SV → Prop) (Ex : XP) (h : sp_is_pattern c ss Q Ex) : t_is_pattern c { nx := fun _ => Q (.d .none), rt := Q } (startD 2 ss) Ex := by
  unfold sp_is_pattern at h
  split at h
  · rename_i p v
    show t_is_pattern c _ [some (.d p), some (.d v)] Ex
    simp only [t_is_pattern, sSeq, sNext, sExpr, sRet, sIf, sSet, sSetF, sAsg, sPar, sRaise, sFor, sApp, sExt, sPop, sItem, sAugI, sAug, sFrz, sMove, sBreak, sCont, gN, gT, gsNil, gsCons, dVar, vS_d, vS_own, vS_town, vS_v, vS_scr, fz_scr, dC, dOp, dCall, dCallK, daNil, daCons, dTup, dLst, dSl, doNone, doSome, dIf, dAnd, dOr, dNot, dNeg, dOne, dTwoI, dChain, dLc, bVal, bTru, bScr, dLenS, dIxS, dCount, dRest, sCount, sRest, bNot, bAnd, bOr, bYes, wInt2, wIntC, wAdd, wMul, wIx, wIn, wEqD, wIsN, oLen, oTuple, oList, oAll, oSum, oIsi, iSeq, iRng1D, iRng2D, iEnumD, iZipD, fz_d, fz_own, fz_town, fz_v, fz_abs, asDs, fzB, wipeD, asD_d, asD_own, asD_bor, asL_list, asL_tuple, asL_own, asL_bor, asL_int, asL_bool, asL_none, asS_list, asS_tuple, asS_own, asS_bor, tru_bool, tru_int, tru_none, tru_tuple, tru_list, tru_own, tru_bor, stO_d, stO_own, stO_town, stO_v, stO_abs, rtS_d, rtS_own, rtS_bor, rtS_v, rtS_abs, isN_none, isN_tuple, isN_int, isN_list, isN_bool, List.map_cons, List.map_nil, List.length_cons, List.length_nil, List.cons_append, List.nil_append, List.getElem?_cons_zero, List.getElem?_cons_succ, List.set_cons_zero, List.set_cons_succ, Option.map_some, Option.map_none, Option.some.injEq, SV.d.injEq, SV.own.injEq, PyData.int.injEq, PyData.bool.injEq, PyData.tuple.injEq, PyData.list.injEq, PyData.str.injEq, List.cons.injEq, exists_eq_left, exists_eq_left', exists_eq_right, exists_and_left, exists_and_right, exists_const, and_true, true_and, if_true, if_false, reduceCtorEq, false_or, or_false, false_and, and_false, Bool.not_true, Bool.not_false, Bool.false_eq_true, ite_true, ite_false, reduceIte, Bool.true_eq_false, Nat.reduceAdd, nc0, nc1, nc2, nc3, nc4, nc5, nc6, nc7, nc8, Int.reduceBEq, beq_self_eq_true, Bool.and_true, Bool.true_and, Bool.and_false, Bool.false_and, Nat.zero_add, at_check_protocol]
    cases e : isProtocol p with
    | false =>
      simp only [e, List.map_cons, List.map_nil, List.length_cons, List.length_nil, List.cons_append, List.nil_append, List.getElem?_cons_zero, List.getElem?_cons_succ, List.set_cons_zero, List.set_cons_succ, Option.map_some, Option.map_none, Option.some.injEq, SV.d.injEq, SV.own.injEq, PyData.int.injEq, PyData.bool.injEq, PyData.tuple.injEq, PyData.list.injEq, PyData.str.injEq, List.cons.injEq, exists_eq_left, exists_eq_left', exists_eq_right, exists_and_left, exists_and_right, exists_const, and_true, true_and, if_true, if_false, reduceCtorEq, false_or, or_false, false_and, and_false, Bool.not_true, Bool.not_false, Bool.false_eq_true, ite_true, ite_false, reduceIte, Bool.true_eq_false, Nat.reduceAdd, nc0, nc1, nc2, nc3, nc4, nc5, nc6, nc7, nc8, Int.reduceBEq, beq_self_eq_true, Bool.and_true, Bool.true_and, Bool.and_false, Bool.false_and, Nat.zero_add] at h ⊢
      exact h
    | true =>
      obtain ⟨many, rules, rfl, hm, _⟩ := isP_shape e
      simp only [e, List.map_cons, List.map_nil, List.length_cons, List.length_nil, List.cons_append, List.nil_append, List.getElem?_cons_zero, List.getElem?_cons_succ, List.set_cons_zero, List.set_cons_succ, Option.map_some, Option.map_none, Option.some.injEq, SV.d.injEq, SV.own.injEq, PyData.int.injEq, PyData.bool.injEq, PyData.tuple.injEq, PyData.list.injEq, PyData.str.injEq, List.cons.injEq, exists_eq_left, exists_eq_left', exists_eq_right, exists_and_left, exists_and_right, exists_const, and_true, true_and, if_true, if_false, reduceCtorEq, false_or, or_false, false_and, and_false, Bool.not_true, Bool.not_false, Bool.false_eq_true, ite_true, ite_false, reduceIte, Bool.true_eq_false, Nat.reduceAdd, nc0, nc1, nc2, nc3, nc4, nc5, nc6, nc7, nc8, Int.reduceBEq, beq_self_eq_true, Bool.and_true, Bool.true_and, Bool.and_false, Bool.false_and, Nat.zero_add, at_is_pattern_of] at h ⊢
      exact ⟨hm, h⟩
  · exact h.elim
/-! ### logs -/
def isLog (many : Int) : PyData → Bool
  | .tuple xs => decide (1 ≤ xs.length) && decide (xs.length ≤ 6) && (xs.all (isConf many) && xs.all fun x => decide (sumD x = sumD (xs.getD 0 .none)))
  | _ => false
def sp_is_log_of (c : Ct) : Spec := fun ss Q _ => match ss with
  | [.d (.tuple (.int many :: _)), .d v] => Q (.d (.bool (isLog many v)))
  | _ => False
theorem at_is_log_of {c : Ct} {v : PyData} {many : Int} {r : List PyData} {Q : SV → Prop} {Ex : XP} : sp_is_log_of c [.d (.tuple (.int many :: r)), .d v] Q Ex = Q (.d (.bool (isLog many v))) := rfl
theorem conf_ints {many : Int} {v : PyData} (h : isConf many v = true) : ∃ ns : List Nat, v = .tuple (ns.map fun n : Nat => .int (n : Int)) ∧ (ns.length : Int) = many ∧ 1 ≤ ns.sum ∧ ns.sum ≤ 8 := by
  unfold isConf at h
  rw [Bool.and_eq_true, Bool.and_eq_true, decide_eq_true_eq, decide_eq_true_eq] at h
  obtain ⟨ns, rfl, hl⟩ := counts_ints h.1
  have e := h.2
  rw [nats_ints, sumD_ints, nats_sum] at e
  exact ⟨ns, rfl, hl, by omega, by omega⟩
def t_is_log_of (c : Ct) : DS :=
  (sSeq (sIf (bOr (bNot (bTru (dOne (oIsi "tuple") (dVar 1)))) (bNot (bVal (dChain (wInt2 fun i j => .bool (decide (i ≤ j))) (wInt2 fun i j => .bool (decide (i ≤ j))) (dC (.d (.int 1))) (dOne oLen (dVar 1)) (dC (.d (.int 6))))))) (sRet (dC (.d (.bool false)))) sNext)
  (sSeq (sIf (bNot (bTru (dOne (oAll fun bs => bs.all id) (dLc (iSeq (dVar 1)) (gN 2) bYes (dCall (sp_is_configuration_of c) (daCons (dVar 0) (daCons (dVar 2) daNil))) [2])))) (sRet (dC (.d (.bool false)))) sNext)
  (sRet (dOne (oAll fun bs => bs.all id) (dLc (iSeq (dVar 1)) (gN 2) bYes (dOp (wEqD fun b => b) (dOne oSum (dVar 2)) (dOne oSum (dOp wIx (dVar 1) (dC (.d (.int 0)))))) [2])))))
theorem rd_is_log_of (c : Ct) (ss : List SV) (Q : SV → Prop) (Ex : XP) (h : sp_is_log_of c ss Q Ex) : t_is_log_of c { nx := fun _ => Q (.d .none), rt := Q } (startD 3 ss) Ex := by
  unfold sp_is_log_of at h
  split at h
  · rename_i many r v
    show t_is_log_of c _ [some (.d (.tuple (.int many :: r))), some (.d v), none] Ex
    cases v with
    | tuple xs =>
      simp only [t_is_log_of, sSeq, sNext, sExpr, sRet, sIf, sSet, sSetF, sAsg, sPar, sRaise, sFor, sApp, sExt, sPop, sItem, sAugI, sAug, sFrz, sMove, sBreak, sCont, gN, gT, gsNil, gsCons, dVar, vS_d, vS_own, vS_town, vS_v, vS_scr, fz_scr, dC, dOp, dCall, dCallK, daNil, daCons, dTup, dLst, dSl, doNone, doSome, dIf, dAnd, dOr, dNot, dNeg, dOne, dTwoI, dChain, dLc, bVal, bTru, bScr, dLenS, dIxS, dCount, dRest, sCount, sRest, bNot, bAnd, bOr, bYes, wInt2, wIntC, wAdd, wMul, wIx, wIn, wEqD, wIsN, oLen, oTuple, oList, oAll, oSum, oIsi, iSeq, iRng1D, iRng2D, iEnumD, iZipD, fz_d, fz_own, fz_town, fz_v, fz_abs, asDs, fzB, wipeD, asD_d, asD_own, asD_bor, asL_list, asL_tuple, asL_own, asL_bor, asL_int, asL_bool, asL_none, asS_list, asS_tuple, asS_own, asS_bor, tru_bool, tru_int, tru_none, tru_tuple, tru_list, tru_own, tru_bor, stO_d, stO_own, stO_town, stO_v, stO_abs, rtS_d, rtS_own, rtS_bor, rtS_v, rtS_abs, isN_none, isN_tuple, isN_int, isN_list, isN_bool, List.map_cons, List.map_nil, List.length_cons, List.length_nil, List.cons_append, List.nil_append, List.getElem?_cons_zero, List.getElem?_cons_succ, List.set_cons_zero, List.set_cons_succ, Option.map_some, Option.map_none, Option.some.injEq, SV.d.injEq, SV.own.injEq, PyData.int.injEq, PyData.bool.injEq, PyData.tuple.injEq, PyData.list.injEq, PyData.str.injEq, List.cons.injEq, exists_eq_left, exists_eq_left', exists_eq_right, exists_and_left, exists_and_right, exists_const, and_true, true_and, if_true, if_false, reduceCtorEq, false_or, or_false, false_and, and_false, Bool.not_true, Bool.not_false, Bool.false_eq_true, ite_true, ite_false, reduceIte, Bool.true_eq_false, Nat.reduceAdd, nc0, nc1, nc2, nc3, nc4, nc5, nc6, nc7, nc8, Int.reduceBEq, beq_self_eq_true, Bool.and_true, Bool.true_and, Bool.and_false, Bool.false_and, Nat.zero_add, isi_tuple]
      unfold isLog at h
      by_cases h1 : 1 ≤ xs.length
      · by_cases h2 : xs.length ≤ 6
        · have h1' : (1 : Int) ≤ ((xs.length : Nat) : Int) := by omega
          have h2' : ((xs.length : Nat) : Int) ≤ 6 := by omega
          simp only [h1, h2, h1', h2', decide_true, List.map_cons, List.map_nil, List.length_cons, List.length_nil, List.cons_append, List.nil_append, List.getElem?_cons_zero, List.getElem?_cons_succ, List.set_cons_zero, List.set_cons_succ, Option.map_some, Option.map_none, Option.some.injEq, SV.d.injEq, SV.own.injEq, PyData.int.injEq, PyData.bool.injEq, PyData.tuple.injEq, PyData.list.injEq, PyData.str.injEq, List.cons.injEq, exists_eq_left, exists_eq_left', exists_eq_right, exists_and_left, exists_and_right, exists_const, and_true, true_and, if_true, if_false, reduceCtorEq, false_or, or_false, false_and, and_false, Bool.not_true, Bool.not_false, Bool.false_eq_true, ite_true, ite_false, reduceIte, Bool.true_eq_false, Nat.reduceAdd, nc0, nc1, nc2, nc3, nc4, nc5, nc6, nc7, nc8, Int.reduceBEq, beq_self_eq_true, Bool.and_true, Bool.true_and, Bool.and_false, Bool.false_and, Nat.zero_add] at h ⊢
          refine lcR_map (fun x => .bool (isConf many x)) xs (fun x _ k hk => ?_) ⟨xs.map (isConf many), by simp, ?_⟩
          · simp only [lcT, sSeq, sNext, sExpr, sRet, sIf, sSet, sSetF, sAsg, sPar, sRaise, sFor, sApp, sExt, sPop, sItem, sAugI, sAug, sFrz, sMove, sBreak, sCont, gN, gT, gsNil, gsCons, dVar, vS_d, vS_own, vS_town, vS_v, vS_scr, fz_scr, dC, dOp, dCall, dCallK, daNil, daCons, dTup, dLst, dSl, doNone, doSome, dIf, dAnd, dOr, dNot, dNeg, dOne, dTwoI, dChain, dLc, bVal, bTru, bScr, dLenS, dIxS, dCount, dRest, sCount, sRest, bNot, bAnd, bOr, bYes, wInt2, wIntC, wAdd, wMul, wIx, wIn, wEqD, wIsN, oLen, oTuple, oList, oAll, oSum, oIsi, iSeq, iRng1D, iRng2D, iEnumD, iZipD, fz_d, fz_own, fz_town, fz_v, fz_abs, asDs, fzB, wipeD, asD_d, asD_own, asD_bor, asL_list, asL_tuple, asL_own, asL_bor, asL_int, asL_bool, asL_none, asS_list, asS_tuple, asS_own, asS_bor, tru_bool, tru_int, tru_none, tru_tuple, tru_list, tru_own, tru_bor, stO_d, stO_own, stO_town, stO_v, stO_abs, rtS_d, rtS_own, rtS_bor, rtS_v, rtS_abs, isN_none, isN_tuple, isN_int, isN_list, isN_bool, List.map_cons, List.map_nil, List.length_cons, List.length_nil, List.cons_append, List.nil_append, List.getElem?_cons_zero, List.getElem?_cons_succ, List.set_cons_zero, List.set_cons_succ, Option.map_some, Option.map_none, Option.some.injEq, SV.d.injEq, SV.own.injEq, PyData.int.injEq, PyData.bool.injEq, PyData.tuple.injEq, PyData.list.injEq, PyData.str.injEq, List.cons.injEq, exists_eq_left, exists_eq_left', exists_eq_right, exists_and_left, exists_and_right, exists_const, and_true, true_and, if_true, if_false, reduceCtorEq, false_or, or_false, false_and, and_false, Bool.not_true, Bool.not_false, Bool.false_eq_true, ite_true, ite_false, reduceIte, Bool.true_eq_false, Nat.reduceAdd, nc0, nc1, nc2, nc3, nc4, nc5, nc6, nc7, nc8, Int.reduceBEq, beq_self_eq_true, Bool.and_true, Bool.true_and, Bool.and_false, Bool.false_and, Nat.zero_add, at_is_configuration_of]
            exact hk
          · rw [map_all]
            cases h3 : xs.all (isConf many) with
            | false =>
              simp only [h3, sSeq, sNext, sExpr, sRet, sIf, sSet, sSetF, sAsg, sPar, sRaise, sFor, sApp, sExt, sPop, sItem, sAugI, sAug, sFrz, sMove, sBreak, sCont, gN, gT, gsNil, gsCons, dVar, vS_d, vS_own, vS_town, vS_v, vS_scr, fz_scr, dC, dOp, dCall, dCallK, daNil, daCons, dTup, dLst, dSl, doNone, doSome, dIf, dAnd, dOr, dNot, dNeg, dOne, dTwoI, dChain, dLc, bVal, bTru, bScr, dLenS, dIxS, dCount, dRest, sCount, sRest, bNot, bAnd, bOr, bYes, wInt2, wIntC, wAdd, wMul, wIx, wIn, wEqD, wIsN, oLen, oTuple, oList, oAll, oSum, oIsi, iSeq, iRng1D, iRng2D, iEnumD, iZipD, fz_d, fz_own, fz_town, fz_v, fz_abs, asDs, fzB, wipeD, asD_d, asD_own, asD_bor, asL_list, asL_tuple, asL_own, asL_bor, asL_int, asL_bool, asL_none, asS_list, asS_tuple, asS_own, asS_bor, tru_bool, tru_int, tru_none, tru_tuple, tru_list, tru_own, tru_bor, stO_d, stO_own, stO_town, stO_v, stO_abs, rtS_d, rtS_own, rtS_bor, rtS_v, rtS_abs, isN_none, isN_tuple, isN_int, isN_list, isN_bool, List.map_cons, List.map_nil, List.length_cons, List.length_nil, List.cons_append, List.nil_append, List.getElem?_cons_zero, List.getElem?_cons_succ, List.set_cons_zero, List.set_cons_succ, Option.map_some, Option.map_none, Option.some.injEq, SV.d.injEq, SV.own.injEq, PyData.int.injEq, PyData.bool.injEq, PyData.tuple.injEq, PyData.list.injEq, PyData.str.injEq, List.cons.injEq, exists_eq_left, exists_eq_left', exists_eq_right, exists_and_left, exists_and_right, exists_const, and_true, true_and, if_true, if_false, reduceCtorEq, false_or, or_false, false_and, and_false, Bool.not_true, Bool.not_false, Bool.false_eq_true, ite_true, ite_false, reduceIte, Bool.true_eq_false, Nat.reduceAdd, nc0, nc1, nc2, nc3, nc4, nc5, nc6, nc7, nc8, Int.reduceBEq, beq_self_eq_true, Bool.and_true, Bool.true_and, Bool.and_false, Bool.false_and, Nat.zero_add] at h ⊢
              exact h
            | true =>
              simp only [h3, sSeq, sNext, sExpr, sRet, sIf, sSet, sSetF, sAsg, sPar, sRaise, sFor, sApp, sExt, sPop, sItem, sAugI, sAug, sFrz, sMove, sBreak, sCont, gN, gT, gsNil, gsCons, dVar, vS_d, vS_own, vS_town, vS_v, vS_scr, fz_scr, dC, dOp, dCall, dCallK, daNil, daCons, dTup, dLst, dSl, doNone, doSome, dIf, dAnd, dOr, dNot, dNeg, dOne, dTwoI, dChain, dLc, bVal, bTru, bScr, dLenS, dIxS, dCount, dRest, sCount, sRest, bNot, bAnd, bOr, bYes, wInt2, wIntC, wAdd, wMul, wIx, wIn, wEqD, wIsN, oLen, oTuple, oList, oAll, oSum, oIsi, iSeq, iRng1D, iRng2D, iEnumD, iZipD, fz_d, fz_own, fz_town, fz_v, fz_abs, asDs, fzB, wipeD, asD_d, asD_own, asD_bor, asL_list, asL_tuple, asL_own, asL_bor, asL_int, asL_bool, asL_none, asS_list, asS_tuple, asS_own, asS_bor, tru_bool, tru_int, tru_none, tru_tuple, tru_list, tru_own, tru_bor, stO_d, stO_own, stO_town, stO_v, stO_abs, rtS_d, rtS_own, rtS_bor, rtS_v, rtS_abs, isN_none, isN_tuple, isN_int, isN_list, isN_bool, List.map_cons, List.map_nil, List.length_cons, List.length_nil, List.cons_append, List.nil_append, List.getElem?_cons_zero, List.getElem?_cons_succ, List.set_cons_zero, List.set_cons_succ, Option.map_some, Option.map_none, Option.some.injEq, SV.d.injEq, SV.own.injEq, PyData.int.injEq, PyData.bool.injEq, PyData.tuple.injEq, PyData.list.injEq, PyData.str.injEq, List.cons.injEq, exists_eq_left, exists_eq_left', exists_eq_right, exists_and_left, exists_and_right, exists_const, and_true, true_and, if_true, if_false, reduceCtorEq, false_or, or_false, false_and, and_false, Bool.not_true, Bool.not_false, Bool.false_eq_true, ite_true, ite_false, reduceIte, Bool.true_eq_false, Nat.reduceAdd, nc0, nc1, nc2, nc3, nc4, nc5, nc6, nc7, nc8, Int.reduceBEq, beq_self_eq_true, Bool.and_true, Bool.true_and, Bool.and_false, Bool.false_and, Nat.zero_add] at h ⊢
              rw [List.all_eq_true] at h3
              refine lcR_map (fun x => .bool (decide (sumD x = sumD (xs.getD 0 .none)))) xs (fun x hx k hk => ?_) (all_map _ h)
              obtain ⟨ns, rfl, _⟩ := conf_ints (h3 x hx)
              cases xs with
              | nil => cases hx
              | cons y ys =>
                obtain ⟨ms, rfl, _⟩ := conf_ints (h3 y List.mem_cons_self)
                simp only [lcT, sSeq, sNext, sExpr, sRet, sIf, sSet, sSetF, sAsg, sPar, sRaise, sFor, sApp, sExt, sPop, sItem, sAugI, sAug, sFrz, sMove, sBreak, sCont, gN, gT, gsNil, gsCons, dVar, vS_d, vS_own, vS_town, vS_v, vS_scr, fz_scr, dC, dOp, dCall, dCallK, daNil, daCons, dTup, dLst, dSl, doNone, doSome, dIf, dAnd, dOr, dNot, dNeg, dOne, dTwoI, dChain, dLc, bVal, bTru, bScr, dLenS, dIxS, dCount, dRest, sCount, sRest, bNot, bAnd, bOr, bYes, wInt2, wIntC, wAdd, wMul, wIx, wIn, wEqD, wIsN, oLen, oTuple, oList, oAll, oSum, oIsi, iSeq, iRng1D, iRng2D, iEnumD, iZipD, fz_d, fz_own, fz_town, fz_v, fz_abs, asDs, fzB, wipeD, asD_d, asD_own, asD_bor, asL_list, asL_tuple, asL_own, asL_bor, asL_int, asL_bool, asL_none, asS_list, asS_tuple, asS_own, asS_bor, tru_bool, tru_int, tru_none, tru_tuple, tru_list, tru_own, tru_bor, stO_d, stO_own, stO_town, stO_v, stO_abs, rtS_d, rtS_own, rtS_bor, rtS_v, rtS_abs, isN_none, isN_tuple, isN_int, isN_list, isN_bool, List.map_cons, List.map_nil, List.length_cons, List.length_nil, List.cons_append, List.nil_append, List.getElem?_cons_zero, List.getElem?_cons_succ, List.set_cons_zero, List.set_cons_succ, Option.map_some, Option.map_none, Option.some.injEq, SV.d.injEq, SV.own.injEq, PyData.int.injEq, PyData.bool.injEq, PyData.tuple.injEq, PyData.list.injEq, PyData.str.injEq, List.cons.injEq, exists_eq_left, exists_eq_left', exists_eq_right, exists_and_left, exists_and_right, exists_const, and_true, true_and, if_true, if_false, reduceCtorEq, false_or, or_false, false_and, and_false, Bool.not_true, Bool.not_false, Bool.false_eq_true, ite_true, ite_false, reduceIte, Bool.true_eq_false, Nat.reduceAdd, nc0, nc1, nc2, nc3, nc4, nc5, nc6, nc7, nc8, Int.reduceBEq, beq_self_eq_true, Bool.and_true, Bool.true_and, Bool.and_false, Bool.false_and, Nat.zero_add, atI_0, sh_int, eqv_int]
                refine ⟨_, nats_ints ns, _, nats_ints ms, ?_⟩
                simp only [List.getD_cons_zero, nats_ints, sumD_ints] at hk
                have e : ((ns.map fun n : Nat => (n : Int)).sum == (ms.map fun n : Nat => (n : Int)).sum) = decide ((ns.map fun n : Nat => (n : Int)).sum = (ms.map fun n : Nat => (n : Int)).sum) := rfl
                rw [e]
                exact hk
        · have h1' : (1 : Int) ≤ ((xs.length : Nat) : Int) := by omega
          have h2' : ¬ ((xs.length : Nat) : Int) ≤ 6 := by omega
          simp only [h1, h2, h1', h2', decide_true, decide_false, List.map_cons, List.map_nil, List.length_cons, List.length_nil, List.cons_append, List.nil_append, List.getElem?_cons_zero, List.getElem?_cons_succ, List.set_cons_zero, List.set_cons_succ, Option.map_some, Option.map_none, Option.some.injEq, SV.d.injEq, SV.own.injEq, PyData.int.injEq, PyData.bool.injEq, PyData.tuple.injEq, PyData.list.injEq, PyData.str.injEq, List.cons.injEq, exists_eq_left, exists_eq_left', exists_eq_right, exists_and_left, exists_and_right, exists_const, and_true, true_and, if_true, if_false, reduceCtorEq, false_or, or_false, false_and, and_false, Bool.not_true, Bool.not_false, Bool.false_eq_true, ite_true, ite_false, reduceIte, Bool.true_eq_false, Nat.reduceAdd, nc0, nc1, nc2, nc3, nc4, nc5, nc6, nc7, nc8, Int.reduceBEq, beq_self_eq_true, Bool.and_true, Bool.true_and, Bool.and_false, Bool.false_and, Nat.zero_add] at h ⊢
          exact h
      · have h1' : ¬ (1 : Int) ≤ ((xs.length : Nat) : Int) := by omega
        simp only [h1, h1', decide_false, List.map_cons, List.map_nil, List.length_cons, List.length_nil, List.cons_append, List.nil_append, List.getElem?_cons_zero, List.getElem?_cons_succ, List.set_cons_zero, List.set_cons_succ, Option.map_some, Option.map_none, Option.some.injEq, SV.d.injEq, SV.own.injEq, PyData.int.injEq, PyData.bool.injEq, PyData.tuple.injEq, PyData.list.injEq, PyData.str.injEq, List.cons.injEq, exists_eq_left, exists_eq_left', exists_eq_right, exists_and_left, exists_and_right, exists_const, and_true, true_and, if_true, if_false, reduceCtorEq, false_or, or_false, false_and, and_false, Bool.not_true, Bool.not_false, Bool.false_eq_true, ite_true, ite_false, reduceIte, Bool.true_eq_false, Nat.reduceAdd, nc0, nc1, nc2, nc3, nc4, nc5, nc6, nc7, nc8, Int.reduceBEq, beq_self_eq_true, Bool.and_true, Bool.true_and, Bool.and_false, Bool.false_and, Nat.zero_add] at h ⊢
        exact h
    | none => simp only [t_is_log_of, sSeq, sNext, sExpr, sRet, sIf, sSet, sSetF, sAsg, sPar, sRaise, sFor, sApp, sExt, sPop, sItem, sAugI, sAug, sFrz, sMove, sBreak, sCont, gN, gT, gsNil, gsCons, dVar, vS_d, vS_own, vS_town, vS_v, vS_scr, fz_scr, dC, dOp, dCall, dCallK, daNil, daCons, dTup, dLst, dSl, doNone, doSome, dIf, dAnd, dOr, dNot, dNeg, dOne, dTwoI, dChain, dLc, bVal, bTru, bScr, dLenS, dIxS, dCount, dRest, sCount, sRest, bNot, bAnd, bOr, bYes, wInt2, wIntC, wAdd, wMul, wIx, wIn, wEqD, wIsN, oLen, oTuple, oList, oAll, oSum, oIsi, iSeq, iRng1D, iRng2D, iEnumD, iZipD, fz_d, fz_own, fz_town, fz_v, fz_abs, asDs, fzB, wipeD, asD_d, asD_own, asD_bor, asL_list, asL_tuple, asL_own, asL_bor, asL_int, asL_bool, asL_none, asS_list, asS_tuple, asS_own, asS_bor, tru_bool, tru_int, tru_none, tru_tuple, tru_list, tru_own, tru_bor, stO_d, stO_own, stO_town, stO_v, stO_abs, rtS_d, rtS_own, rtS_bor, rtS_v, rtS_abs, isN_none, isN_tuple, isN_int, isN_list, isN_bool, List.map_cons, List.map_nil, List.length_cons, List.length_nil, List.cons_append, List.nil_append, List.getElem?_cons_zero, List.getElem?_cons_succ, List.set_cons_zero, List.set_cons_succ, Option.map_some, Option.map_none, Option.some.injEq, SV.d.injEq, SV.own.injEq, PyData.int.injEq, PyData.bool.injEq, PyData.tuple.injEq, PyData.list.injEq, PyData.str.injEq, List.cons.injEq, exists_eq_left, exists_eq_left', exists_eq_right, exists_and_left, exists_and_right, exists_const, and_true, true_and, if_true, if_false, reduceCtorEq, false_or, or_false, false_and, and_false, Bool.not_true, Bool.not_false, Bool.false_eq_true, ite_true, ite_false, reduceIte, Bool.true_eq_false, Nat.reduceAdd, nc0, nc1, nc2, nc3, nc4, nc5, nc6, nc7, nc8, Int.reduceBEq, beq_self_eq_true, Bool.and_true, Bool.true_and, Bool.and_false, Bool.false_and, Nat.zero_add, isi_tuple]; exact h
    | bool _ => simp only [t_is_log_of, sSeq, sNext, sExpr, sRet, sIf, sSet, sSetF, sAsg, sPar, sRaise, sFor, sApp, sExt, sPop, sItem, sAugI, sAug, sFrz, sMove, sBreak, sCont, gN, gT, gsNil, gsCons, dVar, vS_d, vS_own, vS_town, vS_v, vS_scr, fz_scr, dC, dOp, dCall, dCallK, daNil, daCons, dTup, dLst, dSl, doNone, doSome, dIf, dAnd, dOr, dNot, dNeg, dOne, dTwoI, dChain, dLc, bVal, bTru, bScr, dLenS, dIxS, dCount, dRest, sCount, sRest, bNot, bAnd, bOr, bYes, wInt2, wIntC, wAdd, wMul, wIx, wIn, wEqD, wIsN, oLen, oTuple, oList, oAll, oSum, oIsi, iSeq, iRng1D, iRng2D, iEnumD, iZipD, fz_d, fz_own, fz_town, fz_v, fz_abs, asDs, fzB, wipeD, asD_d, asD_own, asD_bor, asL_list, asL_tuple, asL_own, asL_bor, asL_int, asL_bool, asL_none, asS_list, asS_tuple, asS_own, asS_bor, tru_bool, tru_int, tru_none, tru_tuple, tru_list, tru_own, tru_bor, stO_d, stO_own, stO_town, stO_v, stO_abs, rtS_d, rtS_own, rtS_bor, rtS_v, rtS_abs, isN_none, isN_tuple, isN_int, isN_list, isN_bool, List.map_cons, List.map_nil, List.length_cons, List.length_nil, List.cons_append, List.nil_append, List.getElem?_cons_zero, List.getElem?_cons_succ, List.set_cons_zero, List.set_cons_succ, Option.map_some, Option.map_none, Option.some.injEq, SV.d.injEq, SV.own.injEq, PyData.int.injEq, PyData.bool.injEq, PyData.tuple.injEq, PyData.list.injEq, PyData.str.injEq, List.cons.injEq, exists_eq_left, exists_eq_left', exists_eq_right, exists_and_left, exists_and_right, exists_const, and_true, true_and, if_true, if_false, reduceCtorEq, false_or, or_false, false_and, and_false, Bool.not_true, Bool.not_false, Bool.false_eq_true, ite_true, ite_false, reduceIte, Bool.true_eq_false, Nat.reduceAdd, nc0, nc1, nc2, nc3, nc4, nc5, nc6, nc7, nc8, Int.reduceBEq, beq_self_eq_true, Bool.and_true, Bool.true_and, Bool.and_false, Bool.false_and, Nat.zero_add, isi_tuple]; exact h
    | int _ => simp only [t_is_log_of, sSeq, sNext, sExpr, sRet, sIf, sSet, sSetF, sAsg, sPar, sRaise, sFor, sApp, sExt, sPop, sItem, sAugI, sAug, sFrz, sMove, sBreak, sCont, gN, gT, gsNil, gsCons, dVar, vS_d, vS_own, vS_town, vS_v, vS_scr, fz_scr, dC, dOp, dCall, dCallK, daNil, daCons, dTup, dLst, dSl, doNone, doSome, dIf, dAnd, dOr, dNot, dNeg, dOne, dTwoI, dChain, dLc, bVal, bTru, bScr, dLenS, dIxS, dCount, dRest, sCount, sRest, bNot, bAnd, bOr, bYes, wInt2, wIntC, wAdd, wMul, wIx, wIn, wEqD, wIsN, oLen, oTuple, oList, oAll, oSum, oIsi, iSeq, iRng1D, iRng2D, iEnumD, iZipD, fz_d, fz_own, fz_town, fz_v, fz_abs, asDs, fzB, wipeD, asD_d, asD_own, asD_bor, asL_list, asL_tuple, asL_own, asL_bor, asL_int, asL_bool, asL_none, asS_list, asS_tuple, asS_own, asS_bor, tru_bool, tru_int, tru_none, tru_tuple, tru_list, tru_own, tru_bor, stO_d, stO_own, stO_town, stO_v, stO_abs, rtS_d, rtS_own, rtS_bor, rtS_v, rtS_abs, isN_none, isN_tuple, isN_int, isN_list, isN_bool, List.map_cons, List.map_nil, List.length_cons, List.length_nil, List.cons_append, List.nil_append, List.getElem?_cons_zero, List.getElem?_cons_succ, List.set_cons_zero, List.set_cons_succ, Option.map_some, Option.map_none, Option.some.injEq, SV.d.injEq, SV.own.injEq, PyData.int.injEq, PyData.bool.injEq, PyData.tuple.injEq, PyData.list.injEq, PyData.str.injEq, List.cons.injEq, exists_eq_left, exists_eq_left', exists_eq_right, exists_and_left, exists_and_right, exists_const, and_true, true_and, if_true, if_false, reduceCtorEq, false_or, or_false, false_and, and_false, Bool.not_true, Bool.not_false, Bool.false_eq_true, ite_true, ite_false, reduceIte, Bool.true_eq_false, Nat.reduceAdd, nc0, nc1, nc2, nc3, nc4, nc5, nc6, nc7, nc8, Int.reduceBEq, beq_self_eq_true, Bool.and_true, Bool.true_and, Bool.and_false, Bool.false_and, Nat.zero_add, isi_tuple]; exact h
    | str _ => simp only [t_is_log_of, sSeq, sNext, sExpr, sRet, sIf, sSet, sSetF, sAsg, sPar, sRaise, sFor, sApp, sExt, sPop, sItem, sAugI, sAug, sFrz, sMove, sBreak, sCont, gN, gT, gsNil, gsCons, dVar, vS_d, vS_own, vS_town, vS_v, vS_scr, fz_scr, dC, dOp, dCall, dCallK, daNil, daCons, dTup, dLst, dSl, doNone, doSome, dIf, dAnd, dOr, dNot, dNeg, dOne, dTwoI, dChain, dLc, bVal, bTru, bScr, dLenS, dIxS, dCount, dRest, sCount, sRest, bNot, bAnd, bOr, bYes, wInt2, wIntC, wAdd, wMul, wIx, wIn, wEqD, wIsN, oLen, oTuple, oList, oAll, oSum, oIsi, iSeq, iRng1D, iRng2D, iEnumD, iZipD, fz_d, fz_own, fz_town, fz_v, fz_abs, asDs, fzB, wipeD, asD_d, asD_own, asD_bor, asL_list, asL_tuple, asL_own, asL_bor, asL_int, asL_bool, asL_none, asS_list, asS_tuple, asS_own, asS_bor, tru_bool, tru_int, tru_none, tru_tuple, tru_list, tru_own, tru_bor, stO_d, stO_own, stO_town, stO_v, stO_abs, rtS_d, rtS_own, rtS_bor, rtS_v, rtS_abs, isN_none, isN_tuple, isN_int, isN_list, isN_bool, List.map_cons, List.map_nil, List.length_cons, List.length_nil, List.cons_append, List.nil_append, List.getElem?_cons_zero, List.getElem?_cons_succ, List.set_cons_zero, List.set_cons_succ, Option.map_some, Option.map_none, Option.some.injEq, SV.d.injEq, SV.own.injEq, PyData.int.injEq, PyData.bool.injEq, PyData.tuple.injEq, PyData.list.injEq, PyData.str.injEq, List.cons.injEq, exists_eq_left, exists_eq_left', exists_eq_right, exists_and_left, exists_and_right, exists_const, and_true, true_and, if_true, if_false, reduceCtorEq, false_or, or_false, false_and, and_false, Bool.not_true, Bool.not_false, Bool.false_eq_true, ite_true, ite_false, reduceIte, Bool.true_eq_false, Nat.reduceAdd, nc0, nc1, nc2, nc3, nc4, nc5, nc6, nc7, nc8, Int.reduceBEq, beq_self_eq_true, Bool.and_true, Bool.true_and, Bool.and_false, Bool.false_and, Nat.zero_add, isi_tuple]; exact h
    | list _ => simp only [t_is_log_of, sSeq, sNext, sExpr, sRet, sIf, sSet, sSetF, sAsg, sPar, sRaise, sFor, sApp, sExt, sPop, sItem, sAugI, sAug, sFrz, sMove, sBreak, sCont, gN, gT, gsNil, gsCons, dVar, vS_d, vS_own, vS_town, vS_v, vS_scr, fz_scr, dC, dOp, dCall, dCallK, daNil, daCons, dTup, dLst, dSl, doNone, doSome, dIf, dAnd, dOr, dNot, dNeg, dOne, dTwoI, dChain, dLc, bVal, bTru, bScr, dLenS, dIxS, dCount, dRest, sCount, sRest, bNot, bAnd, bOr, bYes, wInt2, wIntC, wAdd, wMul, wIx, wIn, wEqD, wIsN, oLen, oTuple, oList, oAll, oSum, oIsi, iSeq, iRng1D, iRng2D, iEnumD, iZipD, fz_d, fz_own, fz_town, fz_v, fz_abs, asDs, fzB, wipeD, asD_d, asD_own, asD_bor, asL_list, asL_tuple, asL_own, asL_bor, asL_int, asL_bool, asL_none, asS_list, asS_tuple, asS_own, asS_bor, tru_bool, tru_int, tru_none, tru_tuple, tru_list, tru_own, tru_bor, stO_d, stO_own, stO_town, stO_v, stO_abs, rtS_d, rtS_own, rtS_bor, rtS_v, rtS_abs, isN_none, isN_tuple, isN_int, isN_list, isN_bool, List.map_cons, List.map_nil, List.length_cons, List.length_nil, List.cons_append, List.nil_append, List.getElem?_cons_zero, List.getElem?_cons_succ, List.set_cons_zero, List.set_cons_succ, Option.map_some, Option.map_none, Option.some.injEq, SV.d.injEq, SV.own.injEq, PyData.int.injEq, PyData.bool.injEq, PyData.tuple.injEq, PyData.list.injEq, PyData.str.injEq, List.cons.injEq, exists_eq_left, exists_eq_left', exists_eq_right, exists_and_left, exists_and_right, exists_const, and_true, true_and, if_true, if_false, reduceCtorEq, false_or, or_false, false_and, and_false, Bool.not_true, Bool.not_false, Bool.false_eq_true, ite_true, ite_false, reduceIte, Bool.true_eq_false, Nat.reduceAdd, nc0, nc1, nc2, nc3, nc4, nc5, nc6, nc7, nc8, Int.reduceBEq, beq_self_eq_true, Bool.and_true, Bool.true_and, Bool.and_false, Bool.false_and, Nat.zero_add, isi_tuple]; exact h
    | dict _ => simp only [t_is_log_of, sSeq, sNext, sExpr, sRet, sIf, sSet, sSetF, sAsg, sPar, sRaise, sFor, sApp, sExt, sPop, sItem, sAugI, sAug, sFrz, sMove, sBreak, sCont, gN, gT, gsNil, gsCons, dVar, vS_d, vS_own, vS_town, vS_v, vS_scr, fz_scr, dC, dOp, dCall, dCallK, daNil, daCons, dTup, dLst, dSl, doNone, doSome, dIf, dAnd, dOr, dNot, dNeg, dOne, dTwoI, dChain, dLc, bVal, bTru, bScr, dLenS, dIxS, dCount, dRest, sCount, sRest, bNot, bAnd, bOr, bYes, wInt2, wIntC, wAdd, wMul, wIx, wIn, wEqD, wIsN, oLen, oTuple, oList, oAll, oSum, oIsi, iSeq, iRng1D, iRng2D, iEnumD, iZipD, fz_d, fz_own, fz_town, fz_v, fz_abs, asDs, fzB, wipeD, asD_d, asD_own, asD_bor, asL_list, asL_tuple, asL_own, asL_bor, asL_int, asL_bool, asL_none, asS_list, asS_tuple, asS_own, asS_bor, tru_bool, tru_int, tru_none, tru_tuple, tru_list, tru_own, tru_bor, stO_d, stO_own, stO_town, stO_v, stO_abs, rtS_d, rtS_own, rtS_bor, rtS_v, rtS_abs, isN_none, isN_tuple, isN_int, isN_list, isN_bool, List.map_cons, List.map_nil, List.length_cons, List.length_nil, List.cons_append, List.nil_append, List.getElem?_cons_zero, List.getElem?_cons_succ, List.set_cons_zero, List.set_cons_succ, Option.map_some, Option.map_none, Option.some.injEq, SV.d.injEq, SV.own.injEq, PyData.int.injEq, PyData.bool.injEq, PyData.tuple.injEq, PyData.list.injEq, PyData.str.injEq, List.cons.injEq, exists_eq_left, exists_eq_left', exists_eq_right, exists_and_left, exists_and_right, exists_const, and_true, true_and, if_true, if_false, reduceCtorEq, false_or, or_false, false_and, and_false, Bool.not_true, Bool.not_false, Bool.false_eq_true, ite_true, ite_false, reduceIte, Bool.true_eq_false, Nat.reduceAdd, nc0, nc1, nc2, nc3, nc4, nc5, nc6, nc7, nc8, Int.reduceBEq, beq_self_eq_true, Bool.and_true, Bool.true_and, Bool.and_false, Bool.false_and, Nat.zero_add, isi_tuple]; exact h
  · exact h.elim
def sp_is_log (c : Ct) : Spec := fun ss Q Ex => match ss with
  | [.d p, .d v] => if isProtocol p = true then Q (.d (.bool (isLog (match p with | .tuple (.int m :: _) => m | _ => 0) v))) else Ex (.ref (c.cls "InvalidProtocol"))
  | _ => False
theorem at_is_log {c : Ct} {many : Int} {r : List PyData} {v : PyData} {Q : SV → Prop} {Ex : XP} (h : isProtocol (.tuple (.int many :: r)) = true) : sp_is_log c [.d (.tuple (.int many :: r)), .d v] Q Ex = Q (.d (.bool (isLog many v))) := by
  show (if isProtocol (.tuple (.int many :: r)) = true then _ else _) = _
  rw [if_pos h]
def t_is_log (c : Ct) : DS :=
  (sSeq (sExpr (dCall (sp_check_protocol c) (daCons (dVar 0) daNil)))
  (sRet (dCall (sp_is_log_of c) (daCons (dVar 0) (daCons (dVar 1) daNil)))))
theorem rd_is_log (c : Ct) (ss : List SV) (Q : SV → Prop) (Ex : XP) (h : sp_is_log c ss Q Ex) : t_is_log c { nx := fun _ => Q (.d .none), rt := Q } (startD 2 ss) Ex := by
  unfold sp_is_log at h
  split at h
  · rename_i p v
    show t_is_log c _ [some (.d p), some (.d v)] Ex
    simp only [t_is_log, sSeq, sNext, sExpr, sRet, sIf, sSet, sSetF, sAsg, sPar, sRaise, sFor, sApp, sExt, sPop, sItem, sAugI, sAug, sFrz, sMove, sBreak, sCont, gN, gT, gsNil, gsCons, dVar, vS_d, vS_own, vS_town, vS_v, vS_scr, fz_scr, dC, dOp, dCall, dCallK, daNil, daCons, dTup, dLst, dSl, doNone, doSome, dIf, dAnd, dOr, dNot, dNeg, dOne, dTwoI, dChain, dLc, bVal, bTru, bScr, dLenS, dIxS, dCount, dRest, sCount, sRest, bNot, bAnd, bOr, bYes, wInt2, wIntC, wAdd, wMul, wIx, wIn, wEqD, wIsN, oLen, oTuple, oList, oAll, oSum, oIsi, iSeq, iRng1D, iRng2D, iEnumD, iZipD, fz_d, fz_own, fz_town, fz_v, fz_abs, asDs, fzB, wipeD, asD_d, asD_own, asD_bor, asL_list, asL_tuple, asL_own, asL_bor, asL_int, asL_bool, asL_none, asS_list, asS_tuple, asS_own, asS_bor, tru_bool, tru_int, tru_none, tru_tuple, tru_list, tru_own, tru_bor, stO_d, stO_own, stO_town, stO_v, stO_abs, rtS_d, rtS_own, rtS_bor, rtS_v, rtS_abs, isN_none, isN_tuple, isN_int, isN_list, isN_bool, List.map_cons, List.map_nil, List.length_cons, List.length_nil, List.cons_append, List.nil_append, List.getElem?_cons_zero, List.getElem?_cons_succ, List.set_cons_zero, List.set_cons_succ, Option.map_some, Option.map_none, Option.some.injEq, SV.d.injEq, SV.own.injEq, PyData.int.injEq, PyData.bool.injEq, PyData.tuple.injEq, PyData.list.injEq, PyData.str.injEq, List.cons.injEq, exists_eq_left, exists_eq_left', exists_eq_right, exists_and_left, exists_and_right, exists_const, and_true, true_and, if_true, if_false, reduceCtorEq, false_or, or_false, false_and, and_false, Bool.not_true, Bool.not_false, Bool.false_eq_true, ite_true, ite_false, reduceIte, Bool.true_eq_false, Nat.reduceAdd, nc0, nc1, nc2, nc3, nc4, nc5, nc6, nc7, nc8, Int.reduceBEq, beq_self_eq_true, Bool.and_true, Bool.true_and, Bool.and_false, Bool.false_and, Nat.zero_add, at_check_protocol]
    cases e : isProtocol p with
    | false =>
      simp only [e, List.map_cons, List.map_nil, List.length_cons, List.length_nil, List.cons_append, List.nil_append, List.getElem?_cons_zero, List.getElem?_cons_succ, List.set_cons_zero, List.set_cons_succ, Option.map_some, Option.map_none, Option.some.injEq, SV.d.injEq, SV.own.injEq, PyData.int.injEq, PyData.bool.injEq, PyData.tuple.injEq, PyData.list.injEq, PyData.str.injEq, List.cons.injEq, exists_eq_left, exists_eq_left', exists_eq_right, exists_and_left, exists_and_right, exists_const, and_true, true_and, if_true, if_false, reduceCtorEq, false_or, or_false, false_and, and_false, Bool.not_true, Bool.not_false, Bool.false_eq_true, ite_true, ite_false, reduceIte, Bool.true_eq_false, Nat.reduceAdd, nc0, nc1, nc2, nc3, nc4, nc5, nc6, nc7, nc8, Int.reduceBEq, beq_self_eq_true, Bool.and_true, Bool.true_and, Bool.and_false, Bool.false_and, Nat.zero_add] at h ⊢
      exact h
    | true =>
      obtain ⟨many, rules, rfl, hm, _⟩ := isP_shape e
      simp only [e, List.map_cons, List.map_nil, List.length_cons, List.length_nil, List.cons_append, List.nil_append, List.getElem?_cons_zero, List.getElem?_cons_succ, List.set_cons_zero, List.set_cons_succ, Option.map_some, Option.map_none, Option.some.injEq, SV.d.injEq, SV.own.injEq, PyData.int.injEq, PyData.bool.injEq, PyData.tuple.injEq, PyData.list.injEq, PyData.str.injEq, List.cons.injEq, exists_eq_left, exists_eq_left', exists_eq_right, exists_and_left, exists_and_right, exists_const, and_true, true_and, if_true, if_false, reduceCtorEq, false_or, or_false, false_and, and_false, Bool.not_true, Bool.not_false, Bool.false_eq_true, ite_true, ite_false, reduceIte, Bool.true_eq_false, Nat.reduceAdd, nc0, nc1, nc2, nc3, nc4, nc5, nc6, nc7, nc8, Int.reduceBEq, beq_self_eq_true, Bool.and_true, Bool.true_and, Bool.and_false, Bool.false_and, Nat.zero_add, at_is_log_of] at h ⊢
      exact h
  · exact h.elim
/-! ### the law's small words -/
def sp_law_is (c : Ct) : Spec := fun ss Q _ => match ss with
  | [.d (.bool a), .d (.bool b)] => Q (.d (.bool (a == b)))
  | _ => False
theorem at_law_is {c : Ct} {a b : Bool} {Q : SV → Prop} {Ex : XP} : sp_law_is c [.d (.bool a), .d (.bool b)] Q Ex = Q (.d (.bool (a == b))) := rfl
def t_law_is (c : Ct) : DS :=
  (sRet (dAnd (dOne (oIsi "bool") (dVar 0)) (dOp (wEqD fun b => b) (dVar 0) (dVar 1))))
theorem rd_law_is (c : Ct) (ss : List SV) (Q : SV → Prop) (Ex : XP) (h : sp_law_is c ss Q Ex) : t_law_is c { nx := fun _ => Q (.d .none), rt := Q } (startD 2 ss) Ex := by
  unfold sp_law_is at h
  split at h
  · rename_i a b
    show t_law_is c _ [some (.d (.bool a)), some (.d (.bool b))] Ex
    simp only [t_law_is, sSeq, sNext, sExpr, sRet, sIf, sSet, sSetF, sAsg, sPar, sRaise, sFor, sApp, sExt, sPop, sItem, sAugI, sAug, sFrz, sMove, sBreak, sCont, gN, gT, gsNil, gsCons, dVar, vS_d, vS_own, vS_town, vS_v, vS_scr, fz_scr, dC, dOp, dCall, dCallK, daNil, daCons, dTup, dLst, dSl, doNone, doSome, dIf, dAnd, dOr, dNot, dNeg, dOne, dTwoI, dChain, dLc, bVal, bTru, bScr, dLenS, dIxS, dCount, dRest, sCount, sRest, bNot, bAnd, bOr, bYes, wInt2, wIntC, wAdd, wMul, wIx, wIn, wEqD, wIsN, oLen, oTuple, oList, oAll, oSum, oIsi, iSeq, iRng1D, iRng2D, iEnumD, iZipD, fz_d, fz_own, fz_town, fz_v, fz_abs, asDs, fzB, wipeD, asD_d, asD_own, asD_bor, asL_list, asL_tuple, asL_own, asL_bor, asL_int, asL_bool, asL_none, asS_list, asS_tuple, asS_own, asS_bor, tru_bool, tru_int, tru_none, tru_tuple, tru_list, tru_own, tru_bor, stO_d, stO_own, stO_town, stO_v, stO_abs, rtS_d, rtS_own, rtS_bor, rtS_v, rtS_abs, isN_none, isN_tuple, isN_int, isN_list, isN_bool, List.map_cons, List.map_nil, List.length_cons, List.length_nil, List.cons_append, List.nil_append, List.getElem?_cons_zero, List.getElem?_cons_succ, List.set_cons_zero, List.set_cons_succ, Option.map_some, Option.map_none, Option.some.injEq, SV.d.injEq, SV.own.injEq, PyData.int.injEq, PyData.bool.injEq, PyData.tuple.injEq, PyData.list.injEq, PyData.str.injEq, List.cons.injEq, exists_eq_left, exists_eq_left', exists_eq_right, exists_and_left, exists_and_right, exists_const, and_true, true_and, if_true, if_false, reduceCtorEq, false_or, or_false, false_and, and_false, Bool.not_true, Bool.not_false, Bool.false_eq_true, ite_true, ite_false, reduceIte, Bool.true_eq_false, Nat.reduceAdd, nc0, nc1, nc2, nc3, nc4, nc5, nc6, nc7, nc8, Int.reduceBEq, beq_self_eq_true, Bool.and_true, Bool.true_and, Bool.and_false, Bool.false_and, Nat.zero_add, isi_bool, sh_bool, eqv_bool]
    exact h
  · exact h.elim
end DL
/-! Ta: rules and protocols as records. -/
namespace DL
open PySem PySem.Spec PyProof.Rows L2
structure Rl where
  s : Nat
  t : Nat
  n : Nat
  bars : List Nat
  eff : List Nat
  deriving DecidableEq
def Rl.enc (r : Rl) : PyData := .tuple [.int r.s, .int r.t, .int r.n, .tuple (r.bars.map (fun n : Nat => PyData.int (n : Int))), .tuple (r.eff.map (fun n : Nat => PyData.int (n : Int)))]
structure Rl.Ok (m : Nat) (r : Rl) : Prop where
  s : r.s < m
  t : r.t < m
  n : r.n < m
  bars : ∀ b ∈ r.bars, 1 ≤ b ∧ b < m
  asc : r.bars.Pairwise (· < ·)
  nb : r.n ∉ r.bars
  len : r.eff.length = m
  eff : ∀ e ∈ r.eff, e < m
  z : r.eff.head? = some 0
theorem nats_of {lo m : Nat} : ∀ {xs : List PyData}, (xs.all fun x => isBetween x (lo : Int) ((m : Int) - 1)) = true → ∃ ns : List Nat, xs = ns.map (fun n : Nat => PyData.int (n : Int)) ∧ ∀ n ∈ ns, lo ≤ n ∧ n < m
  | [], _ => ⟨[], rfl, fun _ z => nomatch z⟩
  | x :: xs, h => by
    rw [List.all_cons, Bool.and_eq_true] at h
    obtain ⟨ns, rfl, hn⟩ := nats_of (xs := xs) h.2
    obtain ⟨i, rfl, h1, h2⟩ := btw_int h.1
    obtain ⟨k, rfl⟩ := Int.eq_ofNat_of_zero_le (show 0 ≤ i by omega)
    refine ⟨k :: ns, rfl, fun n hz => ?_⟩
    rcases List.mem_cons.mp hz with rfl | hz
    · omega
    · exact hn n hz
theorem all_btw {lo m : Nat} (ns : List Nat) : ((ns.map (fun n : Nat => PyData.int (n : Int))).all fun x => isBetween x (lo : Int) ((m : Int) - 1)) = true ↔ ∀ n ∈ ns, lo ≤ n ∧ n < m := by
  rw [List.all_eq_true]
  constructor
  · intro h n hn
    have := h _ (List.mem_map.mpr ⟨n, hn, rfl⟩)
    simp only [isBetween, Bool.and_eq_true, decide_eq_true_eq] at this
    omega
  · intro h x hx
    obtain ⟨n, hn, rfl⟩ := List.mem_map.mp hx
    have := h n hn
    simp only [isBetween, Bool.and_eq_true, decide_eq_true_eq]
    omega
theorem btw_lt {n lo m : Nat} : isBetween (.int (n : Int)) (lo : Int) ((m : Int) - 1) = true ↔ lo ≤ n ∧ n < m := by
  simp only [isBetween, Bool.and_eq_true, decide_eq_true_eq]
  omega
theorem asc_nats : ∀ ns : List Nat, ascL (ns.map (fun n : Nat => PyData.int (n : Int))) = true ↔ ns.Pairwise (· < ·)
  | [] => by simp [ascL]
  | [x] => by simp [ascL]
  | x :: y :: r => by
    have ih := asc_nats (y :: r)
    show (ltD (.int (x : Int)) (.int (y : Int)) && ascL ((y :: r).map (fun n : Nat => PyData.int (n : Int)))) = true ↔ _
    rw [Bool.and_eq_true, ih, List.pairwise_cons (a := x)]
    simp only [ltD, decide_eq_true_eq]
    constructor
    · rintro ⟨h1, h2⟩
      refine ⟨fun z hz => ?_, h2⟩
      rcases List.mem_cons.mp hz with rfl | hz
      · omega
      · have := (List.pairwise_cons.mp h2).1 z hz
        omega
    · rintro ⟨h1, h2⟩
      exact ⟨by have := h1 y List.mem_cons_self; omega, h2⟩
theorem eqv_nat (i j : Nat) : PyData.eqv (.int (i : Int)) (.int (j : Int)) = decide (i = j) := by
  rw [eqv_int]
  by_cases h : i = j
  · subst h
    simp
  · rw [decide_eq_false h, beq_eq_false_iff_ne]
    omega
theorem any_nat (i : Nat) (ns : List Nat) : ((ns.map (fun n : Nat => PyData.int (n : Int))).any fun z => PyData.eqv z (.int (i : Int))) = decide (i ∈ ns) := by
  induction ns with
  | nil => rfl
  | cons x r ih =>
    rw [List.map_cons, List.any_cons, ih, eqv_nat]
    by_cases h : x = i
    · simp [h]
    · have h' : ¬ i = x := fun e => h e.symm
      simp [h, h']
theorem isRule_enc {m : Nat} (r : Rl) : isRule m r.enc = true ↔ r.Ok m := by
  have key : isRule m r.enc = (areBetween (.tuple [.int (r.s : Int), .int (r.t : Int), .int (r.n : Int)]) 0 ((m : Int) - 1) && (areBetween (.tuple (r.bars.map (fun n : Nat => PyData.int (n : Int)))) 1 ((m : Int) - 1) && (ascL (r.bars.map (fun n : Nat => PyData.int (n : Int))) && !((r.bars.map (fun n : Nat => PyData.int (n : Int))).any fun z => PyData.eqv z (.int (r.n : Int))))) &&
      (areBetween (.tuple (r.eff.map (fun n : Nat => PyData.int (n : Int)))) 0 ((m : Int) - 1) && (decide (((r.eff.map (fun n : Nat => PyData.int (n : Int))).length : Int) = m) && (match r.eff.map (fun n : Nat => PyData.int (n : Int)) with | e :: _ => PyData.eqv e (.int 0) | [] => false)))) := rfl
  have e3 : areBetween (.tuple [.int (r.s : Int), .int (r.t : Int), .int (r.n : Int)]) 0 ((m : Int) - 1) = true ↔ r.s < m ∧ r.t < m ∧ r.n < m := by
    show (([r.s, r.t, r.n].map (fun n : Nat => PyData.int (n : Int))).all fun x => isBetween x ((0 : Nat) : Int) ((m : Int) - 1)) = true ↔ _
    rw [all_btw]
    simp
  have eb : areBetween (.tuple (r.bars.map (fun n : Nat => PyData.int (n : Int)))) 1 ((m : Int) - 1) = true ↔ ∀ b ∈ r.bars, 1 ≤ b ∧ b < m := all_btw (lo := 1) r.bars
  have ee : areBetween (.tuple (r.eff.map (fun n : Nat => PyData.int (n : Int)))) 0 ((m : Int) - 1) = true ↔ ∀ b ∈ r.eff, 0 ≤ b ∧ b < m := all_btw (lo := 0) r.eff
  have ez : (match r.eff.map (fun n : Nat => PyData.int (n : Int)) with | e :: _ => PyData.eqv e (.int 0) | [] => false) = true ↔ r.eff.head? = some 0 := by
    cases r.eff with
    | nil => simp
    | cons x xs =>
      show PyData.eqv (.int (x : Int)) (.int ((0 : Nat) : Int)) = true ↔ _
      rw [eqv_nat]
      simp
  rw [key, Bool.and_eq_true, Bool.and_eq_true, Bool.and_eq_true, Bool.and_eq_true, Bool.and_eq_true, Bool.and_eq_true, e3, eb, ee, asc_nats, any_nat, ez, decide_eq_true_eq, List.length_map]
  constructor
  · rintro ⟨⟨⟨h1, h2, h3⟩, h4, h5, h6⟩, h7, h8, h9⟩
    exact ⟨h1, h2, h3, h4, h5, by simpa using h6, by omega, fun e he => (h7 e he).2, h9⟩
  · rintro ⟨h1, h2, h3, h4, h5, h6, h7, h8, h9⟩
    exact ⟨⟨⟨h1, h2, h3⟩, h4, h5, by simpa using h6⟩, fun e he => ⟨Nat.zero_le _, h8 e he⟩, by omega, h9⟩
theorem isRule_dec {m : Nat} {v : PyData} (h : isRule m v = true) : ∃ r : Rl, v = r.enc ∧ r.Ok m := by
  have h0 := h
  unfold isRule at h
  split at h
  · rename_i s t n bars eff
    rw [Bool.and_eq_true, Bool.and_eq_true, Bool.and_eq_true, Bool.and_eq_true] at h
    obtain ⟨⟨h1, h2, h3⟩, h4, h5⟩ := h
    obtain ⟨ns, e1, _⟩ := nats_of (lo := 0) (m := m) (xs := [s, t, n]) h1
    match ns, e1 with
    | [a, b, c], e1 =>
      simp only [List.map_cons, List.map_nil, List.cons.injEq, and_true] at e1
      obtain ⟨rfl, rfl, rfl⟩ := e1
      cases bars with
      | tuple bs =>
        cases eff with
        | tuple es =>
          obtain ⟨ms, rfl, _⟩ := nats_of (lo := 1) (m := m) (xs := bs) h2
          obtain ⟨ks, rfl, _⟩ := nats_of (lo := 0) (m := m) (xs := es) h4
          have e : (⟨a, b, c, ms, ks⟩ : Rl).enc = .tuple [.int (a : Int), .int (b : Int), .int (c : Int), .tuple (ms.map (fun n : Nat => PyData.int (n : Int))), .tuple (ks.map (fun n : Nat => PyData.int (n : Int)))] := rfl
          rw [← e] at h0
          exact ⟨_, e.symm, (isRule_enc _).mp h0⟩
        | none => cases h5
        | bool _ => cases h5
        | int _ => cases h5
        | str _ => cases h5
        | list _ => cases h5
        | dict _ => cases h5
      | none => cases h3
      | bool _ => cases h3
      | int _ => cases h3
      | str _ => cases h3
      | list _ => cases h3
      | dict _ => cases h3
  · cases h
structure Pr where
  m : Nat
  rules : List Rl
  deriving DecidableEq
def Pr.enc (p : Pr) : PyData := .tuple [.int p.m, .tuple (p.rules.map Rl.enc)]
structure Pr.Ok (p : Pr) : Prop where
  lo : 2 ≤ p.m
  hi : p.m ≤ 5
  few : p.rules.length ≤ 8
  rules : ∀ r ∈ p.rules, r.Ok p.m
theorem isP_enc (p : Pr) : isProtocol p.enc = true ↔ p.Ok := by
  have key : isProtocol p.enc = (decide (2 ≤ (p.m : Int)) && decide ((p.m : Int) ≤ 5) && (decide ((p.rules.map Rl.enc).length ≤ 8) && (p.rules.map Rl.enc).all (isRule p.m))) := rfl
  rw [key, Bool.and_eq_true, Bool.and_eq_true, Bool.and_eq_true, decide_eq_true_eq, decide_eq_true_eq, decide_eq_true_eq, List.length_map, List.all_eq_true]
  constructor
  · rintro ⟨⟨h1, h2⟩, h3, h4⟩
    exact ⟨by omega, by omega, h3, fun r hr => (isRule_enc r).mp (h4 _ (List.mem_map.mpr ⟨r, hr, rfl⟩))⟩
  · rintro ⟨h1, h2, h3, h4⟩
    refine ⟨⟨by omega, by omega⟩, h3, fun x hx => ?_⟩
    obtain ⟨r, hr, rfl⟩ := List.mem_map.mp hx
    exact (isRule_enc r).mpr (h4 r hr)
theorem rules_dec {m : Nat} : ∀ {xs : List PyData}, (∀ x ∈ xs, isRule m x = true) → ∃ rs : List Rl, xs = rs.map Rl.enc
  | [], _ => ⟨[], rfl⟩
  | x :: xs, h => by
    obtain ⟨rs, rfl⟩ := rules_dec fun y hy => h y (List.mem_cons_of_mem _ hy)
    obtain ⟨r, rfl, _⟩ := isRule_dec (h x List.mem_cons_self)
    exact ⟨r :: rs, rfl⟩
theorem isP_dec {v : PyData} (h : isProtocol v = true) : ∃ p : Pr, v = p.enc ∧ p.Ok := by
  obtain ⟨many, rules, rfl, h1, h2, h3, h4⟩ := isP_shape h
  obtain ⟨k, rfl⟩ := Int.eq_ofNat_of_zero_le (show 0 ≤ many by omega)
  obtain ⟨rs, rfl⟩ := rules_dec h4
  exact ⟨⟨k, rs⟩, rfl, (isP_enc ⟨k, rs⟩).mp h⟩
/-- counts of caches -/
def natsD (ns : List Nat) : PyData := .tuple (ns.map (fun n : Nat => PyData.int (n : Int)))
theorem isConf_nats {m : Nat} (ns : List Nat) : isConf m (natsD ns) = true ↔ ns.length = m ∧ 1 ≤ ns.sum ∧ ns.sum ≤ 8 := by
  unfold isConf
  have e1 : sumD (natsD ns) = (ns.sum : Int) := by
    show sumD (.tuple (ns.map (fun n : Nat => PyData.int (n : Int)))) = _
    rw [nats_ints, sumD_ints, nats_sum]
  have e2 : areCounts m (natsD ns) = true ↔ ns.length = m := by
    show (decide (((ns.map (fun n : Nat => PyData.int (n : Int))).length : Int) = m) && (ns.map (fun n : Nat => PyData.int (n : Int))).all isCount) = true ↔ _
    rw [Bool.and_eq_true, decide_eq_true_eq, List.length_map, List.all_eq_true]
    constructor
    · rintro ⟨h, _⟩
      omega
    · intro h
      refine ⟨by omega, fun x hx => ?_⟩
      obtain ⟨n, _, rfl⟩ := List.mem_map.mp hx
      simp [isCount]
  rw [Bool.and_eq_true, Bool.and_eq_true, decide_eq_true_eq, decide_eq_true_eq, e1, e2]
  constructor
  · rintro ⟨h1, h2, h3⟩
    exact ⟨h1, by omega, by omega⟩
  · rintro ⟨h1, h2, h3⟩
    exact ⟨h1, by omega, by omega⟩
theorem isConf_dec {m : Nat} {v : PyData} (h : isConf m v = true) : ∃ ns : List Nat, v = natsD ns ∧ ns.length = m ∧ 1 ≤ ns.sum ∧ ns.sum ≤ 8 := by
  obtain ⟨ns, rfl, h1, h2, h3⟩ := conf_ints h
  exact ⟨ns, rfl, by omega, h2, h3⟩
theorem isPat_nats {m : Nat} (ns : List Nat) : isPat m (natsD ns) = true ↔ ns.length = m ∧ ns.head? = some 0 ∧ 1 ≤ ns.sum ∧ ns.sum ≤ 4 := by
  unfold isPat
  have e1 : sumD (natsD ns) = (ns.sum : Int) := by
    show sumD (.tuple (ns.map (fun n : Nat => PyData.int (n : Int)))) = _
    rw [nats_ints, sumD_ints, nats_sum]
  have e2 : areCounts m (natsD ns) = true ↔ ns.length = m := by
    show (decide (((ns.map (fun n : Nat => PyData.int (n : Int))).length : Int) = m) && (ns.map (fun n : Nat => PyData.int (n : Int))).all isCount) = true ↔ _
    rw [Bool.and_eq_true, decide_eq_true_eq, List.length_map, List.all_eq_true]
    constructor
    · rintro ⟨h, _⟩
      omega
    · intro h
      refine ⟨by omega, fun x hx => ?_⟩
      obtain ⟨n, _, rfl⟩ := List.mem_map.mp hx
      simp [isCount]
  have e3 : (match natsD ns with | .tuple (x :: _) => PyData.eqv x (.int 0) | _ => false) = true ↔ ns.head? = some 0 := by
    cases ns with
    | nil => simp [natsD]
    | cons x xs =>
      show PyData.eqv (.int (x : Int)) (.int ((0 : Nat) : Int)) = true ↔ _
      rw [eqv_nat]
      simp
  rw [Bool.and_eq_true, Bool.and_eq_true, Bool.and_eq_true, decide_eq_true_eq, decide_eq_true_eq, e1, e2]
  constructor
  · rintro ⟨h1, h2, h3, h4⟩
    exact ⟨h1, e3.mp h2, by omega, by omega⟩
  · rintro ⟨h1, h2, h3, h4⟩
    exact ⟨h1, e3.mpr h2, by omega, by omega⟩
theorem isPat_dec {m : Nat} {v : PyData} (h : isPat m v = true) : ∃ ns : List Nat, v = natsD ns ∧ ns.length = m ∧ ns.head? = some 0 ∧ 1 ≤ ns.sum ∧ ns.sum ≤ 4 := by
  have h0 := h
  unfold isPat at h
  rw [Bool.and_eq_true] at h
  obtain ⟨ns, rfl, _⟩ := counts_ints h.1
  exact ⟨ns, rfl, (isPat_nats ns).mp h0⟩
end DL
/-! Fc: drawing: readings, specifications. -/
namespace DL
open PySem PySem.Spec PyProof.Rows L2
def sp_law_draw (c : Ct) : Spec := fun ss Q _ => match ss with
  | [s, .town, .d (.int many)] => ∃ n, n ≤ 63 ∧ s = scr c n ∧ (0 < many ∧ many < 1073741824) ∧ ∀ r : Int, 0 ≤ r → r < many → Q (.d (.int r))
  | _ => False
theorem use_draw {c : Ct} {n : Nat} {m : Int} {Q : SV → Prop} {Ex : XP} (hn : n ≤ 63) (hm : 0 < m ∧ m < 1073741824) (q : ∀ r : Int, 0 ≤ r → r < m → Q (.d (.int r))) : sp_law_draw c [scr c n, .town, .d (.int m)] Q Ex := ⟨n, hn, rfl, hm, q⟩
def t_law_draw (c : Ct) : DS :=
  (sSeq (sCount (dVar 1) (dOp wAdd (dCount (dVar 1)) (dC (.d (.int 1)))))
  (sSeq (sSetF 3 (dIf (bScr c (dVar 0)) (dOp (wIntC (fun _ j => 0 < j) fun i j => i % j) (dCount (dVar 1)) (dLenS c (dVar 0))) (dC (.d (.int 0)))))
  (sSeq (sSetF 4 (dRest (dVar 1) (dVar 3) (dIf (bScr c (dVar 0)) (dIxS c (dVar 0) (dVar 3)) (dC (.d (.int 0))))))
  (sSeq (sIf (bVal (dOp (wInt2 fun i j => .bool (decide (j ≤ i))) (dVar 4) (dOp (wIntC CPow fun i j => i ^ j.toNat) (dC (.d (.int 10))) (dC (.d (.int 18)))))) (sSeq (sRest (dVar 1) (dOp (wIntC CDiv fun i j => i / j) (dVar 4) (dVar 2)) (dVar 3))
    (sRet (dOp (wIntC (fun _ j => 0 < j) fun i j => i % j) (dVar 4) (dVar 2)))) sNext)
  (sSeq (sSetF 5 (dOp (wIntC (fun _ j => 0 < j) fun i j => i % j) (dOp wAdd (dVar 4) (dOp wMul (dC (.d (.int 104729))) (dCount (dVar 1)))) (dC (.d (.int 4294967291)))))
  (sSeq (sSetF 5 (dOp (wIntC (fun _ j => 0 < j) fun i j => i % j) (dOp (wIntC CPow fun i j => i ^ j.toNat) (dVar 5) (dC (.d (.int 5)))) (dC (.d (.int 4294967279)))))
  (sRet (dOp (wIntC (fun _ j => 0 < j) fun i j => i % j) (dOp (wIntC CDiv fun i j => i / j) (dOp (wIntC (fun _ j => 0 < j) fun i j => i % j) (dOp wAdd (dOp wMul (dOp (wIntC CDiv fun i j => i / j) (dVar 5) (dC (.d (.int 64)))) (dC (.d (.int 69621)))) (dVar 5)) (dC (.d (.int 4294967231)))) (dC (.d (.int 8)))) (dVar 2)))))))))
theorem rd_law_draw (c : Ct) (ss : List SV) (Q : SV → Prop) (Ex : XP) (h : sp_law_draw c ss Q Ex) : t_law_draw c { nx := fun _ => Q (.d .none), rt := Q } (startD 6 ss) Ex := by
  unfold sp_law_draw at h
  split at h
  · rename_i s many
    obtain ⟨n, hn, rfl, hm, q⟩ := h
    show t_law_draw c _ [some (scr c n), some .town, some (.d (.int many)), none, none, none] Ex
    have hq : ∀ r : Int, Q (.d (.int (r % many))) := fun r => q _ (Int.emod_nonneg _ (by omega)) (Int.emod_lt_of_pos _ hm.1)
    have b1 : ∀ x y : Int, 0 < y → y < 4294967296 → (x % y).natAbs < 2 ^ 64 := fun x y h1 h2 => by
      have := Int.emod_nonneg x (show y ≠ 0 by omega)
      have := Int.emod_lt_of_pos x h1
      omega
    have tail : ∀ x n3 : Int, CMul 104729 n3 ∧ 0 < (4294967291 : Int) ∧ CPow ((x + 104729 * n3) % 4294967291) 5 ∧ 0 < (4294967279 : Int) ∧ CDiv (((x + 104729 * n3) % 4294967291) ^ Int.toNat 5 % 4294967279) 64 ∧
        CMul (((x + 104729 * n3) % 4294967291) ^ Int.toNat 5 % 4294967279 / 64) 69621 ∧ 0 < (4294967231 : Int) ∧
        CDiv ((((x + 104729 * n3) % 4294967291) ^ Int.toNat 5 % 4294967279 / 64 * 69621 + ((x + 104729 * n3) % 4294967291) ^ Int.toNat 5 % 4294967279) % 4294967231) 8 ∧ 0 < many ∧
        Q (.d (.int ((((x + 104729 * n3) % 4294967291) ^ Int.toNat 5 % 4294967279 / 64 * 69621 + ((x + 104729 * n3) % 4294967291) ^ Int.toNat 5 % 4294967279) % 4294967231 / 8 % many))) := fun x n3 =>
      ⟨.inl ⟨by decide, by decide⟩, by decide, ⟨by decide, by decide, b1 _ _ (by decide) (by decide)⟩, by decide, ⟨by decide, by decide⟩, .inr ⟨by decide, by decide⟩, by decide, ⟨by decide, by decide⟩, hm.1, hq _⟩
    have p18 : CPow 10 18 := ⟨by decide, by decide, by decide⟩
    have rest : ∀ (x : Int) (k : Nat), k < 63 → (CPow 10 18 ∧ if decide ((10 : Int) ^ Int.toNat 18 ≤ x) = true then CDiv x many ∧ ∃ k' : Nat, (k : Int) = (k' : Int) ∧ k' < 63 ∧ 0 < many ∧ Q (.d (.int (x % many))) else
        ∀ n3 : Int, CMul 104729 n3 ∧ 0 < (4294967291 : Int) ∧ CPow ((x + 104729 * n3) % 4294967291) 5 ∧ 0 < (4294967279 : Int) ∧ CDiv (((x + 104729 * n3) % 4294967291) ^ Int.toNat 5 % 4294967279) 64 ∧
        CMul (((x + 104729 * n3) % 4294967291) ^ Int.toNat 5 % 4294967279 / 64) 69621 ∧ 0 < (4294967231 : Int) ∧
        CDiv ((((x + 104729 * n3) % 4294967291) ^ Int.toNat 5 % 4294967279 / 64 * 69621 + ((x + 104729 * n3) % 4294967291) ^ Int.toNat 5 % 4294967279) % 4294967231) 8 ∧ 0 < many ∧
        Q (.d (.int ((((x + 104729 * n3) % 4294967291) ^ Int.toNat 5 % 4294967279 / 64 * 69621 + ((x + 104729 * n3) % 4294967291) ^ Int.toNat 5 % 4294967279) % 4294967231 / 8 % many)))) := fun x k hk => by
      refine ⟨p18, ?_⟩
      split
      · exact ⟨hm, k, rfl, hk, hm.1, hq x⟩
      · exact tail x
    simp only [t_law_draw, sSeq, sNext, sExpr, sRet, sIf, sSet, sSetF, sAsg, sPar, sRaise, sFor, sApp, sExt, sPop, sItem, sAugI, sAug, sFrz, sMove, sBreak, sCont, gN, gT, gsNil, gsCons, dVar, vS_d, vS_own, vS_town, vS_v, vS_scr, fz_scr, dC, dOp, dCall, dCallK, daNil, daCons, dTup, dLst, dSl, doNone, doSome, dIf, dAnd, dOr, dNot, dNeg, dOne, dTwoI, dChain, dLc, bVal, bTru, bScr, dLenS, dIxS, dCount, dRest, sCount, sRest, bNot, bAnd, bOr, bYes, wInt2, wIntC, wAdd, wMul, wIx, wIn, wEqD, wIsN, oLen, oTuple, oList, oAll, oSum, oIsi, iSeq, iRng1D, iRng2D, iEnumD, iZipD, fz_d, fz_own, fz_town, fz_v, fz_abs, asDs, fzB, wipeD, asD_d, asD_own, asD_bor, asL_list, asL_tuple, asL_own, asL_bor, asL_int, asL_bool, asL_none, asS_list, asS_tuple, asS_own, asS_bor, tru_bool, tru_int, tru_none, tru_tuple, tru_list, tru_own, tru_bor, stO_d, stO_own, stO_town, stO_v, stO_abs, rtS_d, rtS_own, rtS_bor, rtS_v, rtS_abs, isN_none, isN_tuple, isN_int, isN_list, isN_bool, List.map_cons, List.map_nil, List.length_cons, List.length_nil, List.cons_append, List.nil_append, List.getElem?_cons_zero, List.getElem?_cons_succ, List.set_cons_zero, List.set_cons_succ, Option.map_some, Option.map_none, Option.some.injEq, SV.d.injEq, SV.own.injEq, PyData.int.injEq, PyData.bool.injEq, PyData.tuple.injEq, PyData.list.injEq, PyData.str.injEq, List.cons.injEq, exists_eq_left, exists_eq_left', exists_eq_right, exists_and_left, exists_and_right, exists_const, and_true, true_and, if_true, if_false, reduceCtorEq, false_or, or_false, false_and, and_false, Bool.not_true, Bool.not_false, Bool.false_eq_true, ite_true, ite_false, reduceIte, Bool.true_eq_false, Nat.reduceAdd, nc0, nc1, nc2, nc3, nc4, nc5, nc6, nc7, nc8, Int.reduceBEq, beq_self_eq_true, Bool.and_true, Bool.true_and, Bool.and_false, Bool.false_and, Nat.zero_add]
    intro n1
    refine ⟨n, rfl, ?_⟩
    by_cases h0 : n = 0
    · subst h0
      simp only [bne_self_eq_false, List.map_cons, List.map_nil, List.length_cons, List.length_nil, List.cons_append, List.nil_append, List.getElem?_cons_zero, List.getElem?_cons_succ, List.set_cons_zero, List.set_cons_succ, Option.map_some, Option.map_none, Option.some.injEq, SV.d.injEq, SV.own.injEq, PyData.int.injEq, PyData.bool.injEq, PyData.tuple.injEq, PyData.list.injEq, PyData.str.injEq, List.cons.injEq, exists_eq_left, exists_eq_left', exists_eq_right, exists_and_left, exists_and_right, exists_const, and_true, true_and, if_true, if_false, reduceCtorEq, false_or, or_false, false_and, and_false, Bool.not_true, Bool.not_false, Bool.false_eq_true, ite_true, ite_false, reduceIte, Bool.true_eq_false, Nat.reduceAdd, nc0, nc1, nc2, nc3, nc4, nc5, nc6, nc7, nc8, Int.reduceBEq, beq_self_eq_true, Bool.and_true, Bool.true_and, Bool.and_false, Bool.false_and, Nat.zero_add]
      exact ⟨0, rfl, by decide, 0, rfl, fun x => rest x 0 (by decide)⟩
    · have e0 : (n != 0) = true := by simpa using h0
      simp only [e0, List.map_cons, List.map_nil, List.length_cons, List.length_nil, List.cons_append, List.nil_append, List.getElem?_cons_zero, List.getElem?_cons_succ, List.set_cons_zero, List.set_cons_succ, Option.map_some, Option.map_none, Option.some.injEq, SV.d.injEq, SV.own.injEq, PyData.int.injEq, PyData.bool.injEq, PyData.tuple.injEq, PyData.list.injEq, PyData.str.injEq, List.cons.injEq, exists_eq_left, exists_eq_left', exists_eq_right, exists_and_left, exists_and_right, exists_const, and_true, true_and, if_true, if_false, reduceCtorEq, false_or, or_false, false_and, and_false, Bool.not_true, Bool.not_false, Bool.false_eq_true, ite_true, ite_false, reduceIte, Bool.true_eq_false, Nat.reduceAdd, nc0, nc1, nc2, nc3, nc4, nc5, nc6, nc7, nc8, Int.reduceBEq, beq_self_eq_true, Bool.and_true, Bool.true_and, Bool.and_false, Bool.false_and, Nat.zero_add]
      intro n2
      obtain ⟨k, hk⟩ := Int.eq_ofNat_of_zero_le (Int.emod_nonneg n2 (show (n : Int) ≠ 0 by omega))
      have hk2 := Int.emod_lt_of_pos n2 (show (0 : Int) < n by omega)
      rw [hk] at hk2
      have hk3 : k < n := Int.ofNat_lt.mp hk2
      refine ⟨n, rfl, by omega, k, hk, by omega, n, rfl, ?_⟩
      simp only [e0, List.map_cons, List.map_nil, List.length_cons, List.length_nil, List.cons_append, List.nil_append, List.getElem?_cons_zero, List.getElem?_cons_succ, List.set_cons_zero, List.set_cons_succ, Option.map_some, Option.map_none, Option.some.injEq, SV.d.injEq, SV.own.injEq, PyData.int.injEq, PyData.bool.injEq, PyData.tuple.injEq, PyData.list.injEq, PyData.str.injEq, List.cons.injEq, exists_eq_left, exists_eq_left', exists_eq_right, exists_and_left, exists_and_right, exists_const, and_true, true_and, if_true, if_false, reduceCtorEq, false_or, or_false, false_and, and_false, Bool.not_true, Bool.not_false, Bool.false_eq_true, ite_true, ite_false, reduceIte, Bool.true_eq_false, Nat.reduceAdd, nc0, nc1, nc2, nc3, nc4, nc5, nc6, nc7, nc8, Int.reduceBEq, beq_self_eq_true, Bool.and_true, Bool.true_and, Bool.and_false, Bool.false_and, Nat.zero_add]
      exact ⟨n, rfl, k, hk, hk3, fun _ x => by rw [hk]; exact rest x k (by omega)⟩
  · exact h.elim
theorem rngD_nat : ∀ (n lo : Nat), rngD (lo : Int) n = (List.range' lo n).map (fun n : Nat => PyData.int (n : Int))
  | 0, _ => rfl
  | n + 1, lo => by
    show PyData.int lo :: rngD ((lo : Int) + 1) n = _
    rw [List.range'_succ, List.map_cons]
    have := rngD_nat n (lo + 1)
    rw [← this]
    rfl
/-- every turn keeps its own value, or drops it -/
theorem lcR_sub {g : DG} {tt : DB} {te : DT} {δ : Env} (P : PyData → Prop) : ∀ (ds : List PyData) {Q : List PyData → Prop}, (∀ x ∈ ds, ∀ k : Option PyData → Prop, (P x → k (some x)) → k none → lcT g tt te δ x k) →
    (∀ ys : List PyData, ys.Sublist ds → (∀ y ∈ ys, P y) → Q ys) → lcR g tt te δ ds Q
  | [], Q, _, q => q [] (List.Sublist.refl _) (fun _ z => nomatch z)
  | x :: xs, Q, h, q => by
    rw [lcR_cons]
    refine h x List.mem_cons_self _ (fun hd => ?_) ?_
    · refine lcR_sub P xs (fun y hy => h y (List.mem_cons_of_mem _ hy)) fun ys hl hy => q (x :: ys) (List.Sublist.cons_cons x hl) fun z hz => ?_
      rcases List.mem_cons.mp hz with rfl | hz
      · exact hd
      · exact hy z hz
    · exact lcR_sub P xs (fun y hy => h y (List.mem_cons_of_mem _ hy)) fun ys hl hy => q ys (hl.cons x) hy
/-- a for whose turns each append one of P to the list in slot i -/
def sp_law_rule (c : Ct) : Spec := fun ss Q _ => match ss with
  | [s, .town, .d (.int many)] => ∃ n m : Nat, n ≤ 63 ∧ s = scr c n ∧ many = m ∧ (2 ≤ m ∧ m ≤ 5) ∧ ∀ r : Rl, r.Ok m → Q (.d r.enc)
  | _ => False
theorem use_rule {c : Ct} {n m : Nat} {Q : SV → Prop} {Ex : XP} (hn : n ≤ 63) (hm : 2 ≤ m ∧ m ≤ 5) (q : ∀ r : Rl, r.Ok m → Q (.d r.enc)) : sp_law_rule c [scr c n, .town, .d (.int m)] Q Ex := ⟨n, m, hn, rfl, rfl, hm, q⟩
theorem nat_draw {m : Nat} {i : Int} (h0 : 0 ≤ i) (h1 : i < m) : ∃ k : Nat, i = k ∧ k < m := by
  obtain ⟨k, rfl⟩ := Int.eq_ofNat_of_zero_le h0
  exact ⟨k, rfl, by omega⟩
def t_law_rule (c : Ct) : DS :=
  (sSeq (sSetF 3 (dIf (bVal (dOp (wEqD fun b => b) (dCall (sp_law_draw c) (daCons (dVar 0) (daCons (dVar 1) (daCons (dC (.d (.int 2))) daNil)))) (dC (.d (.int 0))))) (dCall (sp_law_draw c) (daCons (dVar 0) (daCons (dVar 1) (daCons (dVar 2) daNil)))) (dC (.d (.int 0)))))
  (sSeq (sSetF 4 (dCall (sp_law_draw c) (daCons (dVar 0) (daCons (dVar 1) (daCons (dVar 2) daNil)))))
  (sSeq (sSetF 5 (dIf (bVal (dOp (wEqD fun b => b) (dCall (sp_law_draw c) (daCons (dVar 0) (daCons (dVar 1) (daCons (dC (.d (.int 3))) daNil)))) (dC (.d (.int 0))))) (dCall (sp_law_draw c) (daCons (dVar 0) (daCons (dVar 1) (daCons (dVar 2) daNil)))) (dC (.d (.int 0)))))
  (sSeq (sSetF 6 (dOne oTuple (dLc (iRng2D (dC (.d (.int 1))) (dVar 2)) (gN 8) (bAnd (bVal (dOp (wEqD fun b => b) (dCall (sp_law_draw c) (daCons (dVar 0) (daCons (dVar 1) (daCons (dC (.d (.int 5))) daNil)))) (dC (.d (.int 0))))) (bVal (dOp (wEqD fun b => !b) (dVar 8) (dVar 5)))) (dVar 8) [8])))
  (sSeq (sSet 7 (dC (.own [(.int 0)])))
  (sSeq (sFor (iRng2D (dC (.d (.int 1))) (dVar 2)) (gN 8) (sApp 7 (dOp wIx (dTup (daCons (dVar 8) (daCons (dC (.d (.int 0))) (daCons (dCall (sp_law_draw c) (daCons (dVar 0) (daCons (dVar 1) (daCons (dVar 2) daNil)))) daNil)))) (dCall (sp_law_draw c) (daCons (dVar 0) (daCons (dVar 1) (daCons (dC (.d (.int 3))) daNil)))))))
  (sRet (dTup (daCons (dVar 3) (daCons (dVar 4) (daCons (dVar 5) (daCons (dVar 6) (daCons (dOne oTuple (dVar 7)) daNil)))))))))))))
theorem rd_law_rule (c : Ct) (ss : List SV) (Q : SV → Prop) (Ex : XP) (h : sp_law_rule c ss Q Ex) : t_law_rule c { nx := fun _ => Q (.d .none), rt := Q } (startD 9 ss) Ex := by
  unfold sp_law_rule at h
  split at h
  · rename_i s many
    obtain ⟨n, m, hn, rfl, rfl, hm, q⟩ := h
    show t_law_rule c _ [some (scr c n), some .town, some (.d (.int m)), none, none, none, none, none, none] Ex
    have d2 : ∀ {Q : SV → Prop} {Ex : XP}, (∀ r : Int, Q (.d (.int r))) → sp_law_draw c [scr c n, .town, .d (.int 2)] Q Ex := fun q => use_draw hn (by omega) fun r _ _ => q r
    have d3 : ∀ {Q : SV → Prop} {Ex : XP}, (∀ r : Int, 0 ≤ r → r < 3 → Q (.d (.int r))) → sp_law_draw c [scr c n, .town, .d (.int 3)] Q Ex := fun q => use_draw hn (by omega) fun r h0 h1 => q r h0 h1
    have d5 : ∀ {Q : SV → Prop} {Ex : XP}, (∀ r : Int, Q (.d (.int r))) → sp_law_draw c [scr c n, .town, .d (.int 5)] Q Ex := fun q => use_draw hn (by omega) fun r _ _ => q r
    have dm : ∀ {Q : SV → Prop} {Ex : XP}, (∀ r : Nat, r < m → Q (.d (.int r))) → sp_law_draw c [scr c n, .town, .d (.int m)] Q Ex := fun q => use_draw hn (by omega) fun r h0 h1 => by
      obtain ⟨k, rfl, hk⟩ := nat_draw h0 h1
      exact q k hk
    unfold t_law_rule
    refine seqK fun K hK => ?_
    suffices nxt : ∀ r : Nat, r < m → K [some (scr c n), some .town, some (.d (.int m)), some (.d (.int r)), none, none, none, none, none] by
      simp only [sSeq, sNext, sExpr, sRet, sIf, sSet, sSetF, sAsg, sPar, sRaise, sFor, sApp, sExt, sPop, sItem, sAugI, sAug, sFrz, sMove, sBreak, sCont, gN, gT, gsNil, gsCons, dVar, vS_d, vS_own, vS_town, vS_v, vS_scr, fz_scr, dC, dOp, dCall, dCallK, daNil, daCons, dTup, dLst, dSl, doNone, doSome, dIf, dAnd, dOr, dNot, dNeg, dOne, dTwoI, dChain, dLc, bVal, bTru, bScr, dLenS, dIxS, dCount, dRest, sCount, sRest, bNot, bAnd, bOr, bYes, wInt2, wIntC, wAdd, wMul, wIx, wIn, wEqD, wIsN, oLen, oTuple, oList, oAll, oSum, oIsi, iSeq, iRng1D, iRng2D, iEnumD, iZipD, fz_d, fz_own, fz_town, fz_v, fz_abs, asDs, fzB, wipeD, asD_d, asD_own, asD_bor, asL_list, asL_tuple, asL_own, asL_bor, asL_int, asL_bool, asL_none, asS_list, asS_tuple, asS_own, asS_bor, tru_bool, tru_int, tru_none, tru_tuple, tru_list, tru_own, tru_bor, stO_d, stO_own, stO_town, stO_v, stO_abs, rtS_d, rtS_own, rtS_bor, rtS_v, rtS_abs, isN_none, isN_tuple, isN_int, isN_list, isN_bool, List.map_cons, List.map_nil, List.length_cons, List.length_nil, List.cons_append, List.nil_append, List.getElem?_cons_zero, List.getElem?_cons_succ, List.set_cons_zero, List.set_cons_succ, Option.map_some, Option.map_none, Option.some.injEq, SV.d.injEq, SV.own.injEq, PyData.int.injEq, PyData.bool.injEq, PyData.tuple.injEq, PyData.list.injEq, PyData.str.injEq, List.cons.injEq, exists_eq_left, exists_eq_left', exists_eq_right, exists_and_left, exists_and_right, exists_const, and_true, true_and, if_true, if_false, reduceCtorEq, false_or, or_false, false_and, and_false, Bool.not_true, Bool.not_false, Bool.false_eq_true, ite_true, ite_false, reduceIte, Bool.true_eq_false, Nat.reduceAdd, nc0, nc1, nc2, nc3, nc4, nc5, nc6, nc7, nc8, Int.reduceBEq, beq_self_eq_true, Bool.and_true, Bool.true_and, Bool.and_false, Bool.false_and, Nat.zero_add]
      refine d2 fun x1 => ?_
      simp only [sSeq, sNext, sExpr, sRet, sIf, sSet, sSetF, sAsg, sPar, sRaise, sFor, sApp, sExt, sPop, sItem, sAugI, sAug, sFrz, sMove, sBreak, sCont, gN, gT, gsNil, gsCons, dVar, vS_d, vS_own, vS_town, vS_v, vS_scr, fz_scr, dC, dOp, dCall, dCallK, daNil, daCons, dTup, dLst, dSl, doNone, doSome, dIf, dAnd, dOr, dNot, dNeg, dOne, dTwoI, dChain, dLc, bVal, bTru, bScr, dLenS, dIxS, dCount, dRest, sCount, sRest, bNot, bAnd, bOr, bYes, wInt2, wIntC, wAdd, wMul, wIx, wIn, wEqD, wIsN, oLen, oTuple, oList, oAll, oSum, oIsi, iSeq, iRng1D, iRng2D, iEnumD, iZipD, fz_d, fz_own, fz_town, fz_v, fz_abs, asDs, fzB, wipeD, asD_d, asD_own, asD_bor, asL_list, asL_tuple, asL_own, asL_bor, asL_int, asL_bool, asL_none, asS_list, asS_tuple, asS_own, asS_bor, tru_bool, tru_int, tru_none, tru_tuple, tru_list, tru_own, tru_bor, stO_d, stO_own, stO_town, stO_v, stO_abs, rtS_d, rtS_own, rtS_bor, rtS_v, rtS_abs, isN_none, isN_tuple, isN_int, isN_list, isN_bool, List.map_cons, List.map_nil, List.length_cons, List.length_nil, List.cons_append, List.nil_append, List.getElem?_cons_zero, List.getElem?_cons_succ, List.set_cons_zero, List.set_cons_succ, Option.map_some, Option.map_none, Option.some.injEq, SV.d.injEq, SV.own.injEq, PyData.int.injEq, PyData.bool.injEq, PyData.tuple.injEq, PyData.list.injEq, PyData.str.injEq, List.cons.injEq, exists_eq_left, exists_eq_left', exists_eq_right, exists_and_left, exists_and_right, exists_const, and_true, true_and, if_true, if_false, reduceCtorEq, false_or, or_false, false_and, and_false, Bool.not_true, Bool.not_false, Bool.false_eq_true, ite_true, ite_false, reduceIte, Bool.true_eq_false, Nat.reduceAdd, nc0, nc1, nc2, nc3, nc4, nc5, nc6, nc7, nc8, Int.reduceBEq, beq_self_eq_true, Bool.and_true, Bool.true_and, Bool.and_false, Bool.false_and, Nat.zero_add, sh_int, eqv_int]
      split
      · exact dm fun r hr => nxt r hr
      · exact nxt 0 (by omega)
    intro s hs
    refine hK _ ?_
    clear hK K
    refine seqK fun K hK => ?_
    simp only [sSeq, sNext, sExpr, sRet, sIf, sSet, sSetF, sAsg, sPar, sRaise, sFor, sApp, sExt, sPop, sItem, sAugI, sAug, sFrz, sMove, sBreak, sCont, gN, gT, gsNil, gsCons, dVar, vS_d, vS_own, vS_town, vS_v, vS_scr, fz_scr, dC, dOp, dCall, dCallK, daNil, daCons, dTup, dLst, dSl, doNone, doSome, dIf, dAnd, dOr, dNot, dNeg, dOne, dTwoI, dChain, dLc, bVal, bTru, bScr, dLenS, dIxS, dCount, dRest, sCount, sRest, bNot, bAnd, bOr, bYes, wInt2, wIntC, wAdd, wMul, wIx, wIn, wEqD, wIsN, oLen, oTuple, oList, oAll, oSum, oIsi, iSeq, iRng1D, iRng2D, iEnumD, iZipD, fz_d, fz_own, fz_town, fz_v, fz_abs, asDs, fzB, wipeD, asD_d, asD_own, asD_bor, asL_list, asL_tuple, asL_own, asL_bor, asL_int, asL_bool, asL_none, asS_list, asS_tuple, asS_own, asS_bor, tru_bool, tru_int, tru_none, tru_tuple, tru_list, tru_own, tru_bor, stO_d, stO_own, stO_town, stO_v, stO_abs, rtS_d, rtS_own, rtS_bor, rtS_v, rtS_abs, isN_none, isN_tuple, isN_int, isN_list, isN_bool, List.map_cons, List.map_nil, List.length_cons, List.length_nil, List.cons_append, List.nil_append, List.getElem?_cons_zero, List.getElem?_cons_succ, List.set_cons_zero, List.set_cons_succ, Option.map_some, Option.map_none, Option.some.injEq, SV.d.injEq, SV.own.injEq, PyData.int.injEq, PyData.bool.injEq, PyData.tuple.injEq, PyData.list.injEq, PyData.str.injEq, List.cons.injEq, exists_eq_left, exists_eq_left', exists_eq_right, exists_and_left, exists_and_right, exists_const, and_true, true_and, if_true, if_false, reduceCtorEq, false_or, or_false, false_and, and_false, Bool.not_true, Bool.not_false, Bool.false_eq_true, ite_true, ite_false, reduceIte, Bool.true_eq_false, Nat.reduceAdd, nc0, nc1, nc2, nc3, nc4, nc5, nc6, nc7, nc8, Int.reduceBEq, beq_self_eq_true, Bool.and_true, Bool.true_and, Bool.and_false, Bool.false_and, Nat.zero_add]
    refine dm fun t ht => ?_
    refine hK _ ?_
    clear hK K
    refine seqK fun K hK => ?_
    suffices nxt : ∀ r : Nat, r < m → K [some (scr c n), some .town, some (.d (.int m)), some (.d (.int s)), some (.d (.int t)), some (.d (.int r)), none, none, none] by
      simp only [sSeq, sNext, sExpr, sRet, sIf, sSet, sSetF, sAsg, sPar, sRaise, sFor, sApp, sExt, sPop, sItem, sAugI, sAug, sFrz, sMove, sBreak, sCont, gN, gT, gsNil, gsCons, dVar, vS_d, vS_own, vS_town, vS_v, vS_scr, fz_scr, dC, dOp, dCall, dCallK, daNil, daCons, dTup, dLst, dSl, doNone, doSome, dIf, dAnd, dOr, dNot, dNeg, dOne, dTwoI, dChain, dLc, bVal, bTru, bScr, dLenS, dIxS, dCount, dRest, sCount, sRest, bNot, bAnd, bOr, bYes, wInt2, wIntC, wAdd, wMul, wIx, wIn, wEqD, wIsN, oLen, oTuple, oList, oAll, oSum, oIsi, iSeq, iRng1D, iRng2D, iEnumD, iZipD, fz_d, fz_own, fz_town, fz_v, fz_abs, asDs, fzB, wipeD, asD_d, asD_own, asD_bor, asL_list, asL_tuple, asL_own, asL_bor, asL_int, asL_bool, asL_none, asS_list, asS_tuple, asS_own, asS_bor, tru_bool, tru_int, tru_none, tru_tuple, tru_list, tru_own, tru_bor, stO_d, stO_own, stO_town, stO_v, stO_abs, rtS_d, rtS_own, rtS_bor, rtS_v, rtS_abs, isN_none, isN_tuple, isN_int, isN_list, isN_bool, List.map_cons, List.map_nil, List.length_cons, List.length_nil, List.cons_append, List.nil_append, List.getElem?_cons_zero, List.getElem?_cons_succ, List.set_cons_zero, List.set_cons_succ, Option.map_some, Option.map_none, Option.some.injEq, SV.d.injEq, SV.own.injEq, PyData.int.injEq, PyData.bool.injEq, PyData.tuple.injEq, PyData.list.injEq, PyData.str.injEq, List.cons.injEq, exists_eq_left, exists_eq_left', exists_eq_right, exists_and_left, exists_and_right, exists_const, and_true, true_and, if_true, if_false, reduceCtorEq, false_or, or_false, false_and, and_false, Bool.not_true, Bool.not_false, Bool.false_eq_true, ite_true, ite_false, reduceIte, Bool.true_eq_false, Nat.reduceAdd, nc0, nc1, nc2, nc3, nc4, nc5, nc6, nc7, nc8, Int.reduceBEq, beq_self_eq_true, Bool.and_true, Bool.true_and, Bool.and_false, Bool.false_and, Nat.zero_add]
      refine d3 fun x1 _ _ => ?_
      simp only [sSeq, sNext, sExpr, sRet, sIf, sSet, sSetF, sAsg, sPar, sRaise, sFor, sApp, sExt, sPop, sItem, sAugI, sAug, sFrz, sMove, sBreak, sCont, gN, gT, gsNil, gsCons, dVar, vS_d, vS_own, vS_town, vS_v, vS_scr, fz_scr, dC, dOp, dCall, dCallK, daNil, daCons, dTup, dLst, dSl, doNone, doSome, dIf, dAnd, dOr, dNot, dNeg, dOne, dTwoI, dChain, dLc, bVal, bTru, bScr, dLenS, dIxS, dCount, dRest, sCount, sRest, bNot, bAnd, bOr, bYes, wInt2, wIntC, wAdd, wMul, wIx, wIn, wEqD, wIsN, oLen, oTuple, oList, oAll, oSum, oIsi, iSeq, iRng1D, iRng2D, iEnumD, iZipD, fz_d, fz_own, fz_town, fz_v, fz_abs, asDs, fzB, wipeD, asD_d, asD_own, asD_bor, asL_list, asL_tuple, asL_own, asL_bor, asL_int, asL_bool, asL_none, asS_list, asS_tuple, asS_own, asS_bor, tru_bool, tru_int, tru_none, tru_tuple, tru_list, tru_own, tru_bor, stO_d, stO_own, stO_town, stO_v, stO_abs, rtS_d, rtS_own, rtS_bor, rtS_v, rtS_abs, isN_none, isN_tuple, isN_int, isN_list, isN_bool, List.map_cons, List.map_nil, List.length_cons, List.length_nil, List.cons_append, List.nil_append, List.getElem?_cons_zero, List.getElem?_cons_succ, List.set_cons_zero, List.set_cons_succ, Option.map_some, Option.map_none, Option.some.injEq, SV.d.injEq, SV.own.injEq, PyData.int.injEq, PyData.bool.injEq, PyData.tuple.injEq, PyData.list.injEq, PyData.str.injEq, List.cons.injEq, exists_eq_left, exists_eq_left', exists_eq_right, exists_and_left, exists_and_right, exists_const, and_true, true_and, if_true, if_false, reduceCtorEq, false_or, or_false, false_and, and_false, Bool.not_true, Bool.not_false, Bool.false_eq_true, ite_true, ite_false, reduceIte, Bool.true_eq_false, Nat.reduceAdd, nc0, nc1, nc2, nc3, nc4, nc5, nc6, nc7, nc8, Int.reduceBEq, beq_self_eq_true, Bool.and_true, Bool.true_and, Bool.and_false, Bool.false_and, Nat.zero_add, sh_int, eqv_int]
      split
      · exact dm fun r hr => nxt r hr
      · exact nxt 0 (by omega)
    intro nd hnd
    refine hK _ ?_
    clear hK K
    refine seqK fun K hK => ?_
    simp only [sSeq, sNext, sExpr, sRet, sIf, sSet, sSetF, sAsg, sPar, sRaise, sFor, sApp, sExt, sPop, sItem, sAugI, sAug, sFrz, sMove, sBreak, sCont, gN, gT, gsNil, gsCons, dVar, vS_d, vS_own, vS_town, vS_v, vS_scr, fz_scr, dC, dOp, dCall, dCallK, daNil, daCons, dTup, dLst, dSl, doNone, doSome, dIf, dAnd, dOr, dNot, dNeg, dOne, dTwoI, dChain, dLc, bVal, bTru, bScr, dLenS, dIxS, dCount, dRest, sCount, sRest, bNot, bAnd, bOr, bYes, wInt2, wIntC, wAdd, wMul, wIx, wIn, wEqD, wIsN, oLen, oTuple, oList, oAll, oSum, oIsi, iSeq, iRng1D, iRng2D, iEnumD, iZipD, fz_d, fz_own, fz_town, fz_v, fz_abs, asDs, fzB, wipeD, asD_d, asD_own, asD_bor, asL_list, asL_tuple, asL_own, asL_bor, asL_int, asL_bool, asL_none, asS_list, asS_tuple, asS_own, asS_bor, tru_bool, tru_int, tru_none, tru_tuple, tru_list, tru_own, tru_bor, stO_d, stO_own, stO_town, stO_v, stO_abs, rtS_d, rtS_own, rtS_bor, rtS_v, rtS_abs, isN_none, isN_tuple, isN_int, isN_list, isN_bool, List.map_cons, List.map_nil, List.length_cons, List.length_nil, List.cons_append, List.nil_append, List.getElem?_cons_zero, List.getElem?_cons_succ, List.set_cons_zero, List.set_cons_succ, Option.map_some, Option.map_none, Option.some.injEq, SV.d.injEq, SV.own.injEq, PyData.int.injEq, PyData.bool.injEq, PyData.tuple.injEq, PyData.list.injEq, PyData.str.injEq, List.cons.injEq, exists_eq_left, exists_eq_left', exists_eq_right, exists_and_left, exists_and_right, exists_const, and_true, true_and, if_true, if_false, reduceCtorEq, false_or, or_false, false_and, and_false, Bool.not_true, Bool.not_false, Bool.false_eq_true, ite_true, ite_false, reduceIte, Bool.true_eq_false, Nat.reduceAdd, nc0, nc1, nc2, nc3, nc4, nc5, nc6, nc7, nc8, Int.reduceBEq, beq_self_eq_true, Bool.and_true, Bool.true_and, Bool.and_false, Bool.false_and, Nat.zero_add]
    have er : rngD 1 ((m : Int) - 1).toNat = (List.range' 1 (m - 1)).map (fun n : Nat => PyData.int (n : Int)) := by
      rw [show ((m : Int) - 1).toNat = m - 1 by omega]
      exact rngD_nat (m - 1) 1
    rw [er]
    refine ⟨by decide, by decide, by omega, by omega, ?_⟩
    refine lcR_sub (fun x => x ≠ .int (nd : Int)) _ (fun x hx k h1 h2 => ?_) fun ys hs1 hs2 => ?_
    · obtain ⟨z, hz, rfl⟩ := List.mem_map.mp hx
      simp only [lcT, sSeq, sNext, sExpr, sRet, sIf, sSet, sSetF, sAsg, sPar, sRaise, sFor, sApp, sExt, sPop, sItem, sAugI, sAug, sFrz, sMove, sBreak, sCont, gN, gT, gsNil, gsCons, dVar, vS_d, vS_own, vS_town, vS_v, vS_scr, fz_scr, dC, dOp, dCall, dCallK, daNil, daCons, dTup, dLst, dSl, doNone, doSome, dIf, dAnd, dOr, dNot, dNeg, dOne, dTwoI, dChain, dLc, bVal, bTru, bScr, dLenS, dIxS, dCount, dRest, sCount, sRest, bNot, bAnd, bOr, bYes, wInt2, wIntC, wAdd, wMul, wIx, wIn, wEqD, wIsN, oLen, oTuple, oList, oAll, oSum, oIsi, iSeq, iRng1D, iRng2D, iEnumD, iZipD, fz_d, fz_own, fz_town, fz_v, fz_abs, asDs, fzB, wipeD, asD_d, asD_own, asD_bor, asL_list, asL_tuple, asL_own, asL_bor, asL_int, asL_bool, asL_none, asS_list, asS_tuple, asS_own, asS_bor, tru_bool, tru_int, tru_none, tru_tuple, tru_list, tru_own, tru_bor, stO_d, stO_own, stO_town, stO_v, stO_abs, rtS_d, rtS_own, rtS_bor, rtS_v, rtS_abs, isN_none, isN_tuple, isN_int, isN_list, isN_bool, List.map_cons, List.map_nil, List.length_cons, List.length_nil, List.cons_append, List.nil_append, List.getElem?_cons_zero, List.getElem?_cons_succ, List.set_cons_zero, List.set_cons_succ, Option.map_some, Option.map_none, Option.some.injEq, SV.d.injEq, SV.own.injEq, PyData.int.injEq, PyData.bool.injEq, PyData.tuple.injEq, PyData.list.injEq, PyData.str.injEq, List.cons.injEq, exists_eq_left, exists_eq_left', exists_eq_right, exists_and_left, exists_and_right, exists_const, and_true, true_and, if_true, if_false, reduceCtorEq, false_or, or_false, false_and, and_false, Bool.not_true, Bool.not_false, Bool.false_eq_true, ite_true, ite_false, reduceIte, Bool.true_eq_false, Nat.reduceAdd, nc0, nc1, nc2, nc3, nc4, nc5, nc6, nc7, nc8, Int.reduceBEq, beq_self_eq_true, Bool.and_true, Bool.true_and, Bool.and_false, Bool.false_and, Nat.zero_add]
      refine d5 fun x1 => ?_
      simp only [sSeq, sNext, sExpr, sRet, sIf, sSet, sSetF, sAsg, sPar, sRaise, sFor, sApp, sExt, sPop, sItem, sAugI, sAug, sFrz, sMove, sBreak, sCont, gN, gT, gsNil, gsCons, dVar, vS_d, vS_own, vS_town, vS_v, vS_scr, fz_scr, dC, dOp, dCall, dCallK, daNil, daCons, dTup, dLst, dSl, doNone, doSome, dIf, dAnd, dOr, dNot, dNeg, dOne, dTwoI, dChain, dLc, bVal, bTru, bScr, dLenS, dIxS, dCount, dRest, sCount, sRest, bNot, bAnd, bOr, bYes, wInt2, wIntC, wAdd, wMul, wIx, wIn, wEqD, wIsN, oLen, oTuple, oList, oAll, oSum, oIsi, iSeq, iRng1D, iRng2D, iEnumD, iZipD, fz_d, fz_own, fz_town, fz_v, fz_abs, asDs, fzB, wipeD, asD_d, asD_own, asD_bor, asL_list, asL_tuple, asL_own, asL_bor, asL_int, asL_bool, asL_none, asS_list, asS_tuple, asS_own, asS_bor, tru_bool, tru_int, tru_none, tru_tuple, tru_list, tru_own, tru_bor, stO_d, stO_own, stO_town, stO_v, stO_abs, rtS_d, rtS_own, rtS_bor, rtS_v, rtS_abs, isN_none, isN_tuple, isN_int, isN_list, isN_bool, List.map_cons, List.map_nil, List.length_cons, List.length_nil, List.cons_append, List.nil_append, List.getElem?_cons_zero, List.getElem?_cons_succ, List.set_cons_zero, List.set_cons_succ, Option.map_some, Option.map_none, Option.some.injEq, SV.d.injEq, SV.own.injEq, PyData.int.injEq, PyData.bool.injEq, PyData.tuple.injEq, PyData.list.injEq, PyData.str.injEq, List.cons.injEq, exists_eq_left, exists_eq_left', exists_eq_right, exists_and_left, exists_and_right, exists_const, and_true, true_and, if_true, if_false, reduceCtorEq, false_or, or_false, false_and, and_false, Bool.not_true, Bool.not_false, Bool.false_eq_true, ite_true, ite_false, reduceIte, Bool.true_eq_false, Nat.reduceAdd, nc0, nc1, nc2, nc3, nc4, nc5, nc6, nc7, nc8, Int.reduceBEq, beq_self_eq_true, Bool.and_true, Bool.true_and, Bool.and_false, Bool.false_and, Nat.zero_add, sh_int, eqv_int]
      split
      · split
        · rename_i hne
          refine h1 fun e => ?_
          rw [PyData.int.injEq] at e
          simp [e] at hne
        · exact h2
      · exact h2
    obtain ⟨bs, hbs, rfl⟩ := List.sublist_map_iff.mp hs1
    refine hK _ ?_
    clear hK K
    refine seqK fun K hK => ?_
    simp only [sSeq, sNext, sExpr, sRet, sIf, sSet, sSetF, sAsg, sPar, sRaise, sFor, sApp, sExt, sPop, sItem, sAugI, sAug, sFrz, sMove, sBreak, sCont, gN, gT, gsNil, gsCons, dVar, vS_d, vS_own, vS_town, vS_v, vS_scr, fz_scr, dC, dOp, dCall, dCallK, daNil, daCons, dTup, dLst, dSl, doNone, doSome, dIf, dAnd, dOr, dNot, dNeg, dOne, dTwoI, dChain, dLc, bVal, bTru, bScr, dLenS, dIxS, dCount, dRest, sCount, sRest, bNot, bAnd, bOr, bYes, wInt2, wIntC, wAdd, wMul, wIx, wIn, wEqD, wIsN, oLen, oTuple, oList, oAll, oSum, oIsi, iSeq, iRng1D, iRng2D, iEnumD, iZipD, fz_d, fz_own, fz_town, fz_v, fz_abs, asDs, fzB, wipeD, asD_d, asD_own, asD_bor, asL_list, asL_tuple, asL_own, asL_bor, asL_int, asL_bool, asL_none, asS_list, asS_tuple, asS_own, asS_bor, tru_bool, tru_int, tru_none, tru_tuple, tru_list, tru_own, tru_bor, stO_d, stO_own, stO_town, stO_v, stO_abs, rtS_d, rtS_own, rtS_bor, rtS_v, rtS_abs, isN_none, isN_tuple, isN_int, isN_list, isN_bool, List.map_cons, List.map_nil, List.length_cons, List.length_nil, List.cons_append, List.nil_append, List.getElem?_cons_zero, List.getElem?_cons_succ, List.set_cons_zero, List.set_cons_succ, Option.map_some, Option.map_none, Option.some.injEq, SV.d.injEq, SV.own.injEq, PyData.int.injEq, PyData.bool.injEq, PyData.tuple.injEq, PyData.list.injEq, PyData.str.injEq, List.cons.injEq, exists_eq_left, exists_eq_left', exists_eq_right, exists_and_left, exists_and_right, exists_const, and_true, true_and, if_true, if_false, reduceCtorEq, false_or, or_false, false_and, and_false, Bool.not_true, Bool.not_false, Bool.false_eq_true, ite_true, ite_false, reduceIte, Bool.true_eq_false, Nat.reduceAdd, nc0, nc1, nc2, nc3, nc4, nc5, nc6, nc7, nc8, Int.reduceBEq, beq_self_eq_true, Bool.and_true, Bool.true_and, Bool.and_false, Bool.false_and, Nat.zero_add]
    refine hK _ ?_
    clear hK K
    refine seqK fun K hK => ?_
    simp only [sSeq, sNext, sExpr, sRet, sIf, sSet, sSetF, sAsg, sPar, sRaise, sFor, sApp, sExt, sPop, sItem, sAugI, sAug, sFrz, sMove, sBreak, sCont, gN, gT, gsNil, gsCons, dVar, vS_d, vS_own, vS_town, vS_v, vS_scr, fz_scr, dC, dOp, dCall, dCallK, daNil, daCons, dTup, dLst, dSl, doNone, doSome, dIf, dAnd, dOr, dNot, dNeg, dOne, dTwoI, dChain, dLc, bVal, bTru, bScr, dLenS, dIxS, dCount, dRest, sCount, sRest, bNot, bAnd, bOr, bYes, wInt2, wIntC, wAdd, wMul, wIx, wIn, wEqD, wIsN, oLen, oTuple, oList, oAll, oSum, oIsi, iSeq, iRng1D, iRng2D, iEnumD, iZipD, fz_d, fz_own, fz_town, fz_v, fz_abs, asDs, fzB, wipeD, asD_d, asD_own, asD_bor, asL_list, asL_tuple, asL_own, asL_bor, asL_int, asL_bool, asL_none, asS_list, asS_tuple, asS_own, asS_bor, tru_bool, tru_int, tru_none, tru_tuple, tru_list, tru_own, tru_bor, stO_d, stO_own, stO_town, stO_v, stO_abs, rtS_d, rtS_own, rtS_bor, rtS_v, rtS_abs, isN_none, isN_tuple, isN_int, isN_list, isN_bool, List.map_cons, List.map_nil, List.length_cons, List.length_nil, List.cons_append, List.nil_append, List.getElem?_cons_zero, List.getElem?_cons_succ, List.set_cons_zero, List.set_cons_succ, Option.map_some, Option.map_none, Option.some.injEq, SV.d.injEq, SV.own.injEq, PyData.int.injEq, PyData.bool.injEq, PyData.tuple.injEq, PyData.list.injEq, PyData.str.injEq, List.cons.injEq, exists_eq_left, exists_eq_left', exists_eq_right, exists_and_left, exists_and_right, exists_const, and_true, true_and, if_true, if_false, reduceCtorEq, false_or, or_false, false_and, and_false, Bool.not_true, Bool.not_false, Bool.false_eq_true, ite_true, ite_false, reduceIte, Bool.true_eq_false, Nat.reduceAdd, nc0, nc1, nc2, nc3, nc4, nc5, nc6, nc7, nc8, Int.reduceBEq, beq_self_eq_true, Bool.and_true, Bool.true_and, Bool.and_false, Bool.false_and, Nat.zero_add]
    rw [er]
    refine ⟨by decide, by decide, by omega, by omega, ?_⟩
    refine forR_inv (fun pre δ => ∃ (es : List Nat) (o : Option SV), δ = [some (scr c n), some .town, some (.d (.int m)), some (.d (.int s)), some (.d (.int t)), some (.d (.int nd)), some (.d (.tuple (bs.map (fun n : Nat => PyData.int (n : Int))))), some (.own (es.map (fun n : Nat => PyData.int (n : Int)))), o] ∧
      es.length = pre.length + 1 ∧ (∀ e ∈ es, e < m) ∧ es.head? = some 0) _ [] _ ⟨[0], none, rfl, rfl, by simp; omega, rfl⟩ (fun p x r δ k hp hI hk => ?_) fun δ' hI => ?_
    · obtain ⟨es, o, rfl, h1, h2, h3⟩ := hI
      have hx : x ∈ (List.range' 1 (m - 1)).map (fun n : Nat => PyData.int (n : Int)) := by
        rw [List.nil_append] at hp
        rw [hp]
        exact List.mem_append_right _ List.mem_cons_self
      obtain ⟨z, hz, rfl⟩ := List.mem_map.mp hx
      have hz2 := List.mem_range'_1.mp hz
      have hl : p.length < m - 1 := by
        have := congrArg List.length hp
        rw [List.nil_append, List.length_map, List.length_range', List.length_append, List.length_cons] at this
        omega
      have nxt : ∀ e : Nat, e < m → k [some (scr c n), some .town, some (.d (.int m)), some (.d (.int s)), some (.d (.int t)), some (.d (.int nd)), some (.d (.tuple (bs.map (fun n : Nat => PyData.int (n : Int))))), some (.own (es.map (fun n : Nat => PyData.int (n : Int)) ++ [.int (e : Int)])), some (.d (.int z))] := fun e he => by
        refine hk _ ⟨es ++ [e], some (.d (.int z)), ?_, ?_, ?_, ?_⟩
        · rw [List.map_append]
          rfl
        · rw [List.length_append, List.length_append, h1]
          rfl
        · intro a ha
          rcases List.mem_append.mp ha with ha | ha
          · exact h2 a ha
          · rw [List.mem_singleton] at ha
            omega
        · cases es with
          | nil => cases h3
          | cons a as => exact h3
      simp only [sSeq, sNext, sExpr, sRet, sIf, sSet, sSetF, sAsg, sPar, sRaise, sFor, sApp, sExt, sPop, sItem, sAugI, sAug, sFrz, sMove, sBreak, sCont, gN, gT, gsNil, gsCons, dVar, vS_d, vS_own, vS_town, vS_v, vS_scr, fz_scr, dC, dOp, dCall, dCallK, daNil, daCons, dTup, dLst, dSl, doNone, doSome, dIf, dAnd, dOr, dNot, dNeg, dOne, dTwoI, dChain, dLc, bVal, bTru, bScr, dLenS, dIxS, dCount, dRest, sCount, sRest, bNot, bAnd, bOr, bYes, wInt2, wIntC, wAdd, wMul, wIx, wIn, wEqD, wIsN, oLen, oTuple, oList, oAll, oSum, oIsi, iSeq, iRng1D, iRng2D, iEnumD, iZipD, fz_d, fz_own, fz_town, fz_v, fz_abs, asDs, fzB, wipeD, asD_d, asD_own, asD_bor, asL_list, asL_tuple, asL_own, asL_bor, asL_int, asL_bool, asL_none, asS_list, asS_tuple, asS_own, asS_bor, tru_bool, tru_int, tru_none, tru_tuple, tru_list, tru_own, tru_bor, stO_d, stO_own, stO_town, stO_v, stO_abs, rtS_d, rtS_own, rtS_bor, rtS_v, rtS_abs, isN_none, isN_tuple, isN_int, isN_list, isN_bool, List.map_cons, List.map_nil, List.length_cons, List.length_nil, List.cons_append, List.nil_append, List.getElem?_cons_zero, List.getElem?_cons_succ, List.set_cons_zero, List.set_cons_succ, Option.map_some, Option.map_none, Option.some.injEq, SV.d.injEq, SV.own.injEq, PyData.int.injEq, PyData.bool.injEq, PyData.tuple.injEq, PyData.list.injEq, PyData.str.injEq, List.cons.injEq, exists_eq_left, exists_eq_left', exists_eq_right, exists_and_left, exists_and_right, exists_const, and_true, true_and, if_true, if_false, reduceCtorEq, false_or, or_false, false_and, and_false, Bool.not_true, Bool.not_false, Bool.false_eq_true, ite_true, ite_false, reduceIte, Bool.true_eq_false, Nat.reduceAdd, nc0, nc1, nc2, nc3, nc4, nc5, nc6, nc7, nc8, Int.reduceBEq, beq_self_eq_true, Bool.and_true, Bool.true_and, Bool.and_false, Bool.false_and, Nat.zero_add]
      refine dm fun a ha => ?_
      simp only [sSeq, sNext, sExpr, sRet, sIf, sSet, sSetF, sAsg, sPar, sRaise, sFor, sApp, sExt, sPop, sItem, sAugI, sAug, sFrz, sMove, sBreak, sCont, gN, gT, gsNil, gsCons, dVar, vS_d, vS_own, vS_town, vS_v, vS_scr, fz_scr, dC, dOp, dCall, dCallK, daNil, daCons, dTup, dLst, dSl, doNone, doSome, dIf, dAnd, dOr, dNot, dNeg, dOne, dTwoI, dChain, dLc, bVal, bTru, bScr, dLenS, dIxS, dCount, dRest, sCount, sRest, bNot, bAnd, bOr, bYes, wInt2, wIntC, wAdd, wMul, wIx, wIn, wEqD, wIsN, oLen, oTuple, oList, oAll, oSum, oIsi, iSeq, iRng1D, iRng2D, iEnumD, iZipD, fz_d, fz_own, fz_town, fz_v, fz_abs, asDs, fzB, wipeD, asD_d, asD_own, asD_bor, asL_list, asL_tuple, asL_own, asL_bor, asL_int, asL_bool, asL_none, asS_list, asS_tuple, asS_own, asS_bor, tru_bool, tru_int, tru_none, tru_tuple, tru_list, tru_own, tru_bor, stO_d, stO_own, stO_town, stO_v, stO_abs, rtS_d, rtS_own, rtS_bor, rtS_v, rtS_abs, isN_none, isN_tuple, isN_int, isN_list, isN_bool, List.map_cons, List.map_nil, List.length_cons, List.length_nil, List.cons_append, List.nil_append, List.getElem?_cons_zero, List.getElem?_cons_succ, List.set_cons_zero, List.set_cons_succ, Option.map_some, Option.map_none, Option.some.injEq, SV.d.injEq, SV.own.injEq, PyData.int.injEq, PyData.bool.injEq, PyData.tuple.injEq, PyData.list.injEq, PyData.str.injEq, List.cons.injEq, exists_eq_left, exists_eq_left', exists_eq_right, exists_and_left, exists_and_right, exists_const, and_true, true_and, if_true, if_false, reduceCtorEq, false_or, or_false, false_and, and_false, Bool.not_true, Bool.not_false, Bool.false_eq_true, ite_true, ite_false, reduceIte, Bool.true_eq_false, Nat.reduceAdd, nc0, nc1, nc2, nc3, nc4, nc5, nc6, nc7, nc8, Int.reduceBEq, beq_self_eq_true, Bool.and_true, Bool.true_and, Bool.and_false, Bool.false_and, Nat.zero_add]
      refine ⟨by decide, d3 fun b hb0 hb1 => ?_⟩
      have hlen : (es.map (fun n : Nat => PyData.int (n : Int))).length < sizeLine := by
        rw [List.length_map, h1, sizeLine_eq]
        omega
      obtain rfl | rfl | rfl : b = 0 ∨ b = 1 ∨ b = 2 := by omega
      · exact ⟨_, rfl, _, rfl, hlen, nxt z (by omega)⟩
      · exact ⟨_, rfl, _, rfl, hlen, nxt 0 (by omega)⟩
      · exact ⟨_, rfl, _, rfl, hlen, nxt a ha⟩
    · obtain ⟨es, o, rfl, h1, h2, h3⟩ := hI
      refine hK _ ?_
      clear hK K
      simp only [sSeq, sNext, sExpr, sRet, sIf, sSet, sSetF, sAsg, sPar, sRaise, sFor, sApp, sExt, sPop, sItem, sAugI, sAug, sFrz, sMove, sBreak, sCont, gN, gT, gsNil, gsCons, dVar, vS_d, vS_own, vS_town, vS_v, vS_scr, fz_scr, dC, dOp, dCall, dCallK, daNil, daCons, dTup, dLst, dSl, doNone, doSome, dIf, dAnd, dOr, dNot, dNeg, dOne, dTwoI, dChain, dLc, bVal, bTru, bScr, dLenS, dIxS, dCount, dRest, sCount, sRest, bNot, bAnd, bOr, bYes, wInt2, wIntC, wAdd, wMul, wIx, wIn, wEqD, wIsN, oLen, oTuple, oList, oAll, oSum, oIsi, iSeq, iRng1D, iRng2D, iEnumD, iZipD, fz_d, fz_own, fz_town, fz_v, fz_abs, asDs, fzB, wipeD, asD_d, asD_own, asD_bor, asL_list, asL_tuple, asL_own, asL_bor, asL_int, asL_bool, asL_none, asS_list, asS_tuple, asS_own, asS_bor, tru_bool, tru_int, tru_none, tru_tuple, tru_list, tru_own, tru_bor, stO_d, stO_own, stO_town, stO_v, stO_abs, rtS_d, rtS_own, rtS_bor, rtS_v, rtS_abs, isN_none, isN_tuple, isN_int, isN_list, isN_bool, List.map_cons, List.map_nil, List.length_cons, List.length_nil, List.cons_append, List.nil_append, List.getElem?_cons_zero, List.getElem?_cons_succ, List.set_cons_zero, List.set_cons_succ, Option.map_some, Option.map_none, Option.some.injEq, SV.d.injEq, SV.own.injEq, PyData.int.injEq, PyData.bool.injEq, PyData.tuple.injEq, PyData.list.injEq, PyData.str.injEq, List.cons.injEq, exists_eq_left, exists_eq_left', exists_eq_right, exists_and_left, exists_and_right, exists_const, and_true, true_and, if_true, if_false, reduceCtorEq, false_or, or_false, false_and, and_false, Bool.not_true, Bool.not_false, Bool.false_eq_true, ite_true, ite_false, reduceIte, Bool.true_eq_false, Nat.reduceAdd, nc0, nc1, nc2, nc3, nc4, nc5, nc6, nc7, nc8, Int.reduceBEq, beq_self_eq_true, Bool.and_true, Bool.true_and, Bool.and_false, Bool.false_and, Nat.zero_add]
      refine ⟨by simp, q ⟨s, t, nd, bs, es⟩ ⟨hs, ht, hnd, fun b hb => ?_, ?_, fun hb => ?_, ?_, h2, h3⟩⟩
      · have := List.mem_range'_1.mp (hbs.subset hb)
        exact ⟨by omega, by omega⟩
      · exact (List.pairwise_lt_range' (s := 1) (n := m - 1)).sublist hbs
      · exact hs2 _ (List.mem_map.mpr ⟨nd, hb, rfl⟩) rfl
      · rw [h1, List.nil_append, List.length_map, List.length_range']
        omega
  · exact h.elim
/-! ### protocols, patterns -/
def sp_law_protocol (c : Ct) : Spec := fun ss Q _ => match ss with
  | [s, .town, .d (.int S), .d (.int R)] => ∃ n s' r' : Nat, n ≤ 63 ∧ s = scr c n ∧ S = s' ∧ R = r' ∧ (2 ≤ s' ∧ s' ≤ 5 ∧ r' ≤ 8) ∧ ∀ p : Pr, p.Ok → p.m ≤ s' → p.rules.length ≤ r' → Q (.d p.enc)
  | _ => False
theorem use_protocol {c : Ct} {n : Nat} (s r : Nat) {Q : SV → Prop} {Ex : XP} (hn : n ≤ 63) (hm : 2 ≤ s ∧ s ≤ 5 ∧ r ≤ 8) (q : ∀ p : Pr, p.Ok → p.m ≤ s → p.rules.length ≤ r → Q (.d p.enc)) : sp_law_protocol c [scr c n, .town, .d (.int s), .d (.int r)] Q Ex := ⟨n, s, r, hn, rfl, rfl, rfl, hm, q⟩
theorem each_rules {m : Nat} : ∀ {ys : List PyData}, (∀ y ∈ ys, ∃ r : Rl, y = r.enc ∧ r.Ok m) → ∃ rs : List Rl, ys = rs.map Rl.enc ∧ ∀ r ∈ rs, r.Ok m
  | [], _ => ⟨[], rfl, fun _ z => nomatch z⟩
  | y :: ys, h => by
    obtain ⟨rs, rfl, h2⟩ := each_rules fun z hz => h z (List.mem_cons_of_mem _ hz)
    obtain ⟨r, rfl, h1⟩ := h y List.mem_cons_self
    refine ⟨r :: rs, rfl, fun z hz => ?_⟩
    rcases List.mem_cons.mp hz with rfl | hz
    · exact h1
    · exact h2 z hz
def t_law_protocol (c : Ct) : DS :=
  (sSeq (sSetF 4 (dOp wAdd (dC (.d (.int 2))) (dCall (sp_law_draw c) (daCons (dVar 0) (daCons (dVar 1) (daCons (dOp (wInt2 fun i j => .int (i - j)) (dVar 2) (dC (.d (.int 1)))) daNil))))))
  (sRet (dTup (daCons (dVar 4) (daCons (dOne oTuple (dLc (iRng1D (dCall (sp_law_draw c) (daCons (dVar 0) (daCons (dVar 1) (daCons (dOp wAdd (dVar 3) (dC (.d (.int 1)))) daNil))))) (gN 5) bYes (dCall (sp_law_rule c) (daCons (dVar 0) (daCons (dVar 1) (daCons (dVar 4) daNil)))) [5])) daNil)))))
theorem rd_law_protocol (c : Ct) (ss : List SV) (Q : SV → Prop) (Ex : XP) (h : sp_law_protocol c ss Q Ex) : t_law_protocol c { nx := fun _ => Q (.d .none), rt := Q } (startD 6 ss) Ex := by
  unfold sp_law_protocol at h
  split at h
  · rename_i s S R
    obtain ⟨n, s', r', hn, rfl, rfl, rfl, hm, q⟩ := h
    show t_law_protocol c _ [some (scr c n), some .town, some (.d (.int s')), some (.d (.int r')), none, none] Ex
    unfold t_law_protocol
    refine seqK fun K hK => ?_
    simp only [sSeq, sNext, sExpr, sRet, sIf, sSet, sSetF, sAsg, sPar, sRaise, sFor, sApp, sExt, sPop, sItem, sAugI, sAug, sFrz, sMove, sBreak, sCont, gN, gT, gsNil, gsCons, dVar, vS_d, vS_own, vS_town, vS_v, vS_scr, fz_scr, dC, dOp, dCall, dCallK, daNil, daCons, dTup, dLst, dSl, doNone, doSome, dIf, dAnd, dOr, dNot, dNeg, dOne, dTwoI, dChain, dLc, bVal, bTru, bScr, dLenS, dIxS, dCount, dRest, sCount, sRest, bNot, bAnd, bOr, bYes, wInt2, wIntC, wAdd, wMul, wIx, wIn, wEqD, wIsN, oLen, oTuple, oList, oAll, oSum, oIsi, iSeq, iRng1D, iRng2D, iEnumD, iZipD, fz_d, fz_own, fz_town, fz_v, fz_abs, asDs, fzB, wipeD, asD_d, asD_own, asD_bor, asL_list, asL_tuple, asL_own, asL_bor, asL_int, asL_bool, asL_none, asS_list, asS_tuple, asS_own, asS_bor, tru_bool, tru_int, tru_none, tru_tuple, tru_list, tru_own, tru_bor, stO_d, stO_own, stO_town, stO_v, stO_abs, rtS_d, rtS_own, rtS_bor, rtS_v, rtS_abs, isN_none, isN_tuple, isN_int, isN_list, isN_bool, List.map_cons, List.map_nil, List.length_cons, List.length_nil, List.cons_append, List.nil_append, List.getElem?_cons_zero, List.getElem?_cons_succ, List.set_cons_zero, List.set_cons_succ, Option.map_some, Option.map_none, Option.some.injEq, SV.d.injEq, SV.own.injEq, PyData.int.injEq, PyData.bool.injEq, PyData.tuple.injEq, PyData.list.injEq, PyData.str.injEq, List.cons.injEq, exists_eq_left, exists_eq_left', exists_eq_right, exists_and_left, exists_and_right, exists_const, and_true, true_and, if_true, if_false, reduceCtorEq, false_or, or_false, false_and, and_false, Bool.not_true, Bool.not_false, Bool.false_eq_true, ite_true, ite_false, reduceIte, Bool.true_eq_false, Nat.reduceAdd, nc0, nc1, nc2, nc3, nc4, nc5, nc6, nc7, nc8, Int.reduceBEq, beq_self_eq_true, Bool.and_true, Bool.true_and, Bool.and_false, Bool.false_and, Nat.zero_add]
    refine use_draw hn (by omega) fun x h0 h1 => ?_
    obtain ⟨k, rfl⟩ := Int.eq_ofNat_of_zero_le h0
    simp only [sSeq, sNext, sExpr, sRet, sIf, sSet, sSetF, sAsg, sPar, sRaise, sFor, sApp, sExt, sPop, sItem, sAugI, sAug, sFrz, sMove, sBreak, sCont, gN, gT, gsNil, gsCons, dVar, vS_d, vS_own, vS_town, vS_v, vS_scr, fz_scr, dC, dOp, dCall, dCallK, daNil, daCons, dTup, dLst, dSl, doNone, doSome, dIf, dAnd, dOr, dNot, dNeg, dOne, dTwoI, dChain, dLc, bVal, bTru, bScr, dLenS, dIxS, dCount, dRest, sCount, sRest, bNot, bAnd, bOr, bYes, wInt2, wIntC, wAdd, wMul, wIx, wIn, wEqD, wIsN, oLen, oTuple, oList, oAll, oSum, oIsi, iSeq, iRng1D, iRng2D, iEnumD, iZipD, fz_d, fz_own, fz_town, fz_v, fz_abs, asDs, fzB, wipeD, asD_d, asD_own, asD_bor, asL_list, asL_tuple, asL_own, asL_bor, asL_int, asL_bool, asL_none, asS_list, asS_tuple, asS_own, asS_bor, tru_bool, tru_int, tru_none, tru_tuple, tru_list, tru_own, tru_bor, stO_d, stO_own, stO_town, stO_v, stO_abs, rtS_d, rtS_own, rtS_bor, rtS_v, rtS_abs, isN_none, isN_tuple, isN_int, isN_list, isN_bool, List.map_cons, List.map_nil, List.length_cons, List.length_nil, List.cons_append, List.nil_append, List.getElem?_cons_zero, List.getElem?_cons_succ, List.set_cons_zero, List.set_cons_succ, Option.map_some, Option.map_none, Option.some.injEq, SV.d.injEq, SV.own.injEq, PyData.int.injEq, PyData.bool.injEq, PyData.tuple.injEq, PyData.list.injEq, PyData.str.injEq, List.cons.injEq, exists_eq_left, exists_eq_left', exists_eq_right, exists_and_left, exists_and_right, exists_const, and_true, true_and, if_true, if_false, reduceCtorEq, false_or, or_false, false_and, and_false, Bool.not_true, Bool.not_false, Bool.false_eq_true, ite_true, ite_false, reduceIte, Bool.true_eq_false, Nat.reduceAdd, nc0, nc1, nc2, nc3, nc4, nc5, nc6, nc7, nc8, Int.reduceBEq, beq_self_eq_true, Bool.and_true, Bool.true_and, Bool.and_false, Bool.false_and, Nat.zero_add]
    refine hK _ ?_
    clear hK K
    have ek : (2 : Int) + (k : Int) = ((2 + k : Nat) : Int) := by omega
    rw [ek]
    simp only [sSeq, sNext, sExpr, sRet, sIf, sSet, sSetF, sAsg, sPar, sRaise, sFor, sApp, sExt, sPop, sItem, sAugI, sAug, sFrz, sMove, sBreak, sCont, gN, gT, gsNil, gsCons, dVar, vS_d, vS_own, vS_town, vS_v, vS_scr, fz_scr, dC, dOp, dCall, dCallK, daNil, daCons, dTup, dLst, dSl, doNone, doSome, dIf, dAnd, dOr, dNot, dNeg, dOne, dTwoI, dChain, dLc, bVal, bTru, bScr, dLenS, dIxS, dCount, dRest, sCount, sRest, bNot, bAnd, bOr, bYes, wInt2, wIntC, wAdd, wMul, wIx, wIn, wEqD, wIsN, oLen, oTuple, oList, oAll, oSum, oIsi, iSeq, iRng1D, iRng2D, iEnumD, iZipD, fz_d, fz_own, fz_town, fz_v, fz_abs, asDs, fzB, wipeD, asD_d, asD_own, asD_bor, asL_list, asL_tuple, asL_own, asL_bor, asL_int, asL_bool, asL_none, asS_list, asS_tuple, asS_own, asS_bor, tru_bool, tru_int, tru_none, tru_tuple, tru_list, tru_own, tru_bor, stO_d, stO_own, stO_town, stO_v, stO_abs, rtS_d, rtS_own, rtS_bor, rtS_v, rtS_abs, isN_none, isN_tuple, isN_int, isN_list, isN_bool, List.map_cons, List.map_nil, List.length_cons, List.length_nil, List.cons_append, List.nil_append, List.getElem?_cons_zero, List.getElem?_cons_succ, List.set_cons_zero, List.set_cons_succ, Option.map_some, Option.map_none, Option.some.injEq, SV.d.injEq, SV.own.injEq, PyData.int.injEq, PyData.bool.injEq, PyData.tuple.injEq, PyData.list.injEq, PyData.str.injEq, List.cons.injEq, exists_eq_left, exists_eq_left', exists_eq_right, exists_and_left, exists_and_right, exists_const, and_true, true_and, if_true, if_false, reduceCtorEq, false_or, or_false, false_and, and_false, Bool.not_true, Bool.not_false, Bool.false_eq_true, ite_true, ite_false, reduceIte, Bool.true_eq_false, Nat.reduceAdd, nc0, nc1, nc2, nc3, nc4, nc5, nc6, nc7, nc8, Int.reduceBEq, beq_self_eq_true, Bool.and_true, Bool.true_and, Bool.and_false, Bool.false_and, Nat.zero_add]
    refine use_draw hn (by omega) fun x h2 h3 => ?_
    obtain ⟨l, rfl⟩ := Int.eq_ofNat_of_zero_le h2
    simp only [sSeq, sNext, sExpr, sRet, sIf, sSet, sSetF, sAsg, sPar, sRaise, sFor, sApp, sExt, sPop, sItem, sAugI, sAug, sFrz, sMove, sBreak, sCont, gN, gT, gsNil, gsCons, dVar, vS_d, vS_own, vS_town, vS_v, vS_scr, fz_scr, dC, dOp, dCall, dCallK, daNil, daCons, dTup, dLst, dSl, doNone, doSome, dIf, dAnd, dOr, dNot, dNeg, dOne, dTwoI, dChain, dLc, bVal, bTru, bScr, dLenS, dIxS, dCount, dRest, sCount, sRest, bNot, bAnd, bOr, bYes, wInt2, wIntC, wAdd, wMul, wIx, wIn, wEqD, wIsN, oLen, oTuple, oList, oAll, oSum, oIsi, iSeq, iRng1D, iRng2D, iEnumD, iZipD, fz_d, fz_own, fz_town, fz_v, fz_abs, asDs, fzB, wipeD, asD_d, asD_own, asD_bor, asL_list, asL_tuple, asL_own, asL_bor, asL_int, asL_bool, asL_none, asS_list, asS_tuple, asS_own, asS_bor, tru_bool, tru_int, tru_none, tru_tuple, tru_list, tru_own, tru_bor, stO_d, stO_own, stO_town, stO_v, stO_abs, rtS_d, rtS_own, rtS_bor, rtS_v, rtS_abs, isN_none, isN_tuple, isN_int, isN_list, isN_bool, List.map_cons, List.map_nil, List.length_cons, List.length_nil, List.cons_append, List.nil_append, List.getElem?_cons_zero, List.getElem?_cons_succ, List.set_cons_zero, List.set_cons_succ, Option.map_some, Option.map_none, Option.some.injEq, SV.d.injEq, SV.own.injEq, PyData.int.injEq, PyData.bool.injEq, PyData.tuple.injEq, PyData.list.injEq, PyData.str.injEq, List.cons.injEq, exists_eq_left, exists_eq_left', exists_eq_right, exists_and_left, exists_and_right, exists_const, and_true, true_and, if_true, if_false, reduceCtorEq, false_or, or_false, false_and, and_false, Bool.not_true, Bool.not_false, Bool.false_eq_true, ite_true, ite_false, reduceIte, Bool.true_eq_false, Nat.reduceAdd, nc0, nc1, nc2, nc3, nc4, nc5, nc6, nc7, nc8, Int.reduceBEq, beq_self_eq_true, Bool.and_true, Bool.true_and, Bool.and_false, Bool.false_and, Nat.zero_add]
    refine ⟨by omega, by omega, ?_⟩
    refine lcR_each (fun _ d => ∃ r : Rl, d = r.enc ∧ r.Ok (2 + k)) _ (fun x _ k' hk => ?_) fun ys hl hy => ?_
    · simp only [lcT, sSeq, sNext, sExpr, sRet, sIf, sSet, sSetF, sAsg, sPar, sRaise, sFor, sApp, sExt, sPop, sItem, sAugI, sAug, sFrz, sMove, sBreak, sCont, gN, gT, gsNil, gsCons, dVar, vS_d, vS_own, vS_town, vS_v, vS_scr, fz_scr, dC, dOp, dCall, dCallK, daNil, daCons, dTup, dLst, dSl, doNone, doSome, dIf, dAnd, dOr, dNot, dNeg, dOne, dTwoI, dChain, dLc, bVal, bTru, bScr, dLenS, dIxS, dCount, dRest, sCount, sRest, bNot, bAnd, bOr, bYes, wInt2, wIntC, wAdd, wMul, wIx, wIn, wEqD, wIsN, oLen, oTuple, oList, oAll, oSum, oIsi, iSeq, iRng1D, iRng2D, iEnumD, iZipD, fz_d, fz_own, fz_town, fz_v, fz_abs, asDs, fzB, wipeD, asD_d, asD_own, asD_bor, asL_list, asL_tuple, asL_own, asL_bor, asL_int, asL_bool, asL_none, asS_list, asS_tuple, asS_own, asS_bor, tru_bool, tru_int, tru_none, tru_tuple, tru_list, tru_own, tru_bor, stO_d, stO_own, stO_town, stO_v, stO_abs, rtS_d, rtS_own, rtS_bor, rtS_v, rtS_abs, isN_none, isN_tuple, isN_int, isN_list, isN_bool, List.map_cons, List.map_nil, List.length_cons, List.length_nil, List.cons_append, List.nil_append, List.getElem?_cons_zero, List.getElem?_cons_succ, List.set_cons_zero, List.set_cons_succ, Option.map_some, Option.map_none, Option.some.injEq, SV.d.injEq, SV.own.injEq, PyData.int.injEq, PyData.bool.injEq, PyData.tuple.injEq, PyData.list.injEq, PyData.str.injEq, List.cons.injEq, exists_eq_left, exists_eq_left', exists_eq_right, exists_and_left, exists_and_right, exists_const, and_true, true_and, if_true, if_false, reduceCtorEq, false_or, or_false, false_and, and_false, Bool.not_true, Bool.not_false, Bool.false_eq_true, ite_true, ite_false, reduceIte, Bool.true_eq_false, Nat.reduceAdd, nc0, nc1, nc2, nc3, nc4, nc5, nc6, nc7, nc8, Int.reduceBEq, beq_self_eq_true, Bool.and_true, Bool.true_and, Bool.and_false, Bool.false_and, Nat.zero_add]
      exact use_rule hn (by omega) fun r hr => ⟨_, rfl, hk _ ⟨r, rfl, hr⟩⟩
    · rw [rngD_len] at hl
      obtain ⟨rs, rfl, h4⟩ := each_rules fun y hy2 => (hy y hy2).elim fun x hx => hx.2
      rw [List.length_map] at hl
      have hl2 : rs.length ≤ r' := by omega
      exact ⟨by decide, q ⟨2 + k, rs⟩ ⟨by show 2 ≤ 2 + k; omega, by show 2 + k ≤ 5; omega, by show rs.length ≤ 8; omega, h4⟩ (by show 2 + k ≤ s'; omega) hl2⟩
  · exact h.elim
def sp_law_pattern (c : Ct) : Spec := fun ss Q _ => match ss with
  | [s, .town, .d (.int M), .d (.int T)] => ∃ n m t : Nat, n ≤ 63 ∧ s = scr c n ∧ M = m ∧ T = t ∧ (2 ≤ m ∧ m ≤ 6 ∧ 1 ≤ t ∧ t ≤ 100) ∧ ∀ ns : List Nat, ns.length = m → ns.head? = some 0 → 1 ≤ ns.sum → ns.sum ≤ t → Q (.d (natsD ns))
  | _ => False
theorem use_pattern {c : Ct} {n : Nat} (m t : Nat) {Q : SV → Prop} {Ex : XP} (hn : n ≤ 63) (hm : 2 ≤ m ∧ m ≤ 6 ∧ 1 ≤ t ∧ t ≤ 100) (q : ∀ ns : List Nat, ns.length = m → ns.head? = some 0 → 1 ≤ ns.sum → ns.sum ≤ t → Q (.d (natsD ns))) : sp_law_pattern c [scr c n, .town, .d (.int m), .d (.int t)] Q Ex := ⟨n, m, t, hn, rfl, rfl, rfl, hm, q⟩
theorem sum_set1 : ∀ (ns : List Nat) (j x : Nat), ns[j]? = some x → (ns.set j (x + 1)).sum = ns.sum + 1
  | [], _, _, h => by simp at h
  | y :: ns, 0, x, h => by
    have e : y = x := by simpa using h
    subst e
    rw [List.set_cons_zero, List.sum_cons, List.sum_cons]
    omega
  | y :: ns, j + 1, x, h => by
    rw [List.set_cons_succ, List.sum_cons, List.sum_cons, sum_set1 ns j x (by simpa using h)]
    omega
theorem head_set (as : List Nat) (a j : Nat) {x : Nat} : ((a :: as).set (1 + j) x).head? = (a :: as).head? := by
  rw [Nat.add_comm, List.set_cons_succ]
  rfl
def t_law_pattern (c : Ct) : DS :=
  (sSeq (sSet 4 (dOp wMul (dC (.own [(.int 0)])) (dVar 2)))
  (sSeq (sFor (iRng1D (dOp wAdd (dC (.d (.int 1))) (dCall (sp_law_draw c) (daCons (dVar 0) (daCons (dVar 1) (daCons (dVar 3) daNil)))))) (gN 5) (sAugI 4 (fun i j => i + j) (dOp wAdd (dC (.d (.int 1))) (dCall (sp_law_draw c) (daCons (dVar 0) (daCons (dVar 1) (daCons (dOp (wInt2 fun i j => .int (i - j)) (dVar 2) (dC (.d (.int 1)))) daNil))))) (dC (.d (.int 1)))))
  (sRet (dOne oTuple (dVar 4)))))
theorem rd_law_pattern (c : Ct) (ss : List SV) (Q : SV → Prop) (Ex : XP) (h : sp_law_pattern c ss Q Ex) : t_law_pattern c { nx := fun _ => Q (.d .none), rt := Q } (startD 6 ss) Ex := by
  unfold sp_law_pattern at h
  split at h
  · rename_i s M T
    obtain ⟨n, m, t, hn, rfl, rfl, rfl, hm, q⟩ := h
    show t_law_pattern c _ [some (scr c n), some .town, some (.d (.int m)), some (.d (.int t)), none, none] Ex
    unfold t_law_pattern
    refine seqK fun K hK => ?_
    simp only [sSeq, sNext, sExpr, sRet, sIf, sSet, sSetF, sAsg, sPar, sRaise, sFor, sApp, sExt, sPop, sItem, sAugI, sAug, sFrz, sMove, sBreak, sCont, gN, gT, gsNil, gsCons, dVar, vS_d, vS_own, vS_town, vS_v, vS_scr, fz_scr, dC, dOp, dCall, dCallK, daNil, daCons, dTup, dLst, dSl, doNone, doSome, dIf, dAnd, dOr, dNot, dNeg, dOne, dTwoI, dChain, dLc, bVal, bTru, bScr, dLenS, dIxS, dCount, dRest, sCount, sRest, bNot, bAnd, bOr, bYes, wInt2, wIntC, wAdd, wMul, wIx, wIn, wEqD, wIsN, oLen, oTuple, oList, oAll, oSum, oIsi, iSeq, iRng1D, iRng2D, iEnumD, iZipD, fz_d, fz_own, fz_town, fz_v, fz_abs, asDs, fzB, wipeD, asD_d, asD_own, asD_bor, asL_list, asL_tuple, asL_own, asL_bor, asL_int, asL_bool, asL_none, asS_list, asS_tuple, asS_own, asS_bor, tru_bool, tru_int, tru_none, tru_tuple, tru_list, tru_own, tru_bor, stO_d, stO_own, stO_town, stO_v, stO_abs, rtS_d, rtS_own, rtS_bor, rtS_v, rtS_abs, isN_none, isN_tuple, isN_int, isN_list, isN_bool, List.map_cons, List.map_nil, List.length_cons, List.length_nil, List.cons_append, List.nil_append, List.getElem?_cons_zero, List.getElem?_cons_succ, List.set_cons_zero, List.set_cons_succ, Option.map_some, Option.map_none, Option.some.injEq, SV.d.injEq, SV.own.injEq, PyData.int.injEq, PyData.bool.injEq, PyData.tuple.injEq, PyData.list.injEq, PyData.str.injEq, List.cons.injEq, exists_eq_left, exists_eq_left', exists_eq_right, exists_and_left, exists_and_right, exists_const, and_true, true_and, if_true, if_false, reduceCtorEq, false_or, or_false, false_and, and_false, Bool.not_true, Bool.not_false, Bool.false_eq_true, ite_true, ite_false, reduceIte, Bool.true_eq_false, Nat.reduceAdd, nc0, nc1, nc2, nc3, nc4, nc5, nc6, nc7, nc8, Int.reduceBEq, beq_self_eq_true, Bool.and_true, Bool.true_and, Bool.and_false, Bool.false_and, Nat.zero_add]
    rw [Int.toNat_natCast, List.flatten_replicate_singleton, show List.replicate m (PyData.int 0) = (List.replicate m (0 : Nat)).map (fun n : Nat => PyData.int (n : Int)) by rw [List.map_replicate]; rfl]
    refine ⟨by omega, by omega, by decide, hK _ ?_⟩
    clear hK K
    refine seqK fun K hK => ?_
    simp only [sSeq, sNext, sExpr, sRet, sIf, sSet, sSetF, sAsg, sPar, sRaise, sFor, sApp, sExt, sPop, sItem, sAugI, sAug, sFrz, sMove, sBreak, sCont, gN, gT, gsNil, gsCons, dVar, vS_d, vS_own, vS_town, vS_v, vS_scr, fz_scr, dC, dOp, dCall, dCallK, daNil, daCons, dTup, dLst, dSl, doNone, doSome, dIf, dAnd, dOr, dNot, dNeg, dOne, dTwoI, dChain, dLc, bVal, bTru, bScr, dLenS, dIxS, dCount, dRest, sCount, sRest, bNot, bAnd, bOr, bYes, wInt2, wIntC, wAdd, wMul, wIx, wIn, wEqD, wIsN, oLen, oTuple, oList, oAll, oSum, oIsi, iSeq, iRng1D, iRng2D, iEnumD, iZipD, fz_d, fz_own, fz_town, fz_v, fz_abs, asDs, fzB, wipeD, asD_d, asD_own, asD_bor, asL_list, asL_tuple, asL_own, asL_bor, asL_int, asL_bool, asL_none, asS_list, asS_tuple, asS_own, asS_bor, tru_bool, tru_int, tru_none, tru_tuple, tru_list, tru_own, tru_bor, stO_d, stO_own, stO_town, stO_v, stO_abs, rtS_d, rtS_own, rtS_bor, rtS_v, rtS_abs, isN_none, isN_tuple, isN_int, isN_list, isN_bool, List.map_cons, List.map_nil, List.length_cons, List.length_nil, List.cons_append, List.nil_append, List.getElem?_cons_zero, List.getElem?_cons_succ, List.set_cons_zero, List.set_cons_succ, Option.map_some, Option.map_none, Option.some.injEq, SV.d.injEq, SV.own.injEq, PyData.int.injEq, PyData.bool.injEq, PyData.tuple.injEq, PyData.list.injEq, PyData.str.injEq, List.cons.injEq, exists_eq_left, exists_eq_left', exists_eq_right, exists_and_left, exists_and_right, exists_const, and_true, true_and, if_true, if_false, reduceCtorEq, false_or, or_false, false_and, and_false, Bool.not_true, Bool.not_false, Bool.false_eq_true, ite_true, ite_false, reduceIte, Bool.true_eq_false, Nat.reduceAdd, nc0, nc1, nc2, nc3, nc4, nc5, nc6, nc7, nc8, Int.reduceBEq, beq_self_eq_true, Bool.and_true, Bool.true_and, Bool.and_false, Bool.false_and, Nat.zero_add]
    refine use_draw hn (by omega) fun x h0 h1 => ?_
    obtain ⟨k, rfl⟩ := Int.eq_ofNat_of_zero_le h0
    simp only [sSeq, sNext, sExpr, sRet, sIf, sSet, sSetF, sAsg, sPar, sRaise, sFor, sApp, sExt, sPop, sItem, sAugI, sAug, sFrz, sMove, sBreak, sCont, gN, gT, gsNil, gsCons, dVar, vS_d, vS_own, vS_town, vS_v, vS_scr, fz_scr, dC, dOp, dCall, dCallK, daNil, daCons, dTup, dLst, dSl, doNone, doSome, dIf, dAnd, dOr, dNot, dNeg, dOne, dTwoI, dChain, dLc, bVal, bTru, bScr, dLenS, dIxS, dCount, dRest, sCount, sRest, bNot, bAnd, bOr, bYes, wInt2, wIntC, wAdd, wMul, wIx, wIn, wEqD, wIsN, oLen, oTuple, oList, oAll, oSum, oIsi, iSeq, iRng1D, iRng2D, iEnumD, iZipD, fz_d, fz_own, fz_town, fz_v, fz_abs, asDs, fzB, wipeD, asD_d, asD_own, asD_bor, asL_list, asL_tuple, asL_own, asL_bor, asL_int, asL_bool, asL_none, asS_list, asS_tuple, asS_own, asS_bor, tru_bool, tru_int, tru_none, tru_tuple, tru_list, tru_own, tru_bor, stO_d, stO_own, stO_town, stO_v, stO_abs, rtS_d, rtS_own, rtS_bor, rtS_v, rtS_abs, isN_none, isN_tuple, isN_int, isN_list, isN_bool, List.map_cons, List.map_nil, List.length_cons, List.length_nil, List.cons_append, List.nil_append, List.getElem?_cons_zero, List.getElem?_cons_succ, List.set_cons_zero, List.set_cons_succ, Option.map_some, Option.map_none, Option.some.injEq, SV.d.injEq, SV.own.injEq, PyData.int.injEq, PyData.bool.injEq, PyData.tuple.injEq, PyData.list.injEq, PyData.str.injEq, List.cons.injEq, exists_eq_left, exists_eq_left', exists_eq_right, exists_and_left, exists_and_right, exists_const, and_true, true_and, if_true, if_false, reduceCtorEq, false_or, or_false, false_and, and_false, Bool.not_true, Bool.not_false, Bool.false_eq_true, ite_true, ite_false, reduceIte, Bool.true_eq_false, Nat.reduceAdd, nc0, nc1, nc2, nc3, nc4, nc5, nc6, nc7, nc8, Int.reduceBEq, beq_self_eq_true, Bool.and_true, Bool.true_and, Bool.and_false, Bool.false_and, Nat.zero_add]
    refine ⟨by omega, by omega, ?_⟩
    have e0 : (List.replicate m (0 : Nat)).head? = some 0 := by
      cases m with
      | zero => omega
      | succ m => rfl
    refine forR_inv (fun pre δ => ∃ (ns : List Nat) (o : Option SV), δ = [some (scr c n), some .town, some (.d (.int m)), some (.d (.int t)), some (.own (ns.map (fun n : Nat => PyData.int (n : Int)))), o] ∧ ns.length = m ∧ ns.head? = some 0 ∧ ns.sum = pre.length) _ [] _
      ⟨List.replicate m 0, none, rfl, List.length_replicate, e0, by simp⟩ (fun p x r δ k' hp hI hk => ?_) fun δ' hI => ?_
    · obtain ⟨ns, o, rfl, h2, h3, h4⟩ := hI
      have hx : x ∈ rngD 0 ((1 : Int) + (k : Int)).toNat := by
        rw [List.nil_append] at hp
        rw [hp]
        exact List.mem_append_right _ List.mem_cons_self
      obtain ⟨z, rfl⟩ : ∃ z : Nat, x = .int (z : Int) := by
        rw [show ((0 : Int)) = ((0 : Nat) : Int) from rfl, rngD_nat] at hx
        obtain ⟨z, _, rfl⟩ := List.mem_map.mp hx
        exact ⟨z, rfl⟩
      simp only [sSeq, sNext, sExpr, sRet, sIf, sSet, sSetF, sAsg, sPar, sRaise, sFor, sApp, sExt, sPop, sItem, sAugI, sAug, sFrz, sMove, sBreak, sCont, gN, gT, gsNil, gsCons, dVar, vS_d, vS_own, vS_town, vS_v, vS_scr, fz_scr, dC, dOp, dCall, dCallK, daNil, daCons, dTup, dLst, dSl, doNone, doSome, dIf, dAnd, dOr, dNot, dNeg, dOne, dTwoI, dChain, dLc, bVal, bTru, bScr, dLenS, dIxS, dCount, dRest, sCount, sRest, bNot, bAnd, bOr, bYes, wInt2, wIntC, wAdd, wMul, wIx, wIn, wEqD, wIsN, oLen, oTuple, oList, oAll, oSum, oIsi, iSeq, iRng1D, iRng2D, iEnumD, iZipD, fz_d, fz_own, fz_town, fz_v, fz_abs, asDs, fzB, wipeD, asD_d, asD_own, asD_bor, asL_list, asL_tuple, asL_own, asL_bor, asL_int, asL_bool, asL_none, asS_list, asS_tuple, asS_own, asS_bor, tru_bool, tru_int, tru_none, tru_tuple, tru_list, tru_own, tru_bor, stO_d, stO_own, stO_town, stO_v, stO_abs, rtS_d, rtS_own, rtS_bor, rtS_v, rtS_abs, isN_none, isN_tuple, isN_int, isN_list, isN_bool, List.map_cons, List.map_nil, List.length_cons, List.length_nil, List.cons_append, List.nil_append, List.getElem?_cons_zero, List.getElem?_cons_succ, List.set_cons_zero, List.set_cons_succ, Option.map_some, Option.map_none, Option.some.injEq, SV.d.injEq, SV.own.injEq, PyData.int.injEq, PyData.bool.injEq, PyData.tuple.injEq, PyData.list.injEq, PyData.str.injEq, List.cons.injEq, exists_eq_left, exists_eq_left', exists_eq_right, exists_and_left, exists_and_right, exists_const, and_true, true_and, if_true, if_false, reduceCtorEq, false_or, or_false, false_and, and_false, Bool.not_true, Bool.not_false, Bool.false_eq_true, ite_true, ite_false, reduceIte, Bool.true_eq_false, Nat.reduceAdd, nc0, nc1, nc2, nc3, nc4, nc5, nc6, nc7, nc8, Int.reduceBEq, beq_self_eq_true, Bool.and_true, Bool.true_and, Bool.and_false, Bool.false_and, Nat.zero_add]
      refine use_draw hn (by omega) fun y h5 h6 => ?_
      obtain ⟨j, rfl⟩ := Int.eq_ofNat_of_zero_le h5
      have hj : 1 + j < ns.length := by omega
      have ej : (1 : Int) + (j : Int) = ((1 + j : Nat) : Int) := by omega
      have gj : ns[1 + j]? = some ns[1 + j] := List.getElem?_eq_getElem hj
      simp only [sSeq, sNext, sExpr, sRet, sIf, sSet, sSetF, sAsg, sPar, sRaise, sFor, sApp, sExt, sPop, sItem, sAugI, sAug, sFrz, sMove, sBreak, sCont, gN, gT, gsNil, gsCons, dVar, vS_d, vS_own, vS_town, vS_v, vS_scr, fz_scr, dC, dOp, dCall, dCallK, daNil, daCons, dTup, dLst, dSl, doNone, doSome, dIf, dAnd, dOr, dNot, dNeg, dOne, dTwoI, dChain, dLc, bVal, bTru, bScr, dLenS, dIxS, dCount, dRest, sCount, sRest, bNot, bAnd, bOr, bYes, wInt2, wIntC, wAdd, wMul, wIx, wIn, wEqD, wIsN, oLen, oTuple, oList, oAll, oSum, oIsi, iSeq, iRng1D, iRng2D, iEnumD, iZipD, fz_d, fz_own, fz_town, fz_v, fz_abs, asDs, fzB, wipeD, asD_d, asD_own, asD_bor, asL_list, asL_tuple, asL_own, asL_bor, asL_int, asL_bool, asL_none, asS_list, asS_tuple, asS_own, asS_bor, tru_bool, tru_int, tru_none, tru_tuple, tru_list, tru_own, tru_bor, stO_d, stO_own, stO_town, stO_v, stO_abs, rtS_d, rtS_own, rtS_bor, rtS_v, rtS_abs, isN_none, isN_tuple, isN_int, isN_list, isN_bool, List.map_cons, List.map_nil, List.length_cons, List.length_nil, List.cons_append, List.nil_append, List.getElem?_cons_zero, List.getElem?_cons_succ, List.set_cons_zero, List.set_cons_succ, Option.map_some, Option.map_none, Option.some.injEq, SV.d.injEq, SV.own.injEq, PyData.int.injEq, PyData.bool.injEq, PyData.tuple.injEq, PyData.list.injEq, PyData.str.injEq, List.cons.injEq, exists_eq_left, exists_eq_left', exists_eq_right, exists_and_left, exists_and_right, exists_const, and_true, true_and, if_true, if_false, reduceCtorEq, false_or, or_false, false_and, and_false, Bool.not_true, Bool.not_false, Bool.false_eq_true, ite_true, ite_false, reduceIte, Bool.true_eq_false, Nat.reduceAdd, nc0, nc1, nc2, nc3, nc4, nc5, nc6, nc7, nc8, Int.reduceBEq, beq_self_eq_true, Bool.and_true, Bool.true_and, Bool.and_false, Bool.false_and, Nat.zero_add]
      refine ⟨1 + j, ?_, by omega, ns[1 + j], ?_, ?_⟩
      · unfold ixN
        rw [List.length_map, if_pos (by omega), if_pos (by omega)]
        congr 1
      · rw [List.getElem?_map, gj]
        rfl
      · have es : (ns.map (fun n : Nat => PyData.int (n : Int))).set (1 + j) (.int ((ns[1 + j] : Int) + 1)) = (ns.set (1 + j) (ns[1 + j] + 1)).map (fun n : Nat => PyData.int (n : Int)) := by
          rw [List.map_set]
          rfl
        rw [es]
        refine hk _ ⟨_, some (.d (.int z)), rfl, by rw [List.length_set]; exact h2, ?_, ?_⟩
        · cases ns with
          | nil => cases h3
          | cons a as =>
            rw [head_set as a j]
            exact h3
        · rw [sum_set1 ns _ _ gj, h4, List.length_append]
          rfl
    · obtain ⟨ns, o, rfl, h2, h3, h4⟩ := hI
      rw [List.nil_append, rngD_len] at h4
      refine hK _ ?_
      clear hK K
      simp only [sSeq, sNext, sExpr, sRet, sIf, sSet, sSetF, sAsg, sPar, sRaise, sFor, sApp, sExt, sPop, sItem, sAugI, sAug, sFrz, sMove, sBreak, sCont, gN, gT, gsNil, gsCons, dVar, vS_d, vS_own, vS_town, vS_v, vS_scr, fz_scr, dC, dOp, dCall, dCallK, daNil, daCons, dTup, dLst, dSl, doNone, doSome, dIf, dAnd, dOr, dNot, dNeg, dOne, dTwoI, dChain, dLc, bVal, bTru, bScr, dLenS, dIxS, dCount, dRest, sCount, sRest, bNot, bAnd, bOr, bYes, wInt2, wIntC, wAdd, wMul, wIx, wIn, wEqD, wIsN, oLen, oTuple, oList, oAll, oSum, oIsi, iSeq, iRng1D, iRng2D, iEnumD, iZipD, fz_d, fz_own, fz_town, fz_v, fz_abs, asDs, fzB, wipeD, asD_d, asD_own, asD_bor, asL_list, asL_tuple, asL_own, asL_bor, asL_int, asL_bool, asL_none, asS_list, asS_tuple, asS_own, asS_bor, tru_bool, tru_int, tru_none, tru_tuple, tru_list, tru_own, tru_bor, stO_d, stO_own, stO_town, stO_v, stO_abs, rtS_d, rtS_own, rtS_bor, rtS_v, rtS_abs, isN_none, isN_tuple, isN_int, isN_list, isN_bool, List.map_cons, List.map_nil, List.length_cons, List.length_nil, List.cons_append, List.nil_append, List.getElem?_cons_zero, List.getElem?_cons_succ, List.set_cons_zero, List.set_cons_succ, Option.map_some, Option.map_none, Option.some.injEq, SV.d.injEq, SV.own.injEq, PyData.int.injEq, PyData.bool.injEq, PyData.tuple.injEq, PyData.list.injEq, PyData.str.injEq, List.cons.injEq, exists_eq_left, exists_eq_left', exists_eq_right, exists_and_left, exists_and_right, exists_const, and_true, true_and, if_true, if_false, reduceCtorEq, false_or, or_false, false_and, and_false, Bool.not_true, Bool.not_false, Bool.false_eq_true, ite_true, ite_false, reduceIte, Bool.true_eq_false, Nat.reduceAdd, nc0, nc1, nc2, nc3, nc4, nc5, nc6, nc7, nc8, Int.reduceBEq, beq_self_eq_true, Bool.and_true, Bool.true_and, Bool.and_false, Bool.false_and, Nat.zero_add]
      exact q ns h2 h3 (by omega) (by omega)
  · exact h.elim
end DL
/-! Fd: values in which one part is invalid. -/
namespace DL
open PySem PySem.Spec PyProof.Rows L2
def odds : List PyData := [.none, .tuple [.str ("x" : Str)], .int (-1), .int 9, .list [], .bool true]
mutual
def spoilt : PyData → List PyData
  | .tuple xs => spoiltL [] xs ++ [.list xs, .tuple (xs ++ [.none])]
  | _ => []
def spoiltL : List PyData → List PyData → List PyData
  | _, [] => []
  | pre, x :: r => ((odds ++ spoilt x).map fun o => .tuple (pre ++ o :: r)) ++ spoiltL (pre ++ [x]) r
end
theorem spoiltL_cons (pre : List PyData) (x : PyData) (r : List PyData) : spoiltL pre (x :: r) = ((odds ++ spoilt x).map fun o => PyData.tuple (pre ++ o :: r)) ++ spoiltL (pre ++ [x]) r := by rw [spoiltL]
theorem spoilt_tuple (xs : List PyData) : spoilt (.tuple xs) = spoiltL [] xs ++ [.list xs, .tuple (xs ++ [.none])] := by rw [spoilt]
theorem spoiltL_len : ∀ (xs pre : List PyData), xs.length ≤ (spoiltL pre xs).length
  | [], _ => Nat.zero_le _
  | x :: r, pre => by
    have := spoiltL_len r (pre ++ [x])
    rw [spoiltL_cons, List.length_append, List.length_map, List.length_append, List.length_cons]
    show _ ≤ (6 + _) + _
    omega
theorem spoiltL_sub : ∀ (xs pre : List PyData) (x : PyData), x ∈ xs → (spoilt x).length ≤ (spoiltL pre xs).length
  | [], _, _, h => nomatch h
  | y :: r, pre, x, h => by
    rw [spoiltL_cons, List.length_append, List.length_map, List.length_append]
    rcases List.mem_cons.mp h with rfl | h
    · omega
    · have := spoiltL_sub r (pre ++ [y]) x h
      omega
theorem spoiltL_at {xs : List PyData} {k : Nat} {x : PyData} (h : xs[k]? = some x) : spoiltL (xs.take k) (xs.drop k) = ((odds ++ spoilt x).map fun o => PyData.tuple (xs.take k ++ o :: xs.drop (k + 1))) ++ spoiltL (xs.take (k + 1)) (xs.drop (k + 1)) := by
  obtain ⟨hk, e⟩ := List.getElem?_eq_some_iff.mp h
  rw [List.drop_eq_getElem_cons hk, spoiltL_cons, e, List.take_succ_eq_append_getElem hk, e]
theorem prs_at : ∀ (ds : List PyData) (i : Nat) (p : List PyData) (e : PyData) (r : List PyData), prs i ds = p ++ e :: r → ∃ x, ds[p.length]? = some x ∧ e = .tuple [.int ((i + p.length : Nat) : Int), x]
  | [], i, p, e, r, h => by
    have := congrArg List.length h
    simp [prs] at this
  | d :: ds, i, [], e, r, h => by
    have h' : PyData.tuple [.int (i : Int), d] :: prs (i + 1) ds = e :: r := h
    injection h' with h1 h2
    exact ⟨d, rfl, h1.symm⟩
  | d :: ds, i, q :: p, e, r, h => by
    have h' : PyData.tuple [.int (i : Int), d] :: prs (i + 1) ds = q :: (p ++ e :: r) := h
    injection h' with h1 h2
    obtain ⟨x, h3, h4⟩ := prs_at ds (i + 1) p e r h2
    refine ⟨x, by simpa using h3, ?_⟩
    rw [h4, List.length_cons]
    congr 3
    omega
theorem depth_mem : ∀ {xs : List PyData} {x : PyData}, x ∈ xs → x.depth ≤ PyData.depthAll xs
  | [], _, h => nomatch h
  | y :: r, x, h => by
    show _ ≤ max y.depth (PyData.depthAll r)
    rcases List.mem_cons.mp h with rfl | h
    · omega
    · have := depth_mem h
      omega
theorem depth_tuple (xs : List PyData) : (PyData.tuple xs).depth = PyData.depthAll xs + 1 := by rw [PyData.depth]
def sp_law_spoilt_ (d : Nat) (c : Ct) : Spec := fun ss Q _ => match ss with
  | [.d v] => v.depth < d ∧ (spoilt v).length ≤ 100000 ∧ Q (.own (spoilt v))
  | _ => False
def sp_law_spoilt (c : Ct) : Spec := sp_law_spoilt_ 6 c
theorem at_law_spoilt_ {d : Nat} {c : Ct} {v : PyData} {Q : SV → Prop} {Ex : XP} : sp_law_spoilt_ d c [.d v] Q Ex = (v.depth < d ∧ (spoilt v).length ≤ 100000 ∧ Q (.own (spoilt v))) := rfl
theorem at_law_spoilt {c : Ct} {v : PyData} {Q : SV → Prop} {Ex : XP} : sp_law_spoilt c [.d v] Q Ex = (v.depth < 6 ∧ (spoilt v).length ≤ 100000 ∧ Q (.own (spoilt v))) := rfl
def t_law_spoilt (d : Nat) (c : Ct) : DS :=
  (sSeq (sSet 1 (dLst daNil))
  (sSeq (sIf (bNot (bTru (dOne (oIsi "tuple") (dVar 0)))) (sRet (dVar 1)) sNext)
  (sSeq (sFor (iEnumD (dVar 0)) (gT 2 (gsCons (gN 2) (gsCons (gN 3) gsNil))) (sFor (iSeq (dOp wAdd (dC (.own [.none, (.tuple [(.str ("x" : Str))]), (.int (-1)), (.int 9), (.list []), (.bool true)])) (dCall (sp_law_spoilt_ d c) (daCons (dVar 3) daNil)))) (gN 4) (sApp 1 (dOp wAdd (dOp wAdd (dSl (dVar 0) doNone (doSome (dVar 2))) (dTup (daCons (dVar 4) daNil))) (dSl (dVar 0) (doSome (dOp wAdd (dVar 2) (dC (.d (.int 1))))) doNone)))))
  (sRet (dOp wAdd (dVar 1) (dLst (daCons (dOne oList (dVar 0)) (daCons (dOp wAdd (dVar 0) (dC (.d (.tuple [.none])))) daNil))))))))
theorem rd_law_spoilt (d : Nat) (c : Ct) (ss : List SV) (Q : SV → Prop) (Ex : XP) (h : sp_law_spoilt_ (d + 1) c ss Q Ex) : t_law_spoilt d c { nx := fun _ => Q (.d .none), rt := Q } (startD 5 ss) Ex := by
  unfold sp_law_spoilt_ at h
  split at h
  · rename_i v
    obtain ⟨hd, hs, q⟩ := h
    show t_law_spoilt d c _ [some (.d v), none, none, none, none] Ex
    cases v with
    | tuple xs =>
      rw [depth_tuple] at hd
      rw [spoilt_tuple] at hs q
      rw [List.length_append] at hs
      have hx := spoiltL_len xs []
      unfold t_law_spoilt
      refine seqK fun K hK => ?_
      simp only [sSeq, sNext, sExpr, sRet, sIf, sSet, sSetF, sAsg, sPar, sRaise, sFor, sApp, sExt, sPop, sItem, sAugI, sAug, sFrz, sMove, sBreak, sCont, gN, gT, gsNil, gsCons, dVar, vS_d, vS_own, vS_town, vS_v, vS_scr, fz_scr, dC, dOp, dCall, dCallK, daNil, daCons, dTup, dLst, dSl, doNone, doSome, dIf, dAnd, dOr, dNot, dNeg, dOne, dTwoI, dChain, dLc, bVal, bTru, bScr, dLenS, dIxS, dCount, dRest, sCount, sRest, bNot, bAnd, bOr, bYes, wInt2, wIntC, wAdd, wMul, wIx, wIn, wEqD, wIsN, oLen, oTuple, oList, oAll, oSum, oIsi, iSeq, iRng1D, iRng2D, iEnumD, iZipD, fz_d, fz_own, fz_town, fz_v, fz_abs, asDs, fzB, wipeD, asD_d, asD_own, asD_bor, asL_list, asL_tuple, asL_own, asL_bor, asL_int, asL_bool, asL_none, asS_list, asS_tuple, asS_own, asS_bor, tru_bool, tru_int, tru_none, tru_tuple, tru_list, tru_own, tru_bor, stO_d, stO_own, stO_town, stO_v, stO_abs, rtS_d, rtS_own, rtS_bor, rtS_v, rtS_abs, isN_none, isN_tuple, isN_int, isN_list, isN_bool, List.map_cons, List.map_nil, List.length_cons, List.length_nil, List.cons_append, List.nil_append, List.getElem?_cons_zero, List.getElem?_cons_succ, List.set_cons_zero, List.set_cons_succ, Option.map_some, Option.map_none, Option.some.injEq, SV.d.injEq, SV.own.injEq, PyData.int.injEq, PyData.bool.injEq, PyData.tuple.injEq, PyData.list.injEq, PyData.str.injEq, List.cons.injEq, exists_eq_left, exists_eq_left', exists_eq_right, exists_and_left, exists_and_right, exists_const, and_true, true_and, if_true, if_false, reduceCtorEq, false_or, or_false, false_and, and_false, Bool.not_true, Bool.not_false, Bool.false_eq_true, ite_true, ite_false, reduceIte, Bool.true_eq_false, Nat.reduceAdd, nc0, nc1, nc2, nc3, nc4, nc5, nc6, nc7, nc8, Int.reduceBEq, beq_self_eq_true, Bool.and_true, Bool.true_and, Bool.and_false, Bool.false_and, Nat.zero_add]
      refine ⟨by decide, hK _ ?_⟩
      clear hK K
      refine seqK fun K hK => ?_
      simp only [sSeq, sNext, sExpr, sRet, sIf, sSet, sSetF, sAsg, sPar, sRaise, sFor, sApp, sExt, sPop, sItem, sAugI, sAug, sFrz, sMove, sBreak, sCont, gN, gT, gsNil, gsCons, dVar, vS_d, vS_own, vS_town, vS_v, vS_scr, fz_scr, dC, dOp, dCall, dCallK, daNil, daCons, dTup, dLst, dSl, doNone, doSome, dIf, dAnd, dOr, dNot, dNeg, dOne, dTwoI, dChain, dLc, bVal, bTru, bScr, dLenS, dIxS, dCount, dRest, sCount, sRest, bNot, bAnd, bOr, bYes, wInt2, wIntC, wAdd, wMul, wIx, wIn, wEqD, wIsN, oLen, oTuple, oList, oAll, oSum, oIsi, iSeq, iRng1D, iRng2D, iEnumD, iZipD, fz_d, fz_own, fz_town, fz_v, fz_abs, asDs, fzB, wipeD, asD_d, asD_own, asD_bor, asL_list, asL_tuple, asL_own, asL_bor, asL_int, asL_bool, asL_none, asS_list, asS_tuple, asS_own, asS_bor, tru_bool, tru_int, tru_none, tru_tuple, tru_list, tru_own, tru_bor, stO_d, stO_own, stO_town, stO_v, stO_abs, rtS_d, rtS_own, rtS_bor, rtS_v, rtS_abs, isN_none, isN_tuple, isN_int, isN_list, isN_bool, List.map_cons, List.map_nil, List.length_cons, List.length_nil, List.cons_append, List.nil_append, List.getElem?_cons_zero, List.getElem?_cons_succ, List.set_cons_zero, List.set_cons_succ, Option.map_some, Option.map_none, Option.some.injEq, SV.d.injEq, SV.own.injEq, PyData.int.injEq, PyData.bool.injEq, PyData.tuple.injEq, PyData.list.injEq, PyData.str.injEq, List.cons.injEq, exists_eq_left, exists_eq_left', exists_eq_right, exists_and_left, exists_and_right, exists_const, and_true, true_and, if_true, if_false, reduceCtorEq, false_or, or_false, false_and, and_false, Bool.not_true, Bool.not_false, Bool.false_eq_true, ite_true, ite_false, reduceIte, Bool.true_eq_false, Nat.reduceAdd, nc0, nc1, nc2, nc3, nc4, nc5, nc6, nc7, nc8, Int.reduceBEq, beq_self_eq_true, Bool.and_true, Bool.true_and, Bool.and_false, Bool.false_and, Nat.zero_add, isi_tuple]
      refine hK _ ?_
      clear hK K
      refine seqK fun K hK => ?_
      have body := hs
      simp only [sSeq, sNext, sExpr, sRet, sIf, sSet, sSetF, sAsg, sPar, sRaise, sFor, sApp, sExt, sPop, sItem, sAugI, sAug, sFrz, sMove, sBreak, sCont, gN, gT, gsNil, gsCons, dVar, vS_d, vS_own, vS_town, vS_v, vS_scr, fz_scr, dC, dOp, dCall, dCallK, daNil, daCons, dTup, dLst, dSl, doNone, doSome, dIf, dAnd, dOr, dNot, dNeg, dOne, dTwoI, dChain, dLc, bVal, bTru, bScr, dLenS, dIxS, dCount, dRest, sCount, sRest, bNot, bAnd, bOr, bYes, wInt2, wIntC, wAdd, wMul, wIx, wIn, wEqD, wIsN, oLen, oTuple, oList, oAll, oSum, oIsi, iSeq, iRng1D, iRng2D, iEnumD, iZipD, fz_d, fz_own, fz_town, fz_v, fz_abs, asDs, fzB, wipeD, asD_d, asD_own, asD_bor, asL_list, asL_tuple, asL_own, asL_bor, asL_int, asL_bool, asL_none, asS_list, asS_tuple, asS_own, asS_bor, tru_bool, tru_int, tru_none, tru_tuple, tru_list, tru_own, tru_bor, stO_d, stO_own, stO_town, stO_v, stO_abs, rtS_d, rtS_own, rtS_bor, rtS_v, rtS_abs, isN_none, isN_tuple, isN_int, isN_list, isN_bool, List.map_cons, List.map_nil, List.length_cons, List.length_nil, List.cons_append, List.nil_append, List.getElem?_cons_zero, List.getElem?_cons_succ, List.set_cons_zero, List.set_cons_succ, Option.map_some, Option.map_none, Option.some.injEq, SV.d.injEq, SV.own.injEq, PyData.int.injEq, PyData.bool.injEq, PyData.tuple.injEq, PyData.list.injEq, PyData.str.injEq, List.cons.injEq, exists_eq_left, exists_eq_left', exists_eq_right, exists_and_left, exists_and_right, exists_const, and_true, true_and, if_true, if_false, reduceCtorEq, false_or, or_false, false_and, and_false, Bool.not_true, Bool.not_false, Bool.false_eq_true, ite_true, ite_false, reduceIte, Bool.true_eq_false, Nat.reduceAdd, nc0, nc1, nc2, nc3, nc4, nc5, nc6, nc7, nc8, Int.reduceBEq, beq_self_eq_true, Bool.and_true, Bool.true_and, Bool.and_false, Bool.false_and, Nat.zero_add]
      refine forR_inv (fun pre δ => ∃ (acc : List PyData) (o2 o3 o4 : Option SV), δ = [some (.d (.tuple xs)), some (.own acc), o2, o3, o4] ∧ acc ++ spoiltL (xs.take pre.length) (xs.drop pre.length) = spoiltL [] xs) _ [] _ ⟨[], none, none, none, rfl, rfl⟩ (fun p e r δ k hp hI hk => ?_) fun δ' hI => ?_
      · obtain ⟨acc, o2, o3, o4, rfl, hacc⟩ := hI
        rw [List.nil_append] at hp
        obtain ⟨x, hx1, rfl⟩ := prs_at xs 0 p e r hp
        rw [Nat.zero_add]
        rw [spoiltL_at hx1] at hacc
        have hxm : x ∈ xs := List.mem_of_getElem? hx1
        have hxd := depth_mem hxm
        have hxs := spoiltL_sub xs [] x hxm
        have hal : acc.length + (odds ++ spoilt x).length ≤ (spoiltL [] xs).length := by
          rw [← hacc, List.length_append (as := acc), List.length_append (bs := spoiltL _ _), List.length_map]
          omega
        simp only [sSeq, sNext, sExpr, sRet, sIf, sSet, sSetF, sAsg, sPar, sRaise, sFor, sApp, sExt, sPop, sItem, sAugI, sAug, sFrz, sMove, sBreak, sCont, gN, gT, gsNil, gsCons, dVar, vS_d, vS_own, vS_town, vS_v, vS_scr, fz_scr, dC, dOp, dCall, dCallK, daNil, daCons, dTup, dLst, dSl, doNone, doSome, dIf, dAnd, dOr, dNot, dNeg, dOne, dTwoI, dChain, dLc, bVal, bTru, bScr, dLenS, dIxS, dCount, dRest, sCount, sRest, bNot, bAnd, bOr, bYes, wInt2, wIntC, wAdd, wMul, wIx, wIn, wEqD, wIsN, oLen, oTuple, oList, oAll, oSum, oIsi, iSeq, iRng1D, iRng2D, iEnumD, iZipD, fz_d, fz_own, fz_town, fz_v, fz_abs, asDs, fzB, wipeD, asD_d, asD_own, asD_bor, asL_list, asL_tuple, asL_own, asL_bor, asL_int, asL_bool, asL_none, asS_list, asS_tuple, asS_own, asS_bor, tru_bool, tru_int, tru_none, tru_tuple, tru_list, tru_own, tru_bor, stO_d, stO_own, stO_town, stO_v, stO_abs, rtS_d, rtS_own, rtS_bor, rtS_v, rtS_abs, isN_none, isN_tuple, isN_int, isN_list, isN_bool, List.map_cons, List.map_nil, List.length_cons, List.length_nil, List.cons_append, List.nil_append, List.getElem?_cons_zero, List.getElem?_cons_succ, List.set_cons_zero, List.set_cons_succ, Option.map_some, Option.map_none, Option.some.injEq, SV.d.injEq, SV.own.injEq, PyData.int.injEq, PyData.bool.injEq, PyData.tuple.injEq, PyData.list.injEq, PyData.str.injEq, List.cons.injEq, exists_eq_left, exists_eq_left', exists_eq_right, exists_and_left, exists_and_right, exists_const, and_true, true_and, if_true, if_false, reduceCtorEq, false_or, or_false, false_and, and_false, Bool.not_true, Bool.not_false, Bool.false_eq_true, ite_true, ite_false, reduceIte, Bool.true_eq_false, Nat.reduceAdd, nc0, nc1, nc2, nc3, nc4, nc5, nc6, nc7, nc8, Int.reduceBEq, beq_self_eq_true, Bool.and_true, Bool.true_and, Bool.and_false, Bool.false_and, Nat.zero_add, at_law_spoilt_]
        refine ⟨by omega, by omega, by rw [sizeLine_eq]; omega, ?_⟩
        show forR _ _ (odds ++ spoilt x) _ _ _
        refine forR_inv (fun pre δ => ∃ o4 : Option SV, δ = [some (.d (.tuple xs)), some (.own (acc ++ pre.map fun o => PyData.tuple (xs.take p.length ++ o :: xs.drop (p.length + 1)))), some (.d (.int p.length)), some (.d x), o4]) _ [] _
          ⟨o4, by rw [List.map_nil, List.append_nil]⟩ (fun p' o r' δ k' hp' hI hk' => ?_) fun δ' hI => ?_
        · obtain ⟨o4', rfl⟩ := hI
          rw [List.nil_append] at hp'
          have hpl : p'.length < (odds ++ spoilt x).length := by
            rw [hp', List.length_append, List.length_cons]
            omega
          have hpx : p.length < xs.length := (List.getElem?_eq_some_iff.mp hx1).1
          have e1 : ((p.length : Int) + 1) = ((p.length + 1 : Nat) : Int) := rfl
          simp only [sSeq, sNext, sExpr, sRet, sIf, sSet, sSetF, sAsg, sPar, sRaise, sFor, sApp, sExt, sPop, sItem, sAugI, sAug, sFrz, sMove, sBreak, sCont, gN, gT, gsNil, gsCons, dVar, vS_d, vS_own, vS_town, vS_v, vS_scr, fz_scr, dC, dOp, dCall, dCallK, daNil, daCons, dTup, dLst, dSl, doNone, doSome, dIf, dAnd, dOr, dNot, dNeg, dOne, dTwoI, dChain, dLc, bVal, bTru, bScr, dLenS, dIxS, dCount, dRest, sCount, sRest, bNot, bAnd, bOr, bYes, wInt2, wIntC, wAdd, wMul, wIx, wIn, wEqD, wIsN, oLen, oTuple, oList, oAll, oSum, oIsi, iSeq, iRng1D, iRng2D, iEnumD, iZipD, fz_d, fz_own, fz_town, fz_v, fz_abs, asDs, fzB, wipeD, asD_d, asD_own, asD_bor, asL_list, asL_tuple, asL_own, asL_bor, asL_int, asL_bool, asL_none, asS_list, asS_tuple, asS_own, asS_bor, tru_bool, tru_int, tru_none, tru_tuple, tru_list, tru_own, tru_bor, stO_d, stO_own, stO_town, stO_v, stO_abs, rtS_d, rtS_own, rtS_bor, rtS_v, rtS_abs, isN_none, isN_tuple, isN_int, isN_list, isN_bool, List.map_cons, List.map_nil, List.length_cons, List.length_nil, List.cons_append, List.nil_append, List.getElem?_cons_zero, List.getElem?_cons_succ, List.set_cons_zero, List.set_cons_succ, Option.map_some, Option.map_none, Option.some.injEq, SV.d.injEq, SV.own.injEq, PyData.int.injEq, PyData.bool.injEq, PyData.tuple.injEq, PyData.list.injEq, PyData.str.injEq, List.cons.injEq, exists_eq_left, exists_eq_left', exists_eq_right, exists_and_left, exists_and_right, exists_const, and_true, true_and, if_true, if_false, reduceCtorEq, false_or, or_false, false_and, and_false, Bool.not_true, Bool.not_false, Bool.false_eq_true, ite_true, ite_false, reduceIte, Bool.true_eq_false, Nat.reduceAdd, nc0, nc1, nc2, nc3, nc4, nc5, nc6, nc7, nc8, Int.reduceBEq, beq_self_eq_true, Bool.and_true, Bool.true_and, Bool.and_false, Bool.false_and, Nat.zero_add, e1, cut_to, cut_from]
          refine ⟨by decide, ?_, ?_, ?_, hk' _ ⟨some (.d o), ?_⟩⟩
          · rw [List.length_take, sizeLine_eq]
            omega
          · rw [List.length_append, List.length_take, List.length_drop, sizeLine_eq, List.length_cons, List.length_nil]
            omega
          · rw [List.length_append, List.length_map, sizeLine_eq]
            omega
          · rw [List.map_append, ← List.append_assoc, List.map_cons, List.map_nil, List.append_assoc (List.take _ _)]
            rfl
        · obtain ⟨o4', rfl⟩ := hI
          refine hk _ ⟨_, _, _, _, rfl, ?_⟩
          rw [List.nil_append, List.length_append, List.length_cons, List.length_nil, List.append_assoc]
          exact hacc
      · obtain ⟨acc, o2, o3, o4, rfl, hacc⟩ := hI
        rw [List.nil_append, prs_len, List.take_length, List.drop_length] at hacc
        have e : acc = spoiltL [] xs := by
          rw [← hacc, spoiltL, List.append_nil]
        subst e
        refine hK _ ?_
        clear hK K
        simp only [sSeq, sNext, sExpr, sRet, sIf, sSet, sSetF, sAsg, sPar, sRaise, sFor, sApp, sExt, sPop, sItem, sAugI, sAug, sFrz, sMove, sBreak, sCont, gN, gT, gsNil, gsCons, dVar, vS_d, vS_own, vS_town, vS_v, vS_scr, fz_scr, dC, dOp, dCall, dCallK, daNil, daCons, dTup, dLst, dSl, doNone, doSome, dIf, dAnd, dOr, dNot, dNeg, dOne, dTwoI, dChain, dLc, bVal, bTru, bScr, dLenS, dIxS, dCount, dRest, sCount, sRest, bNot, bAnd, bOr, bYes, wInt2, wIntC, wAdd, wMul, wIx, wIn, wEqD, wIsN, oLen, oTuple, oList, oAll, oSum, oIsi, iSeq, iRng1D, iRng2D, iEnumD, iZipD, fz_d, fz_own, fz_town, fz_v, fz_abs, asDs, fzB, wipeD, asD_d, asD_own, asD_bor, asL_list, asL_tuple, asL_own, asL_bor, asL_int, asL_bool, asL_none, asS_list, asS_tuple, asS_own, asS_bor, tru_bool, tru_int, tru_none, tru_tuple, tru_list, tru_own, tru_bor, stO_d, stO_own, stO_town, stO_v, stO_abs, rtS_d, rtS_own, rtS_bor, rtS_v, rtS_abs, isN_none, isN_tuple, isN_int, isN_list, isN_bool, List.map_cons, List.map_nil, List.length_cons, List.length_nil, List.cons_append, List.nil_append, List.getElem?_cons_zero, List.getElem?_cons_succ, List.set_cons_zero, List.set_cons_succ, Option.map_some, Option.map_none, Option.some.injEq, SV.d.injEq, SV.own.injEq, PyData.int.injEq, PyData.bool.injEq, PyData.tuple.injEq, PyData.list.injEq, PyData.str.injEq, List.cons.injEq, exists_eq_left, exists_eq_left', exists_eq_right, exists_and_left, exists_and_right, exists_const, and_true, true_and, if_true, if_false, reduceCtorEq, false_or, or_false, false_and, and_false, Bool.not_true, Bool.not_false, Bool.false_eq_true, ite_true, ite_false, reduceIte, Bool.true_eq_false, Nat.reduceAdd, nc0, nc1, nc2, nc3, nc4, nc5, nc6, nc7, nc8, Int.reduceBEq, beq_self_eq_true, Bool.and_true, Bool.true_and, Bool.and_false, Bool.false_and, Nat.zero_add]
        exact ⟨by rw [sizeLine_eq]; omega, by decide, by rw [sizeLine_eq]; omega, q⟩
    | none =>
      simp only [t_law_spoilt, sSeq, sNext, sExpr, sRet, sIf, sSet, sSetF, sAsg, sPar, sRaise, sFor, sApp, sExt, sPop, sItem, sAugI, sAug, sFrz, sMove, sBreak, sCont, gN, gT, gsNil, gsCons, dVar, vS_d, vS_own, vS_town, vS_v, vS_scr, fz_scr, dC, dOp, dCall, dCallK, daNil, daCons, dTup, dLst, dSl, doNone, doSome, dIf, dAnd, dOr, dNot, dNeg, dOne, dTwoI, dChain, dLc, bVal, bTru, bScr, dLenS, dIxS, dCount, dRest, sCount, sRest, bNot, bAnd, bOr, bYes, wInt2, wIntC, wAdd, wMul, wIx, wIn, wEqD, wIsN, oLen, oTuple, oList, oAll, oSum, oIsi, iSeq, iRng1D, iRng2D, iEnumD, iZipD, fz_d, fz_own, fz_town, fz_v, fz_abs, asDs, fzB, wipeD, asD_d, asD_own, asD_bor, asL_list, asL_tuple, asL_own, asL_bor, asL_int, asL_bool, asL_none, asS_list, asS_tuple, asS_own, asS_bor, tru_bool, tru_int, tru_none, tru_tuple, tru_list, tru_own, tru_bor, stO_d, stO_own, stO_town, stO_v, stO_abs, rtS_d, rtS_own, rtS_bor, rtS_v, rtS_abs, isN_none, isN_tuple, isN_int, isN_list, isN_bool, List.map_cons, List.map_nil, List.length_cons, List.length_nil, List.cons_append, List.nil_append, List.getElem?_cons_zero, List.getElem?_cons_succ, List.set_cons_zero, List.set_cons_succ, Option.map_some, Option.map_none, Option.some.injEq, SV.d.injEq, SV.own.injEq, PyData.int.injEq, PyData.bool.injEq, PyData.tuple.injEq, PyData.list.injEq, PyData.str.injEq, List.cons.injEq, exists_eq_left, exists_eq_left', exists_eq_right, exists_and_left, exists_and_right, exists_const, and_true, true_and, if_true, if_false, reduceCtorEq, false_or, or_false, false_and, and_false, Bool.not_true, Bool.not_false, Bool.false_eq_true, ite_true, ite_false, reduceIte, Bool.true_eq_false, Nat.reduceAdd, nc0, nc1, nc2, nc3, nc4, nc5, nc6, nc7, nc8, Int.reduceBEq, beq_self_eq_true, Bool.and_true, Bool.true_and, Bool.and_false, Bool.false_and, Nat.zero_add, isi_tuple]
      exact ⟨by decide, q⟩
    | bool _ =>
      simp only [t_law_spoilt, sSeq, sNext, sExpr, sRet, sIf, sSet, sSetF, sAsg, sPar, sRaise, sFor, sApp, sExt, sPop, sItem, sAugI, sAug, sFrz, sMove, sBreak, sCont, gN, gT, gsNil, gsCons, dVar, vS_d, vS_own, vS_town, vS_v, vS_scr, fz_scr, dC, dOp, dCall, dCallK, daNil, daCons, dTup, dLst, dSl, doNone, doSome, dIf, dAnd, dOr, dNot, dNeg, dOne, dTwoI, dChain, dLc, bVal, bTru, bScr, dLenS, dIxS, dCount, dRest, sCount, sRest, bNot, bAnd, bOr, bYes, wInt2, wIntC, wAdd, wMul, wIx, wIn, wEqD, wIsN, oLen, oTuple, oList, oAll, oSum, oIsi, iSeq, iRng1D, iRng2D, iEnumD, iZipD, fz_d, fz_own, fz_town, fz_v, fz_abs, asDs, fzB, wipeD, asD_d, asD_own, asD_bor, asL_list, asL_tuple, asL_own, asL_bor, asL_int, asL_bool, asL_none, asS_list, asS_tuple, asS_own, asS_bor, tru_bool, tru_int, tru_none, tru_tuple, tru_list, tru_own, tru_bor, stO_d, stO_own, stO_town, stO_v, stO_abs, rtS_d, rtS_own, rtS_bor, rtS_v, rtS_abs, isN_none, isN_tuple, isN_int, isN_list, isN_bool, List.map_cons, List.map_nil, List.length_cons, List.length_nil, List.cons_append, List.nil_append, List.getElem?_cons_zero, List.getElem?_cons_succ, List.set_cons_zero, List.set_cons_succ, Option.map_some, Option.map_none, Option.some.injEq, SV.d.injEq, SV.own.injEq, PyData.int.injEq, PyData.bool.injEq, PyData.tuple.injEq, PyData.list.injEq, PyData.str.injEq, List.cons.injEq, exists_eq_left, exists_eq_left', exists_eq_right, exists_and_left, exists_and_right, exists_const, and_true, true_and, if_true, if_false, reduceCtorEq, false_or, or_false, false_and, and_false, Bool.not_true, Bool.not_false, Bool.false_eq_true, ite_true, ite_false, reduceIte, Bool.true_eq_false, Nat.reduceAdd, nc0, nc1, nc2, nc3, nc4, nc5, nc6, nc7, nc8, Int.reduceBEq, beq_self_eq_true, Bool.and_true, Bool.true_and, Bool.and_false, Bool.false_and, Nat.zero_add, isi_tuple]
      exact ⟨by decide, q⟩
    | int _ =>
      simp only [t_law_spoilt, sSeq, sNext, sExpr, sRet, sIf, sSet, sSetF, sAsg, sPar, sRaise, sFor, sApp, sExt, sPop, sItem, sAugI, sAug, sFrz, sMove, sBreak, sCont, gN, gT, gsNil, gsCons, dVar, vS_d, vS_own, vS_town, vS_v, vS_scr, fz_scr, dC, dOp, dCall, dCallK, daNil, daCons, dTup, dLst, dSl, doNone, doSome, dIf, dAnd, dOr, dNot, dNeg, dOne, dTwoI, dChain, dLc, bVal, bTru, bScr, dLenS, dIxS, dCount, dRest, sCount, sRest, bNot, bAnd, bOr, bYes, wInt2, wIntC, wAdd, wMul, wIx, wIn, wEqD, wIsN, oLen, oTuple, oList, oAll, oSum, oIsi, iSeq, iRng1D, iRng2D, iEnumD, iZipD, fz_d, fz_own, fz_town, fz_v, fz_abs, asDs, fzB, wipeD, asD_d, asD_own, asD_bor, asL_list, asL_tuple, asL_own, asL_bor, asL_int, asL_bool, asL_none, asS_list, asS_tuple, asS_own, asS_bor, tru_bool, tru_int, tru_none, tru_tuple, tru_list, tru_own, tru_bor, stO_d, stO_own, stO_town, stO_v, stO_abs, rtS_d, rtS_own, rtS_bor, rtS_v, rtS_abs, isN_none, isN_tuple, isN_int, isN_list, isN_bool, List.map_cons, List.map_nil, List.length_cons, List.length_nil, List.cons_append, List.nil_append, List.getElem?_cons_zero, List.getElem?_cons_succ, List.set_cons_zero, List.set_cons_succ, Option.map_some, Option.map_none, Option.some.injEq, SV.d.injEq, SV.own.injEq, PyData.int.injEq, PyData.bool.injEq, PyData.tuple.injEq, PyData.list.injEq, PyData.str.injEq, List.cons.injEq, exists_eq_left, exists_eq_left', exists_eq_right, exists_and_left, exists_and_right, exists_const, and_true, true_and, if_true, if_false, reduceCtorEq, false_or, or_false, false_and, and_false, Bool.not_true, Bool.not_false, Bool.false_eq_true, ite_true, ite_false, reduceIte, Bool.true_eq_false, Nat.reduceAdd, nc0, nc1, nc2, nc3, nc4, nc5, nc6, nc7, nc8, Int.reduceBEq, beq_self_eq_true, Bool.and_true, Bool.true_and, Bool.and_false, Bool.false_and, Nat.zero_add, isi_tuple]
      exact ⟨by decide, q⟩
    | str _ =>
      simp only [t_law_spoilt, sSeq, sNext, sExpr, sRet, sIf, sSet, sSetF, sAsg, sPar, sRaise, sFor, sApp, sExt, sPop, sItem, sAugI, sAug, sFrz, sMove, sBreak, sCont, gN, gT, gsNil, gsCons, dVar, vS_d, vS_own, vS_town, vS_v, vS_scr, fz_scr, dC, dOp, dCall, dCallK, daNil, daCons, dTup, dLst, dSl, doNone, doSome, dIf, dAnd, dOr, dNot, dNeg, dOne, dTwoI, dChain, dLc, bVal, bTru, bScr, dLenS, dIxS, dCount, dRest, sCount, sRest, bNot, bAnd, bOr, bYes, wInt2, wIntC, wAdd, wMul, wIx, wIn, wEqD, wIsN, oLen, oTuple, oList, oAll, oSum, oIsi, iSeq, iRng1D, iRng2D, iEnumD, iZipD, fz_d, fz_own, fz_town, fz_v, fz_abs, asDs, fzB, wipeD, asD_d, asD_own, asD_bor, asL_list, asL_tuple, asL_own, asL_bor, asL_int, asL_bool, asL_none, asS_list, asS_tuple, asS_own, asS_bor, tru_bool, tru_int, tru_none, tru_tuple, tru_list, tru_own, tru_bor, stO_d, stO_own, stO_town, stO_v, stO_abs, rtS_d, rtS_own, rtS_bor, rtS_v, rtS_abs, isN_none, isN_tuple, isN_int, isN_list, isN_bool, List.map_cons, List.map_nil, List.length_cons, List.length_nil, List.cons_append, List.nil_append, List.getElem?_cons_zero, List.getElem?_cons_succ, List.set_cons_zero, List.set_cons_succ, Option.map_some, Option.map_none, Option.some.injEq, SV.d.injEq, SV.own.injEq, PyData.int.injEq, PyData.bool.injEq, PyData.tuple.injEq, PyData.list.injEq, PyData.str.injEq, List.cons.injEq, exists_eq_left, exists_eq_left', exists_eq_right, exists_and_left, exists_and_right, exists_const, and_true, true_and, if_true, if_false, reduceCtorEq, false_or, or_false, false_and, and_false, Bool.not_true, Bool.not_false, Bool.false_eq_true, ite_true, ite_false, reduceIte, Bool.true_eq_false, Nat.reduceAdd, nc0, nc1, nc2, nc3, nc4, nc5, nc6, nc7, nc8, Int.reduceBEq, beq_self_eq_true, Bool.and_true, Bool.true_and, Bool.and_false, Bool.false_and, Nat.zero_add, isi_tuple]
      exact ⟨by decide, q⟩
    | list _ =>
      simp only [t_law_spoilt, sSeq, sNext, sExpr, sRet, sIf, sSet, sSetF, sAsg, sPar, sRaise, sFor, sApp, sExt, sPop, sItem, sAugI, sAug, sFrz, sMove, sBreak, sCont, gN, gT, gsNil, gsCons, dVar, vS_d, vS_own, vS_town, vS_v, vS_scr, fz_scr, dC, dOp, dCall, dCallK, daNil, daCons, dTup, dLst, dSl, doNone, doSome, dIf, dAnd, dOr, dNot, dNeg, dOne, dTwoI, dChain, dLc, bVal, bTru, bScr, dLenS, dIxS, dCount, dRest, sCount, sRest, bNot, bAnd, bOr, bYes, wInt2, wIntC, wAdd, wMul, wIx, wIn, wEqD, wIsN, oLen, oTuple, oList, oAll, oSum, oIsi, iSeq, iRng1D, iRng2D, iEnumD, iZipD, fz_d, fz_own, fz_town, fz_v, fz_abs, asDs, fzB, wipeD, asD_d, asD_own, asD_bor, asL_list, asL_tuple, asL_own, asL_bor, asL_int, asL_bool, asL_none, asS_list, asS_tuple, asS_own, asS_bor, tru_bool, tru_int, tru_none, tru_tuple, tru_list, tru_own, tru_bor, stO_d, stO_own, stO_town, stO_v, stO_abs, rtS_d, rtS_own, rtS_bor, rtS_v, rtS_abs, isN_none, isN_tuple, isN_int, isN_list, isN_bool, List.map_cons, List.map_nil, List.length_cons, List.length_nil, List.cons_append, List.nil_append, List.getElem?_cons_zero, List.getElem?_cons_succ, List.set_cons_zero, List.set_cons_succ, Option.map_some, Option.map_none, Option.some.injEq, SV.d.injEq, SV.own.injEq, PyData.int.injEq, PyData.bool.injEq, PyData.tuple.injEq, PyData.list.injEq, PyData.str.injEq, List.cons.injEq, exists_eq_left, exists_eq_left', exists_eq_right, exists_and_left, exists_and_right, exists_const, and_true, true_and, if_true, if_false, reduceCtorEq, false_or, or_false, false_and, and_false, Bool.not_true, Bool.not_false, Bool.false_eq_true, ite_true, ite_false, reduceIte, Bool.true_eq_false, Nat.reduceAdd, nc0, nc1, nc2, nc3, nc4, nc5, nc6, nc7, nc8, Int.reduceBEq, beq_self_eq_true, Bool.and_true, Bool.true_and, Bool.and_false, Bool.false_and, Nat.zero_add, isi_tuple]
      exact ⟨by decide, q⟩
    | dict _ =>
      simp only [t_law_spoilt, sSeq, sNext, sExpr, sRet, sIf, sSet, sSetF, sAsg, sPar, sRaise, sFor, sApp, sExt, sPop, sItem, sAugI, sAug, sFrz, sMove, sBreak, sCont, gN, gT, gsNil, gsCons, dVar, vS_d, vS_own, vS_town, vS_v, vS_scr, fz_scr, dC, dOp, dCall, dCallK, daNil, daCons, dTup, dLst, dSl, doNone, doSome, dIf, dAnd, dOr, dNot, dNeg, dOne, dTwoI, dChain, dLc, bVal, bTru, bScr, dLenS, dIxS, dCount, dRest, sCount, sRest, bNot, bAnd, bOr, bYes, wInt2, wIntC, wAdd, wMul, wIx, wIn, wEqD, wIsN, oLen, oTuple, oList, oAll, oSum, oIsi, iSeq, iRng1D, iRng2D, iEnumD, iZipD, fz_d, fz_own, fz_town, fz_v, fz_abs, asDs, fzB, wipeD, asD_d, asD_own, asD_bor, asL_list, asL_tuple, asL_own, asL_bor, asL_int, asL_bool, asL_none, asS_list, asS_tuple, asS_own, asS_bor, tru_bool, tru_int, tru_none, tru_tuple, tru_list, tru_own, tru_bor, stO_d, stO_own, stO_town, stO_v, stO_abs, rtS_d, rtS_own, rtS_bor, rtS_v, rtS_abs, isN_none, isN_tuple, isN_int, isN_list, isN_bool, List.map_cons, List.map_nil, List.length_cons, List.length_nil, List.cons_append, List.nil_append, List.getElem?_cons_zero, List.getElem?_cons_succ, List.set_cons_zero, List.set_cons_succ, Option.map_some, Option.map_none, Option.some.injEq, SV.d.injEq, SV.own.injEq, PyData.int.injEq, PyData.bool.injEq, PyData.tuple.injEq, PyData.list.injEq, PyData.str.injEq, List.cons.injEq, exists_eq_left, exists_eq_left', exists_eq_right, exists_and_left, exists_and_right, exists_const, and_true, true_and, if_true, if_false, reduceCtorEq, false_or, or_false, false_and, and_false, Bool.not_true, Bool.not_false, Bool.false_eq_true, ite_true, ite_false, reduceIte, Bool.true_eq_false, Nat.reduceAdd, nc0, nc1, nc2, nc3, nc4, nc5, nc6, nc7, nc8, Int.reduceBEq, beq_self_eq_true, Bool.and_true, Bool.true_and, Bool.and_false, Bool.false_and, Nat.zero_add, isi_tuple]
      exact ⟨by decide, q⟩
  · exact h.elim
end DL
/-! Fe: plain facts on spoilt values. -/
namespace DL
open PySem PySem.Spec PyProof.Rows L2
/-! ### what may be compared -/
def Fit (k : Nat) (v : PyData) : Prop := v.canLay0 = true ∧ v.depth ≤ k
theorem lay_all : ∀ {xs : List PyData}, PyData.canLayAll0 xs = true ↔ ∀ x ∈ xs, x.canLay0 = true
  | [] => ⟨fun _ _ z => (nomatch z), fun _ => rfl⟩
  | x :: xs => by
    have ih := lay_all (xs := xs)
    show (x.canLay0 && PyData.canLayAll0 xs) = true ↔ _
    rw [Bool.and_eq_true, ih]
    simp
theorem dep_all : ∀ {xs : List PyData} {k : Nat}, PyData.depthAll xs ≤ k ↔ ∀ x ∈ xs, x.depth ≤ k
  | [], k => ⟨fun _ _ z => (nomatch z), fun _ => Nat.zero_le _⟩
  | x :: xs, k => by
    have ih := dep_all (xs := xs) (k := k)
    show max x.depth (PyData.depthAll xs) ≤ k ↔ _
    rw [Nat.max_le, ih]
    simp
theorem Fit.mono {k l : Nat} {v : PyData} (h : Fit k v) (e : k ≤ l) : Fit l v := ⟨h.1, Nat.le_trans h.2 e⟩
theorem Fit.tuple {k : Nat} {xs : List PyData} (h : ∀ x ∈ xs, Fit k x) : Fit (k + 1) (.tuple xs) :=
  ⟨by rw [PyData.canLay0]; exact lay_all.mpr fun x hx => (h x hx).1, by rw [PyData.depth]; exact Nat.succ_le_succ (dep_all.mpr fun x hx => (h x hx).2)⟩
theorem Fit.list {k : Nat} {xs : List PyData} (h : ∀ x ∈ xs, Fit k x) : Fit (k + 1) (.list xs) :=
  ⟨by rw [PyData.canLay0]; exact lay_all.mpr fun x hx => (h x hx).1, by rw [PyData.depth]; exact Nat.succ_le_succ (dep_all.mpr fun x hx => (h x hx).2)⟩
theorem Fit.ofTuple {k : Nat} {xs : List PyData} (h : Fit (k + 1) (.tuple xs)) : ∀ x ∈ xs, Fit k x := fun x hx => by
  obtain ⟨h1, h2⟩ := h
  rw [PyData.canLay0] at h1
  rw [PyData.depth] at h2
  exact ⟨lay_all.mp h1 x hx, dep_all.mp (Nat.le_of_succ_le_succ h2) x hx⟩
theorem Fit.ofList {k : Nat} {xs : List PyData} (h : Fit (k + 1) (.list xs)) : ∀ x ∈ xs, Fit k x := fun x hx => by
  obtain ⟨h1, h2⟩ := h
  rw [PyData.canLay0] at h1
  rw [PyData.depth] at h2
  exact ⟨lay_all.mp h1 x hx, dep_all.mp (Nat.le_of_succ_le_succ h2) x hx⟩
theorem Fit.sh {k : Nat} {v : PyData} (h : Fit k v) (e : k ≤ 64) : SeqAt.shaped v = true := by
  show (v.canLay0 && decide (v.depth ≤ 64)) = true
  rw [Bool.and_eq_true, decide_eq_true_eq]
  exact ⟨h.1, Nat.le_trans h.2 e⟩
theorem fit_int {k : Nat} (i : Int) : Fit k (.int i) := ⟨rfl, Nat.zero_le _⟩
theorem fit_bool {k : Nat} (i : Bool) : Fit k (.bool i) := ⟨rfl, Nat.zero_le _⟩
theorem fit_none {k : Nat} : Fit k .none := ⟨rfl, Nat.zero_le _⟩
theorem fit_nats (ns : List Nat) : Fit 1 (natsD ns) := Fit.tuple fun x hx => by
  obtain ⟨n, _, rfl⟩ := List.mem_map.mp hx
  exact fit_int _
theorem mem_cut {xs : List PyData} {lo hi : Option Int} {x : PyData} (h : x ∈ cut xs lo hi) : x ∈ xs := List.mem_of_mem_drop (List.mem_of_mem_take h)
theorem fit_rule (r : Rl) : Fit 2 r.enc := Fit.tuple fun x hx => by
  simp only [List.mem_cons, List.not_mem_nil, or_false] at hx
  rcases hx with rfl | rfl | rfl | rfl | rfl
  · exact fit_int _
  · exact fit_int _
  · exact fit_int _
  · exact fit_nats _
  · exact fit_nats _
theorem fit_rules (rs : List Rl) : Fit 3 (.tuple (rs.map Rl.enc)) := Fit.tuple fun x hx => by
  obtain ⟨r, _, rfl⟩ := List.mem_map.mp hx
  exact fit_rule r
theorem fit_pr (p : Pr) : Fit 4 p.enc := Fit.tuple fun x hx => by
  simp only [List.mem_cons, List.not_mem_nil, or_false] at hx
  rcases hx with rfl | rfl
  · exact fit_int _
  · exact fit_rules _
theorem fit_odds : ∀ o ∈ odds, Fit 1 o := fun o ho => by
  simp only [odds, List.mem_cons, List.not_mem_nil, or_false] at ho
  rcases ho with rfl | rfl | rfl | rfl | rfl | rfl
  · exact fit_none
  · exact ⟨by decide +kernel, by decide⟩
  · exact fit_int _
  · exact fit_int _
  · exact ⟨by decide, by decide⟩
  · exact fit_bool _
/-- what a spoilt value is -/
theorem mem_spoiltL : ∀ (xs pre : List PyData) (o : PyData), o ∈ spoiltL pre xs → ∃ a x b y, xs = a ++ x :: b ∧ o = .tuple (pre ++ (a ++ y :: b)) ∧ (y ∈ odds ∨ y ∈ spoilt x)
  | [], pre, o, h => by
    rw [spoiltL] at h
    cases h
  | x :: r, pre, o, h => by
    rw [spoiltL_cons] at h
    rcases List.mem_append.mp h with h | h
    · obtain ⟨y, hy, rfl⟩ := List.mem_map.mp h
      exact ⟨[], x, r, y, rfl, rfl, List.mem_append.mp hy⟩
    · obtain ⟨a, z, b, y, rfl, rfl, hy⟩ := mem_spoiltL r (pre ++ [x]) o h
      refine ⟨x :: a, z, b, y, rfl, ?_, hy⟩
      rw [List.append_assoc]
      rfl
theorem mem_spoilt {xs : List PyData} {o : PyData} (h : o ∈ spoilt (.tuple xs)) : (∃ a x b y, xs = a ++ x :: b ∧ o = .tuple (a ++ y :: b) ∧ (y ∈ odds ∨ y ∈ spoilt x)) ∨ o = .list xs ∨ o = .tuple (xs ++ [.none]) := by
  rw [spoilt_tuple] at h
  rcases List.mem_append.mp h with h | h
  · obtain ⟨a, x, b, y, h1, h2, h3⟩ := mem_spoiltL xs [] o h
    exact .inl ⟨a, x, b, y, h1, h2, h3⟩
  · simp only [List.mem_cons, List.not_mem_nil, or_false] at h
    exact .inr h
theorem spoilt_int (i : Int) : spoilt (.int i) = [] := by rw [spoilt]; intro _ z; cases z
mutual
theorem spoilt_fit : ∀ (v : PyData) (k : Nat), Fit k v → ∀ o ∈ spoilt v, Fit (k + 1) o
  | .tuple xs, 0, h, _, _ => absurd h.2 (by rw [PyData.depth]; omega)
  | .tuple xs, k + 1, h, o, ho => by
    rw [spoilt_tuple] at ho
    have hx := h.ofTuple
    rcases List.mem_append.mp ho with ho | ho
    · exact spoiltL_fit xs [] k hx (fun _ z => nomatch z) o ho
    · simp only [List.mem_cons, List.not_mem_nil, or_false] at ho
      rcases ho with rfl | rfl
      · exact (Fit.list hx).mono (by omega)
      · refine (Fit.tuple (k := k) fun x hx2 => ?_).mono (by omega)
        rcases List.mem_append.mp hx2 with h2 | h2
        · exact hx x h2
        · rw [List.mem_singleton] at h2
          subst h2
          exact fit_none
  | .none, _, _, o, ho => by rw [spoilt] at ho; cases ho; intro _ z; cases z
  | .bool _, _, _, o, ho => by rw [spoilt] at ho; cases ho; intro _ z; cases z
  | .int _, _, _, o, ho => by rw [spoilt] at ho; cases ho; intro _ z; cases z
  | .str _, _, _, o, ho => by rw [spoilt] at ho; cases ho; intro _ z; cases z
  | .list _, _, _, o, ho => by rw [spoilt] at ho; cases ho; intro _ z; cases z
  | .dict _, _, _, o, ho => by rw [spoilt] at ho; cases ho; intro _ z; cases z
theorem spoiltL_fit : ∀ (xs pre : List PyData) (k : Nat), (∀ x ∈ xs, Fit k x) → (∀ x ∈ pre, Fit k x) → ∀ o ∈ spoiltL pre xs, Fit (k + 2) o
  | [], pre, k, _, _, o, ho => by rw [spoiltL] at ho; cases ho
  | x :: r, pre, k, hx, hp, o, ho => by
    rw [spoiltL_cons] at ho
    rcases List.mem_append.mp ho with ho | ho
    · obtain ⟨y, hy, rfl⟩ := List.mem_map.mp ho
      have fy : Fit (k + 1) y := by
        rcases List.mem_append.mp hy with hy | hy
        · exact (fit_odds y hy).mono (by omega)
        · exact spoilt_fit x k (hx x List.mem_cons_self) y hy
      refine Fit.tuple fun z hz => ?_
      rcases List.mem_append.mp hz with hz | hz
      · exact (hp z hz).mono (by omega)
      · rcases List.mem_cons.mp hz with rfl | hz
        · exact fy
        · exact (hx z (List.mem_cons_of_mem _ hz)).mono (by omega)
    · refine spoiltL_fit r (pre ++ [x]) k (fun z hz => hx z (List.mem_cons_of_mem _ hz)) (fun z hz => ?_) o ho
      rcases List.mem_append.mp hz with hz | hz
      · exact hp z hz
      · rw [List.mem_singleton] at hz
        subst hz
        exact hx _ List.mem_cons_self
end
/-! ### spoilt rules, protocols, configurations -/
theorem odd_btw {o : PyData} (h : o ∈ odds) {lo m : Nat} (hm : m ≤ 9) : isBetween o (lo : Int) ((m : Int) - 1) = false := by
  simp only [odds, List.mem_cons, List.not_mem_nil, or_false] at h
  rcases h with rfl | rfl | rfl | rfl | rfl | rfl
  · rfl
  · rfl
  · simp only [isBetween, Bool.and_eq_false_iff, decide_eq_false_iff_not]
    omega
  · simp only [isBetween, Bool.and_eq_false_iff, decide_eq_false_iff_not]
    omega
  · rfl
  · rfl
theorem odd_are {o : PyData} (h : o ∈ odds) {lo m : Nat} (hm : m ≤ 9) : areBetween o (lo : Int) ((m : Int) - 1) = false := by
  simp only [odds, List.mem_cons, List.not_mem_nil, or_false] at h
  rcases h with rfl | rfl | rfl | rfl | rfl | rfl <;> rfl
theorem odd_rule {o : PyData} (h : o ∈ odds) {m : Int} : isRule m o = false := by
  simp only [odds, List.mem_cons, List.not_mem_nil, or_false] at h
  rcases h with rfl | rfl | rfl | rfl | rfl | rfl <;> rfl
theorem all_false {f : PyData → Bool} {xs : List PyData} {x : PyData} (h : x ∈ xs) (e : f x = false) : xs.all f = false := by
  rw [List.all_eq_false]
  exact ⟨x, h, by rw [e]; exact Bool.false_ne_true⟩
theorem sp_nats {ns : List Nat} {o : PyData} (h : o ∈ spoilt (natsD ns)) : (∃ ys y, o = .tuple ys ∧ y ∈ odds ∧ y ∈ ys ∧ ys.length = ns.length) ∨ o = .list (ns.map (fun n : Nat => PyData.int (n : Int))) ∨ o = .tuple (ns.map (fun n : Nat => PyData.int (n : Int)) ++ [.none]) := by
  rcases mem_spoilt h with ⟨a, x, b, y, h1, rfl, h3⟩ | h
  · have hx : x ∈ ns.map (fun n : Nat => PyData.int (n : Int)) := by
      rw [h1]
      exact List.mem_append_right _ List.mem_cons_self
    obtain ⟨n, _, rfl⟩ := List.mem_map.mp hx
    have hl := congrArg List.length h1
    rw [List.length_map, List.length_append, List.length_cons] at hl
    refine .inl ⟨_, y, rfl, ?_, List.mem_append_right _ List.mem_cons_self, by rw [List.length_append, List.length_cons, hl]⟩
    rcases h3 with h3 | h3
    · exact h3
    · rw [spoilt_int] at h3
      cases h3
  · exact .inr h
theorem sp_are {ns : List Nat} {o : PyData} (h : o ∈ spoilt (natsD ns)) {lo m : Nat} (hm : m ≤ 9) : areBetween o (lo : Int) ((m : Int) - 1) = false := by
  rcases sp_nats h with ⟨ys, y, rfl, h1, h2, _⟩ | rfl | rfl
  · exact all_false h2 (odd_btw h1 hm)
  · rfl
  · exact all_false (List.mem_append_right _ (List.mem_singleton.mpr rfl)) rfl
theorem rule_parts {s t n bars eff : PyData} {m : Nat} (h : areBetween (.tuple [s, t, n]) 0 ((m : Int) - 1) = false ∨ areBetween bars 1 ((m : Int) - 1) = false ∨ areBetween eff 0 ((m : Int) - 1) = false) : isRule m (.tuple [s, t, n, bars, eff]) = false := by
  unfold isRule
  rcases h with h | h | h
  · simp only [h, Bool.false_and]
  · simp only [h, Bool.false_and, Bool.and_false]
  · simp only [h, Bool.false_and, Bool.and_false]
theorem sp_rule {r : Rl} {o : PyData} (h : o ∈ spoilt r.enc) {m : Nat} (hm : m ≤ 9) : isRule m o = false := by
  rcases mem_spoilt h with ⟨a, x, b, y, h1, rfl, h3⟩ | rfl | rfl
  · have ho : ∀ {lo : Nat}, y ∈ odds ∨ y ∈ spoilt (natsD r.bars) ∨ y ∈ spoilt (natsD r.eff) → areBetween y (lo : Int) ((m : Int) - 1) = false := fun {lo} h => by
      rcases h with h | h | h
      · exact odd_are h hm
      · exact sp_are h hm
      · exact sp_are h hm
    have hi : ∀ i : Int, x = .int i → isBetween y ((0 : Nat) : Int) ((m : Int) - 1) = false := fun i e => by
      subst e
      rcases h3 with h3 | h3
      · exact odd_btw h3 hm
      · rw [spoilt_int] at h3
        cases h3
    match a, b, h1 with
    | [], _, h1 =>
      injection h1 with h1 h2
      subst h2
      exact rule_parts (.inl (all_false (x := y) (by simp) (hi _ h1.symm)))
    | [_], _, h1 =>
      injection h1 with h0 h1
      injection h1 with h1 h2
      subst h2
      exact rule_parts (.inl (all_false (x := y) (by simp) (hi _ h1.symm)))
    | [_, _], _, h1 =>
      injection h1 with h0 h1
      injection h1 with h0 h1
      injection h1 with h1 h2
      subst h2
      exact rule_parts (.inl (all_false (x := y) (by simp) (hi _ h1.symm)))
    | [_, _, _], _, h1 =>
      injection h1 with h0 h1
      injection h1 with h0 h1
      injection h1 with h0 h1
      injection h1 with h1 h2
      subst h2
      subst h1
      exact rule_parts (.inr (.inl (ho (lo := 1) (h3.elim .inl fun h => .inr (.inl h)))))
    | [_, _, _, _], _, h1 =>
      injection h1 with h0 h1
      injection h1 with h0 h1
      injection h1 with h0 h1
      injection h1 with h0 h1
      injection h1 with h1 h2
      subst h2
      subst h1
      exact rule_parts (.inr (.inr (ho (lo := 0) (h3.elim .inl fun h => .inr (.inr h)))))
    | _ :: _ :: _ :: _ :: _ :: a, _, h1 =>
      have := congrArg List.length h1
      simp at this
  · rfl
  · rfl
theorem sp_rules {rs : List Rl} {o : PyData} (h : o ∈ spoilt (.tuple (rs.map Rl.enc))) {m : Nat} (hm : m ≤ 9) : isProtocol (.tuple [.int (m : Int), o]) = false := by
  have key : ∀ {ys : List PyData} {y : PyData}, y ∈ ys → isRule m y = false → isProtocol (.tuple [.int (m : Int), .tuple ys]) = false := fun {ys y} h1 h2 => by
    unfold isProtocol
    simp only [all_false (f := isRule m) h1 h2, Bool.and_false]
  rcases mem_spoilt h with ⟨a, x, b, y, h1, rfl, h3⟩ | rfl | rfl
  · refine key (y := y) (List.mem_append_right _ List.mem_cons_self) ?_
    have hx : x ∈ rs.map Rl.enc := by
      rw [h1]
      exact List.mem_append_right _ List.mem_cons_self
    obtain ⟨r, _, rfl⟩ := List.mem_map.mp hx
    rcases h3 with h3 | h3
    · exact odd_rule h3
    · exact sp_rule h3 hm
  · rfl
  · exact key (y := .none) (List.mem_append_right _ (List.mem_singleton.mpr rfl)) rfl
theorem sp_conf {ns : List Nat} {o : PyData} (h : o ∈ spoilt (natsD ns)) {m : Int} : (∃ ys, o = .tuple ys ∧ (ys.any fun z => PyData.eqv z (.int 9)) = true) ∨ isConf m o = false := by
  have key : ∀ {ys : List PyData} {y : PyData}, y ∈ ys → isCount y = false → isConf m (.tuple ys) = false := fun {ys y} h1 h2 => by
    have e : areCounts m (.tuple ys) = false := by
      show (decide ((ys.length : Int) = m) && ys.all isCount) = false
      rw [all_false h1 h2, Bool.and_false]
    unfold isConf
    rw [e, Bool.false_and]
  rcases sp_nats h with ⟨ys, y, rfl, h1, h2, _⟩ | rfl | rfl
  · simp only [odds, List.mem_cons, List.not_mem_nil, or_false] at h1
    rcases h1 with rfl | rfl | rfl | rfl | rfl | rfl
    · exact .inr (key h2 rfl)
    · exact .inr (key h2 rfl)
    · exact .inr (key h2 (by decide))
    · exact .inl ⟨ys, rfl, List.any_eq_true.mpr ⟨_, h2, by decide⟩⟩
    · exact .inr (key h2 rfl)
    · exact .inr (key h2 rfl)
  · exact .inr rfl
  · exact .inr (key (y := .none) (List.mem_append_right _ (List.mem_singleton.mpr rfl)) rfl)
/-! ### how many spoilt values there are -/
theorem spoiltL_count {c : Nat} : ∀ (xs pre : List PyData), (∀ x ∈ xs, (spoilt x).length ≤ c) → (spoiltL pre xs).length ≤ xs.length * (6 + c)
  | [], _, _ => by rw [spoiltL]; exact Nat.zero_le _
  | x :: r, pre, h => by
    have ih := spoiltL_count r (pre ++ [x]) fun y hy => h y (List.mem_cons_of_mem _ hy)
    have hx := h x List.mem_cons_self
    rw [spoiltL_cons, List.length_append, List.length_map, List.length_append, List.length_cons, Nat.succ_mul]
    show (6 + _) + _ ≤ _
    omega
theorem spoilt_count {c n : Nat} {xs : List PyData} (h : ∀ x ∈ xs, (spoilt x).length ≤ c) (hl : xs.length ≤ n) : (spoilt (.tuple xs)).length ≤ n * (6 + c) + 2 := by
  have h1 := spoiltL_count xs [] h
  have h2 := Nat.mul_le_mul_right (6 + c) hl
  rw [spoilt_tuple, List.length_append]
  show _ + 2 ≤ _
  omega
theorem count_nats {ns : List Nat} {n : Nat} (h : ns.length ≤ n) : (spoilt (natsD ns)).length ≤ n * 6 + 2 := by
  refine spoilt_count (c := 0) (fun x hx => ?_) (by rw [List.length_map]; exact h)
  obtain ⟨k, _, rfl⟩ := List.mem_map.mp hx
  rw [spoilt_int]
  exact Nat.le_refl _
end DL
/-! Ff: law k01: bounds, counts. -/
namespace DL
open PySem PySem.Spec PyProof.Rows L2
/-- a comprehension that keeps its own values by a test -/
theorem lcR_keep {g : DG} {tt : DB} {te : DT} {δ : Env} (p : PyData → Bool) (ds : List PyData) {Q : List PyData → Prop} (h : ∀ x ∈ ds, ∀ k : Option PyData → Prop, k (if p x = true then some x else none) → lcT g tt te δ x k) (q : Q (ds.filter p)) : lcR g tt te δ ds Q := by
  refine lcR_fm (fun x => if p x = true then some x else none) ds h ?_
  have e : ∀ l : List PyData, l.filterMap (fun x => if p x = true then some x else none) = l.filter p := fun l => by
    induction l with
    | nil => rfl
    | cons x xs ih =>
      rw [List.filterMap_cons, List.filter_cons, ih]
      cases p x <;> rfl
  rw [e]
  exact q
theorem lcR_keep0 {g : DG} {tt : DB} {te : DT} {δ : Env} (p : PyData → Bool) (ds : List PyData) {Q : List PyData → Prop} (h : ∀ x ∈ ds, ∀ k : Option PyData → Prop, k (if p x = true then some x else none) → lcT g tt te δ x k) (e : ds.filter p = []) (q : Q []) : lcR g tt te δ ds Q :=
  lcR_keep p ds h (by rw [e]; exact q)
theorem sh_nil : SeqAt.shaped (.list []) = true := rfl
theorem eqv_nil : PyData.eqv (.list []) (.list []) = true := rfl
def sp_law_bounds (c : Ct) : Spec := fun ss Q _ => match ss with
  | [] => Q (.d (.bool true))
  | _ => False
def t_law_bounds (c : Ct) : DS :=
  (sSeq (sSetF 0 (dC (.d (.tuple [(.int 0), (.int 1), (.int 0), (.tuple []), (.tuple [(.int 0), (.int 1)])]))))
  (sSeq (sSetF 1 (dLst (daCons (dC (.d (.tuple [(.int 2), (.tuple [])]))) (daCons (dC (.d (.tuple [(.int 5), (.tuple [])]))) (daCons (dTup (daCons (dC (.d (.int 2))) (daCons (dOp wMul (dTup (daCons (dVar 0) daNil)) (dC (.d (.int 8)))) daNil))) (daCons (dC (.d (.tuple [(.int 2), (.tuple [(.tuple [(.int 1), (.int 0), (.int 1), (.tuple []), (.tuple [(.int 0), (.int 0)])])])]))) (daCons (dC (.d (.tuple [(.int 3), (.tuple [(.tuple [(.int 0), (.int 0), (.int 1), (.tuple [(.int 2)]), (.tuple [(.int 0), (.int 0), (.int 0)])])])]))) daNil)))))))
  (sSeq (sSetF 2 (dLst (daCons (dC (.d (.tuple [(.int 1), (.tuple [])]))) (daCons (dC (.d (.tuple [(.int 6), (.tuple [])]))) (daCons (dTup (daCons (dC (.d (.int 2))) (daCons (dOp wMul (dTup (daCons (dVar 0) daNil)) (dC (.d (.int 9)))) daNil))) (daCons (dC (.d (.tuple [(.int 2), (.tuple [(.tuple [(.int 0), (.int 2), (.int 0), (.tuple []), (.tuple [(.int 0), (.int 1)])])])]))) (daCons (dC (.d (.tuple [(.int 2), (.tuple [(.tuple [(.int 0), (.int 1), (.int 0), (.tuple [(.int 0)]), (.tuple [(.int 0), (.int 1)])])])]))) (daCons (dC (.d .none)) daNil))))))))
  (sSeq (sSetF 2 (dOp wAdd (dVar 2) (dC (.own [(.tuple [(.int 2), (.tuple [(.tuple [(.int 0), (.int 1), (.int 1), (.tuple [(.int 1)]), (.tuple [(.int 0), (.int 1)])])])]), (.tuple [(.int 2), (.tuple [(.tuple [(.int 0), (.int 1), (.int 0), (.tuple []), (.tuple [(.int 1), (.int 1)])])])]), (.tuple [(.int 2), (.tuple [(.tuple [(.int 0), (.int 1), (.int 0), (.tuple []), (.tuple [(.int 0)])])])]), (.tuple [])]))))
  (sSeq (sSetF 2 (dOp wAdd (dVar 2) (dLst (daCons (dC (.d (.tuple [(.int 3), (.tuple [(.tuple [(.int 0), (.int 1), (.int 0), (.tuple [(.int 2), (.int 1)]), (.tuple [(.int 0), (.int 1), (.int 1)])])])]))) (daCons (dC (.d (.tuple [(.int 3), (.tuple [(.tuple [(.int 0), (.int 1), (.int 0), (.tuple [(.int 1), (.int 1)]), (.tuple [(.int 0), (.int 1), (.int 1)])])])]))) (daCons (dTup (daCons (dC (.d (.int 2))) (daCons (dLst (daCons (dVar 0) daNil)) daNil))) (daCons (dC (.d (.tuple [(.bool true), (.tuple [])]))) daNil)))))))
  (sSeq (sIf (bVal (dOp (wEqD fun b => !b) (dLc (iSeq (dVar 1)) (gN 3) (bNot (bTru (dCall (sp_law_is c) (daCons (dCall (sp_is_protocol c) (daCons (dVar 3) daNil)) (daCons (dC (.d (.bool true))) daNil))))) (dVar 3) [3]) (dLst daNil))) (sRet (dC (.d (.bool false)))) sNext)
  (sRet (dOp (wEqD fun b => b) (dLc (iSeq (dVar 2)) (gN 3) (bNot (bTru (dCall (sp_law_is c) (daCons (dCall (sp_is_protocol c) (daCons (dVar 3) daNil)) (daCons (dC (.d (.bool false))) daNil))))) (dVar 3) [3]) (dLst daNil)))))))))
theorem rd_law_bounds (c : Ct) (ss : List SV) (Q : SV → Prop) (Ex : XP) (h : sp_law_bounds c ss Q Ex) : t_law_bounds c { nx := fun _ => Q (.d .none), rt := Q } (startD 4 ss) Ex := by
  unfold sp_law_bounds at h
  split at h
  · show t_law_bounds c _ [none, none, none, none] Ex
    unfold t_law_bounds
    refine seqK fun K hK => ?_
    simp only [sSeq, sNext, sExpr, sRet, sIf, sSet, sSetF, sAsg, sPar, sRaise, sFor, sApp, sExt, sPop, sItem, sAugI, sAug, sFrz, sMove, sBreak, sCont, gN, gT, gsNil, gsCons, dVar, vS_d, vS_own, vS_town, vS_v, vS_scr, fz_scr, dC, dOp, dCall, dCallK, daNil, daCons, dTup, dLst, dSl, doNone, doSome, dIf, dAnd, dOr, dNot, dNeg, dOne, dTwoI, dChain, dLc, bVal, bTru, bScr, dLenS, dIxS, dCount, dRest, sCount, sRest, bNot, bAnd, bOr, bYes, wInt2, wIntC, wAdd, wMul, wIx, wIn, wEqD, wIsN, oLen, oTuple, oList, oAll, oSum, oIsi, iSeq, iRng1D, iRng2D, iEnumD, iZipD, fz_d, fz_own, fz_town, fz_v, fz_abs, asDs, fzB, wipeD, asD_d, asD_own, asD_bor, asL_list, asL_tuple, asL_own, asL_bor, asL_int, asL_bool, asL_none, asS_list, asS_tuple, asS_own, asS_bor, tru_bool, tru_int, tru_none, tru_tuple, tru_list, tru_own, tru_bor, stO_d, stO_own, stO_town, stO_v, stO_abs, rtS_d, rtS_own, rtS_bor, rtS_v, rtS_abs, isN_none, isN_tuple, isN_int, isN_list, isN_bool, List.map_cons, List.map_nil, List.length_cons, List.length_nil, List.cons_append, List.nil_append, List.getElem?_cons_zero, List.getElem?_cons_succ, List.set_cons_zero, List.set_cons_succ, Option.map_some, Option.map_none, Option.some.injEq, SV.d.injEq, SV.own.injEq, PyData.int.injEq, PyData.bool.injEq, PyData.tuple.injEq, PyData.list.injEq, PyData.str.injEq, List.cons.injEq, exists_eq_left, exists_eq_left', exists_eq_right, exists_and_left, exists_and_right, exists_const, and_true, true_and, if_true, if_false, reduceCtorEq, false_or, or_false, false_and, and_false, Bool.not_true, Bool.not_false, Bool.false_eq_true, ite_true, ite_false, reduceIte, Bool.true_eq_false, Nat.reduceAdd, nc0, nc1, nc2, nc3, nc4, nc5, nc6, nc7, nc8, Int.reduceBEq, beq_self_eq_true, Bool.and_true, Bool.true_and, Bool.and_false, Bool.false_and, Nat.zero_add]
    refine hK _ ?_
    clear hK K
    refine seqK fun K hK => ?_
    simp only [sSeq, sNext, sExpr, sRet, sIf, sSet, sSetF, sAsg, sPar, sRaise, sFor, sApp, sExt, sPop, sItem, sAugI, sAug, sFrz, sMove, sBreak, sCont, gN, gT, gsNil, gsCons, dVar, vS_d, vS_own, vS_town, vS_v, vS_scr, fz_scr, dC, dOp, dCall, dCallK, daNil, daCons, dTup, dLst, dSl, doNone, doSome, dIf, dAnd, dOr, dNot, dNeg, dOne, dTwoI, dChain, dLc, bVal, bTru, bScr, dLenS, dIxS, dCount, dRest, sCount, sRest, bNot, bAnd, bOr, bYes, wInt2, wIntC, wAdd, wMul, wIx, wIn, wEqD, wIsN, oLen, oTuple, oList, oAll, oSum, oIsi, iSeq, iRng1D, iRng2D, iEnumD, iZipD, fz_d, fz_own, fz_town, fz_v, fz_abs, asDs, fzB, wipeD, asD_d, asD_own, asD_bor, asL_list, asL_tuple, asL_own, asL_bor, asL_int, asL_bool, asL_none, asS_list, asS_tuple, asS_own, asS_bor, tru_bool, tru_int, tru_none, tru_tuple, tru_list, tru_own, tru_bor, stO_d, stO_own, stO_town, stO_v, stO_abs, rtS_d, rtS_own, rtS_bor, rtS_v, rtS_abs, isN_none, isN_tuple, isN_int, isN_list, isN_bool, List.map_cons, List.map_nil, List.length_cons, List.length_nil, List.cons_append, List.nil_append, List.getElem?_cons_zero, List.getElem?_cons_succ, List.set_cons_zero, List.set_cons_succ, Option.map_some, Option.map_none, Option.some.injEq, SV.d.injEq, SV.own.injEq, PyData.int.injEq, PyData.bool.injEq, PyData.tuple.injEq, PyData.list.injEq, PyData.str.injEq, List.cons.injEq, exists_eq_left, exists_eq_left', exists_eq_right, exists_and_left, exists_and_right, exists_const, and_true, true_and, if_true, if_false, reduceCtorEq, false_or, or_false, false_and, and_false, Bool.not_true, Bool.not_false, Bool.false_eq_true, ite_true, ite_false, reduceIte, Bool.true_eq_false, Nat.reduceAdd, nc0, nc1, nc2, nc3, nc4, nc5, nc6, nc7, nc8, Int.reduceBEq, beq_self_eq_true, Bool.and_true, Bool.true_and, Bool.and_false, Bool.false_and, Nat.zero_add]
    repeat (refine ⟨by first | decide | simp, ?_⟩)
    refine hK _ ?_
    clear hK K
    refine seqK fun K hK => ?_
    simp only [sSeq, sNext, sExpr, sRet, sIf, sSet, sSetF, sAsg, sPar, sRaise, sFor, sApp, sExt, sPop, sItem, sAugI, sAug, sFrz, sMove, sBreak, sCont, gN, gT, gsNil, gsCons, dVar, vS_d, vS_own, vS_town, vS_v, vS_scr, fz_scr, dC, dOp, dCall, dCallK, daNil, daCons, dTup, dLst, dSl, doNone, doSome, dIf, dAnd, dOr, dNot, dNeg, dOne, dTwoI, dChain, dLc, bVal, bTru, bScr, dLenS, dIxS, dCount, dRest, sCount, sRest, bNot, bAnd, bOr, bYes, wInt2, wIntC, wAdd, wMul, wIx, wIn, wEqD, wIsN, oLen, oTuple, oList, oAll, oSum, oIsi, iSeq, iRng1D, iRng2D, iEnumD, iZipD, fz_d, fz_own, fz_town, fz_v, fz_abs, asDs, fzB, wipeD, asD_d, asD_own, asD_bor, asL_list, asL_tuple, asL_own, asL_bor, asL_int, asL_bool, asL_none, asS_list, asS_tuple, asS_own, asS_bor, tru_bool, tru_int, tru_none, tru_tuple, tru_list, tru_own, tru_bor, stO_d, stO_own, stO_town, stO_v, stO_abs, rtS_d, rtS_own, rtS_bor, rtS_v, rtS_abs, isN_none, isN_tuple, isN_int, isN_list, isN_bool, List.map_cons, List.map_nil, List.length_cons, List.length_nil, List.cons_append, List.nil_append, List.getElem?_cons_zero, List.getElem?_cons_succ, List.set_cons_zero, List.set_cons_succ, Option.map_some, Option.map_none, Option.some.injEq, SV.d.injEq, SV.own.injEq, PyData.int.injEq, PyData.bool.injEq, PyData.tuple.injEq, PyData.list.injEq, PyData.str.injEq, List.cons.injEq, exists_eq_left, exists_eq_left', exists_eq_right, exists_and_left, exists_and_right, exists_const, and_true, true_and, if_true, if_false, reduceCtorEq, false_or, or_false, false_and, and_false, Bool.not_true, Bool.not_false, Bool.false_eq_true, ite_true, ite_false, reduceIte, Bool.true_eq_false, Nat.reduceAdd, nc0, nc1, nc2, nc3, nc4, nc5, nc6, nc7, nc8, Int.reduceBEq, beq_self_eq_true, Bool.and_true, Bool.true_and, Bool.and_false, Bool.false_and, Nat.zero_add]
    repeat (refine ⟨by first | decide | simp, ?_⟩)
    refine hK _ ?_
    clear hK K
    refine seqK fun K hK => ?_
    simp only [sSeq, sNext, sExpr, sRet, sIf, sSet, sSetF, sAsg, sPar, sRaise, sFor, sApp, sExt, sPop, sItem, sAugI, sAug, sFrz, sMove, sBreak, sCont, gN, gT, gsNil, gsCons, dVar, vS_d, vS_own, vS_town, vS_v, vS_scr, fz_scr, dC, dOp, dCall, dCallK, daNil, daCons, dTup, dLst, dSl, doNone, doSome, dIf, dAnd, dOr, dNot, dNeg, dOne, dTwoI, dChain, dLc, bVal, bTru, bScr, dLenS, dIxS, dCount, dRest, sCount, sRest, bNot, bAnd, bOr, bYes, wInt2, wIntC, wAdd, wMul, wIx, wIn, wEqD, wIsN, oLen, oTuple, oList, oAll, oSum, oIsi, iSeq, iRng1D, iRng2D, iEnumD, iZipD, fz_d, fz_own, fz_town, fz_v, fz_abs, asDs, fzB, wipeD, asD_d, asD_own, asD_bor, asL_list, asL_tuple, asL_own, asL_bor, asL_int, asL_bool, asL_none, asS_list, asS_tuple, asS_own, asS_bor, tru_bool, tru_int, tru_none, tru_tuple, tru_list, tru_own, tru_bor, stO_d, stO_own, stO_town, stO_v, stO_abs, rtS_d, rtS_own, rtS_bor, rtS_v, rtS_abs, isN_none, isN_tuple, isN_int, isN_list, isN_bool, List.map_cons, List.map_nil, List.length_cons, List.length_nil, List.cons_append, List.nil_append, List.getElem?_cons_zero, List.getElem?_cons_succ, List.set_cons_zero, List.set_cons_succ, Option.map_some, Option.map_none, Option.some.injEq, SV.d.injEq, SV.own.injEq, PyData.int.injEq, PyData.bool.injEq, PyData.tuple.injEq, PyData.list.injEq, PyData.str.injEq, List.cons.injEq, exists_eq_left, exists_eq_left', exists_eq_right, exists_and_left, exists_and_right, exists_const, and_true, true_and, if_true, if_false, reduceCtorEq, false_or, or_false, false_and, and_false, Bool.not_true, Bool.not_false, Bool.false_eq_true, ite_true, ite_false, reduceIte, Bool.true_eq_false, Nat.reduceAdd, nc0, nc1, nc2, nc3, nc4, nc5, nc6, nc7, nc8, Int.reduceBEq, beq_self_eq_true, Bool.and_true, Bool.true_and, Bool.and_false, Bool.false_and, Nat.zero_add]
    repeat (refine ⟨by first | decide | simp, ?_⟩)
    refine hK _ ?_
    clear hK K
    refine seqK fun K hK => ?_
    simp only [sSeq, sNext, sExpr, sRet, sIf, sSet, sSetF, sAsg, sPar, sRaise, sFor, sApp, sExt, sPop, sItem, sAugI, sAug, sFrz, sMove, sBreak, sCont, gN, gT, gsNil, gsCons, dVar, vS_d, vS_own, vS_town, vS_v, vS_scr, fz_scr, dC, dOp, dCall, dCallK, daNil, daCons, dTup, dLst, dSl, doNone, doSome, dIf, dAnd, dOr, dNot, dNeg, dOne, dTwoI, dChain, dLc, bVal, bTru, bScr, dLenS, dIxS, dCount, dRest, sCount, sRest, bNot, bAnd, bOr, bYes, wInt2, wIntC, wAdd, wMul, wIx, wIn, wEqD, wIsN, oLen, oTuple, oList, oAll, oSum, oIsi, iSeq, iRng1D, iRng2D, iEnumD, iZipD, fz_d, fz_own, fz_town, fz_v, fz_abs, asDs, fzB, wipeD, asD_d, asD_own, asD_bor, asL_list, asL_tuple, asL_own, asL_bor, asL_int, asL_bool, asL_none, asS_list, asS_tuple, asS_own, asS_bor, tru_bool, tru_int, tru_none, tru_tuple, tru_list, tru_own, tru_bor, stO_d, stO_own, stO_town, stO_v, stO_abs, rtS_d, rtS_own, rtS_bor, rtS_v, rtS_abs, isN_none, isN_tuple, isN_int, isN_list, isN_bool, List.map_cons, List.map_nil, List.length_cons, List.length_nil, List.cons_append, List.nil_append, List.getElem?_cons_zero, List.getElem?_cons_succ, List.set_cons_zero, List.set_cons_succ, Option.map_some, Option.map_none, Option.some.injEq, SV.d.injEq, SV.own.injEq, PyData.int.injEq, PyData.bool.injEq, PyData.tuple.injEq, PyData.list.injEq, PyData.str.injEq, List.cons.injEq, exists_eq_left, exists_eq_left', exists_eq_right, exists_and_left, exists_and_right, exists_const, and_true, true_and, if_true, if_false, reduceCtorEq, false_or, or_false, false_and, and_false, Bool.not_true, Bool.not_false, Bool.false_eq_true, ite_true, ite_false, reduceIte, Bool.true_eq_false, Nat.reduceAdd, nc0, nc1, nc2, nc3, nc4, nc5, nc6, nc7, nc8, Int.reduceBEq, beq_self_eq_true, Bool.and_true, Bool.true_and, Bool.and_false, Bool.false_and, Nat.zero_add]
    repeat (refine ⟨by first | decide | simp, ?_⟩)
    refine hK _ ?_
    clear hK K
    refine seqK fun K hK => ?_
    simp only [sSeq, sNext, sExpr, sRet, sIf, sSet, sSetF, sAsg, sPar, sRaise, sFor, sApp, sExt, sPop, sItem, sAugI, sAug, sFrz, sMove, sBreak, sCont, gN, gT, gsNil, gsCons, dVar, vS_d, vS_own, vS_town, vS_v, vS_scr, fz_scr, dC, dOp, dCall, dCallK, daNil, daCons, dTup, dLst, dSl, doNone, doSome, dIf, dAnd, dOr, dNot, dNeg, dOne, dTwoI, dChain, dLc, bVal, bTru, bScr, dLenS, dIxS, dCount, dRest, sCount, sRest, bNot, bAnd, bOr, bYes, wInt2, wIntC, wAdd, wMul, wIx, wIn, wEqD, wIsN, oLen, oTuple, oList, oAll, oSum, oIsi, iSeq, iRng1D, iRng2D, iEnumD, iZipD, fz_d, fz_own, fz_town, fz_v, fz_abs, asDs, fzB, wipeD, asD_d, asD_own, asD_bor, asL_list, asL_tuple, asL_own, asL_bor, asL_int, asL_bool, asL_none, asS_list, asS_tuple, asS_own, asS_bor, tru_bool, tru_int, tru_none, tru_tuple, tru_list, tru_own, tru_bor, stO_d, stO_own, stO_town, stO_v, stO_abs, rtS_d, rtS_own, rtS_bor, rtS_v, rtS_abs, isN_none, isN_tuple, isN_int, isN_list, isN_bool, List.map_cons, List.map_nil, List.length_cons, List.length_nil, List.cons_append, List.nil_append, List.getElem?_cons_zero, List.getElem?_cons_succ, List.set_cons_zero, List.set_cons_succ, Option.map_some, Option.map_none, Option.some.injEq, SV.d.injEq, SV.own.injEq, PyData.int.injEq, PyData.bool.injEq, PyData.tuple.injEq, PyData.list.injEq, PyData.str.injEq, List.cons.injEq, exists_eq_left, exists_eq_left', exists_eq_right, exists_and_left, exists_and_right, exists_const, and_true, true_and, if_true, if_false, reduceCtorEq, false_or, or_false, false_and, and_false, Bool.not_true, Bool.not_false, Bool.false_eq_true, ite_true, ite_false, reduceIte, Bool.true_eq_false, Nat.reduceAdd, nc0, nc1, nc2, nc3, nc4, nc5, nc6, nc7, nc8, Int.reduceBEq, beq_self_eq_true, Bool.and_true, Bool.true_and, Bool.and_false, Bool.false_and, Nat.zero_add]
    refine lcR_keep0 (fun x => !isProtocol x) _ (fun x _ k hk => ?_) (by decide +kernel) ?_
    · simp only [lcT, sSeq, sNext, sExpr, sRet, sIf, sSet, sSetF, sAsg, sPar, sRaise, sFor, sApp, sExt, sPop, sItem, sAugI, sAug, sFrz, sMove, sBreak, sCont, gN, gT, gsNil, gsCons, dVar, vS_d, vS_own, vS_town, vS_v, vS_scr, fz_scr, dC, dOp, dCall, dCallK, daNil, daCons, dTup, dLst, dSl, doNone, doSome, dIf, dAnd, dOr, dNot, dNeg, dOne, dTwoI, dChain, dLc, bVal, bTru, bScr, dLenS, dIxS, dCount, dRest, sCount, sRest, bNot, bAnd, bOr, bYes, wInt2, wIntC, wAdd, wMul, wIx, wIn, wEqD, wIsN, oLen, oTuple, oList, oAll, oSum, oIsi, iSeq, iRng1D, iRng2D, iEnumD, iZipD, fz_d, fz_own, fz_town, fz_v, fz_abs, asDs, fzB, wipeD, asD_d, asD_own, asD_bor, asL_list, asL_tuple, asL_own, asL_bor, asL_int, asL_bool, asL_none, asS_list, asS_tuple, asS_own, asS_bor, tru_bool, tru_int, tru_none, tru_tuple, tru_list, tru_own, tru_bor, stO_d, stO_own, stO_town, stO_v, stO_abs, rtS_d, rtS_own, rtS_bor, rtS_v, rtS_abs, isN_none, isN_tuple, isN_int, isN_list, isN_bool, List.map_cons, List.map_nil, List.length_cons, List.length_nil, List.cons_append, List.nil_append, List.getElem?_cons_zero, List.getElem?_cons_succ, List.set_cons_zero, List.set_cons_succ, Option.map_some, Option.map_none, Option.some.injEq, SV.d.injEq, SV.own.injEq, PyData.int.injEq, PyData.bool.injEq, PyData.tuple.injEq, PyData.list.injEq, PyData.str.injEq, List.cons.injEq, exists_eq_left, exists_eq_left', exists_eq_right, exists_and_left, exists_and_right, exists_const, and_true, true_and, if_true, if_false, reduceCtorEq, false_or, or_false, false_and, and_false, Bool.not_true, Bool.not_false, Bool.false_eq_true, ite_true, ite_false, reduceIte, Bool.true_eq_false, Nat.reduceAdd, nc0, nc1, nc2, nc3, nc4, nc5, nc6, nc7, nc8, Int.reduceBEq, beq_self_eq_true, Bool.and_true, Bool.true_and, Bool.and_false, Bool.false_and, Nat.zero_add, at_is_protocol, at_law_is]
      cases e : isProtocol x with
      | false =>
        rw [e] at hk
        exact hk
      | true =>
        rw [e] at hk
        exact hk
    simp only [sSeq, sNext, sExpr, sRet, sIf, sSet, sSetF, sAsg, sPar, sRaise, sFor, sApp, sExt, sPop, sItem, sAugI, sAug, sFrz, sMove, sBreak, sCont, gN, gT, gsNil, gsCons, dVar, vS_d, vS_own, vS_town, vS_v, vS_scr, fz_scr, dC, dOp, dCall, dCallK, daNil, daCons, dTup, dLst, dSl, doNone, doSome, dIf, dAnd, dOr, dNot, dNeg, dOne, dTwoI, dChain, dLc, bVal, bTru, bScr, dLenS, dIxS, dCount, dRest, sCount, sRest, bNot, bAnd, bOr, bYes, wInt2, wIntC, wAdd, wMul, wIx, wIn, wEqD, wIsN, oLen, oTuple, oList, oAll, oSum, oIsi, iSeq, iRng1D, iRng2D, iEnumD, iZipD, fz_d, fz_own, fz_town, fz_v, fz_abs, asDs, fzB, wipeD, asD_d, asD_own, asD_bor, asL_list, asL_tuple, asL_own, asL_bor, asL_int, asL_bool, asL_none, asS_list, asS_tuple, asS_own, asS_bor, tru_bool, tru_int, tru_none, tru_tuple, tru_list, tru_own, tru_bor, stO_d, stO_own, stO_town, stO_v, stO_abs, rtS_d, rtS_own, rtS_bor, rtS_v, rtS_abs, isN_none, isN_tuple, isN_int, isN_list, isN_bool, List.map_cons, List.map_nil, List.length_cons, List.length_nil, List.cons_append, List.nil_append, List.getElem?_cons_zero, List.getElem?_cons_succ, List.set_cons_zero, List.set_cons_succ, Option.map_some, Option.map_none, Option.some.injEq, SV.d.injEq, SV.own.injEq, PyData.int.injEq, PyData.bool.injEq, PyData.tuple.injEq, PyData.list.injEq, PyData.str.injEq, List.cons.injEq, exists_eq_left, exists_eq_left', exists_eq_right, exists_and_left, exists_and_right, exists_const, and_true, true_and, if_true, if_false, reduceCtorEq, false_or, or_false, false_and, and_false, Bool.not_true, Bool.not_false, Bool.false_eq_true, ite_true, ite_false, reduceIte, Bool.true_eq_false, Nat.reduceAdd, nc0, nc1, nc2, nc3, nc4, nc5, nc6, nc7, nc8, Int.reduceBEq, beq_self_eq_true, Bool.and_true, Bool.true_and, Bool.and_false, Bool.false_and, Nat.zero_add, sh_nil, eqv_nil]
    refine ⟨by decide, hK _ ?_⟩
    clear hK K
    simp only [sSeq, sNext, sExpr, sRet, sIf, sSet, sSetF, sAsg, sPar, sRaise, sFor, sApp, sExt, sPop, sItem, sAugI, sAug, sFrz, sMove, sBreak, sCont, gN, gT, gsNil, gsCons, dVar, vS_d, vS_own, vS_town, vS_v, vS_scr, fz_scr, dC, dOp, dCall, dCallK, daNil, daCons, dTup, dLst, dSl, doNone, doSome, dIf, dAnd, dOr, dNot, dNeg, dOne, dTwoI, dChain, dLc, bVal, bTru, bScr, dLenS, dIxS, dCount, dRest, sCount, sRest, bNot, bAnd, bOr, bYes, wInt2, wIntC, wAdd, wMul, wIx, wIn, wEqD, wIsN, oLen, oTuple, oList, oAll, oSum, oIsi, iSeq, iRng1D, iRng2D, iEnumD, iZipD, fz_d, fz_own, fz_town, fz_v, fz_abs, asDs, fzB, wipeD, asD_d, asD_own, asD_bor, asL_list, asL_tuple, asL_own, asL_bor, asL_int, asL_bool, asL_none, asS_list, asS_tuple, asS_own, asS_bor, tru_bool, tru_int, tru_none, tru_tuple, tru_list, tru_own, tru_bor, stO_d, stO_own, stO_town, stO_v, stO_abs, rtS_d, rtS_own, rtS_bor, rtS_v, rtS_abs, isN_none, isN_tuple, isN_int, isN_list, isN_bool, List.map_cons, List.map_nil, List.length_cons, List.length_nil, List.cons_append, List.nil_append, List.getElem?_cons_zero, List.getElem?_cons_succ, List.set_cons_zero, List.set_cons_succ, Option.map_some, Option.map_none, Option.some.injEq, SV.d.injEq, SV.own.injEq, PyData.int.injEq, PyData.bool.injEq, PyData.tuple.injEq, PyData.list.injEq, PyData.str.injEq, List.cons.injEq, exists_eq_left, exists_eq_left', exists_eq_right, exists_and_left, exists_and_right, exists_const, and_true, true_and, if_true, if_false, reduceCtorEq, false_or, or_false, false_and, and_false, Bool.not_true, Bool.not_false, Bool.false_eq_true, ite_true, ite_false, reduceIte, Bool.true_eq_false, Nat.reduceAdd, nc0, nc1, nc2, nc3, nc4, nc5, nc6, nc7, nc8, Int.reduceBEq, beq_self_eq_true, Bool.and_true, Bool.true_and, Bool.and_false, Bool.false_and, Nat.zero_add]
    refine lcR_keep0 (fun x => isProtocol x) _ (fun x _ k hk => ?_) (by decide +kernel) ?_
    · simp only [lcT, sSeq, sNext, sExpr, sRet, sIf, sSet, sSetF, sAsg, sPar, sRaise, sFor, sApp, sExt, sPop, sItem, sAugI, sAug, sFrz, sMove, sBreak, sCont, gN, gT, gsNil, gsCons, dVar, vS_d, vS_own, vS_town, vS_v, vS_scr, fz_scr, dC, dOp, dCall, dCallK, daNil, daCons, dTup, dLst, dSl, doNone, doSome, dIf, dAnd, dOr, dNot, dNeg, dOne, dTwoI, dChain, dLc, bVal, bTru, bScr, dLenS, dIxS, dCount, dRest, sCount, sRest, bNot, bAnd, bOr, bYes, wInt2, wIntC, wAdd, wMul, wIx, wIn, wEqD, wIsN, oLen, oTuple, oList, oAll, oSum, oIsi, iSeq, iRng1D, iRng2D, iEnumD, iZipD, fz_d, fz_own, fz_town, fz_v, fz_abs, asDs, fzB, wipeD, asD_d, asD_own, asD_bor, asL_list, asL_tuple, asL_own, asL_bor, asL_int, asL_bool, asL_none, asS_list, asS_tuple, asS_own, asS_bor, tru_bool, tru_int, tru_none, tru_tuple, tru_list, tru_own, tru_bor, stO_d, stO_own, stO_town, stO_v, stO_abs, rtS_d, rtS_own, rtS_bor, rtS_v, rtS_abs, isN_none, isN_tuple, isN_int, isN_list, isN_bool, List.map_cons, List.map_nil, List.length_cons, List.length_nil, List.cons_append, List.nil_append, List.getElem?_cons_zero, List.getElem?_cons_succ, List.set_cons_zero, List.set_cons_succ, Option.map_some, Option.map_none, Option.some.injEq, SV.d.injEq, SV.own.injEq, PyData.int.injEq, PyData.bool.injEq, PyData.tuple.injEq, PyData.list.injEq, PyData.str.injEq, List.cons.injEq, exists_eq_left, exists_eq_left', exists_eq_right, exists_and_left, exists_and_right, exists_const, and_true, true_and, if_true, if_false, reduceCtorEq, false_or, or_false, false_and, and_false, Bool.not_true, Bool.not_false, Bool.false_eq_true, ite_true, ite_false, reduceIte, Bool.true_eq_false, Nat.reduceAdd, nc0, nc1, nc2, nc3, nc4, nc5, nc6, nc7, nc8, Int.reduceBEq, beq_self_eq_true, Bool.and_true, Bool.true_and, Bool.and_false, Bool.false_and, Nat.zero_add, at_is_protocol, at_law_is]
      cases e : isProtocol x with
      | false =>
        rw [e] at hk
        exact hk
      | true =>
        rw [e] at hk
        exact hk
    simp only [sSeq, sNext, sExpr, sRet, sIf, sSet, sSetF, sAsg, sPar, sRaise, sFor, sApp, sExt, sPop, sItem, sAugI, sAug, sFrz, sMove, sBreak, sCont, gN, gT, gsNil, gsCons, dVar, vS_d, vS_own, vS_town, vS_v, vS_scr, fz_scr, dC, dOp, dCall, dCallK, daNil, daCons, dTup, dLst, dSl, doNone, doSome, dIf, dAnd, dOr, dNot, dNeg, dOne, dTwoI, dChain, dLc, bVal, bTru, bScr, dLenS, dIxS, dCount, dRest, sCount, sRest, bNot, bAnd, bOr, bYes, wInt2, wIntC, wAdd, wMul, wIx, wIn, wEqD, wIsN, oLen, oTuple, oList, oAll, oSum, oIsi, iSeq, iRng1D, iRng2D, iEnumD, iZipD, fz_d, fz_own, fz_town, fz_v, fz_abs, asDs, fzB, wipeD, asD_d, asD_own, asD_bor, asL_list, asL_tuple, asL_own, asL_bor, asL_int, asL_bool, asL_none, asS_list, asS_tuple, asS_own, asS_bor, tru_bool, tru_int, tru_none, tru_tuple, tru_list, tru_own, tru_bor, stO_d, stO_own, stO_town, stO_v, stO_abs, rtS_d, rtS_own, rtS_bor, rtS_v, rtS_abs, isN_none, isN_tuple, isN_int, isN_list, isN_bool, List.map_cons, List.map_nil, List.length_cons, List.length_nil, List.cons_append, List.nil_append, List.getElem?_cons_zero, List.getElem?_cons_succ, List.set_cons_zero, List.set_cons_succ, Option.map_some, Option.map_none, Option.some.injEq, SV.d.injEq, SV.own.injEq, PyData.int.injEq, PyData.bool.injEq, PyData.tuple.injEq, PyData.list.injEq, PyData.str.injEq, List.cons.injEq, exists_eq_left, exists_eq_left', exists_eq_right, exists_and_left, exists_and_right, exists_const, and_true, true_and, if_true, if_false, reduceCtorEq, false_or, or_false, false_and, and_false, Bool.not_true, Bool.not_false, Bool.false_eq_true, ite_true, ite_false, reduceIte, Bool.true_eq_false, Nat.reduceAdd, nc0, nc1, nc2, nc3, nc4, nc5, nc6, nc7, nc8, Int.reduceBEq, beq_self_eq_true, Bool.and_true, Bool.true_and, Bool.and_false, Bool.false_and, Nat.zero_add, sh_nil, eqv_nil]
    exact ⟨by decide, h⟩
  · exact h.elim
def sp_law_counts (c : Ct) : Spec := fun ss Q _ => ∃ (p : Pr) (ns : List Nat), ss = [.d p.enc, .d (natsD ns)] ∧ p.Ok ∧ ns.length = p.m ∧ 1 ≤ ns.sum ∧ ns.sum ≤ 8 ∧ Q (.d (.bool true))
def t_law_counts (c : Ct) : DS :=
  (sSeq (sSetF 2 (dOp wIx (dVar 0) (dC (.d (.int 0)))))
  (sSeq (sPar 3 4 (dOp wAdd (dC (.d (.tuple [(.int 8)]))) (dOp wMul (dC (.d (.tuple [(.int 0)]))) (dOp (wInt2 fun i j => .int (i - j)) (dVar 2) (dC (.d (.int 1)))))) (dOp wAdd (dC (.d (.tuple [(.int 0), (.int 9)]))) (dOp wMul (dC (.d (.tuple [(.int 0)]))) (dOp (wInt2 fun i j => .int (i - j)) (dVar 2) (dC (.d (.int 2)))))))
  (sSeq (sSet 5 (dLst (daCons (dCall (sp_is_configuration c) (daCons (dVar 0) (daCons (dVar 3) daNil))) (daCons (dCall (sp_is_configuration c) (daCons (dVar 0) (daCons (dVar 4) daNil))) daNil))))
  (sSeq (sApp 5 (dCall (sp_is_configuration c) (daCons (dVar 0) (daCons (dOp wMul (dC (.d (.tuple [(.int 0)]))) (dVar 2)) daNil))))
  (sSeq (sApp 5 (dCall (sp_is_configuration c) (daCons (dVar 0) (daCons (dOp wMul (dC (.d (.tuple [(.int 1)]))) (dOp wAdd (dVar 2) (dC (.d (.int 1))))) daNil))))
  (sSeq (sApp 5 (dCall (sp_is_pattern c) (daCons (dVar 0) (daCons (dOp wAdd (dC (.d (.tuple [(.int 0), (.int 4)]))) (dOp wMul (dC (.d (.tuple [(.int 0)]))) (dOp (wInt2 fun i j => .int (i - j)) (dVar 2) (dC (.d (.int 2)))))) daNil))))
  (sSeq (sApp 5 (dCall (sp_is_pattern c) (daCons (dVar 0) (daCons (dOp wAdd (dC (.d (.tuple [(.int 0), (.int 5)]))) (dOp wMul (dC (.d (.tuple [(.int 0)]))) (dOp (wInt2 fun i j => .int (i - j)) (dVar 2) (dC (.d (.int 2)))))) daNil))))
  (sSeq (sApp 5 (dCall (sp_is_pattern c) (daCons (dVar 0) (daCons (dOp wMul (dC (.d (.tuple [(.int 0)]))) (dVar 2)) daNil))))
  (sSeq (sApp 5 (dCall (sp_is_pattern c) (daCons (dVar 0) (daCons (dOp wAdd (dC (.d (.tuple [(.int 1), (.int 1)]))) (dOp wMul (dC (.d (.tuple [(.int 0)]))) (dOp (wInt2 fun i j => .int (i - j)) (dVar 2) (dC (.d (.int 2)))))) daNil))))
  (sSeq (sSet 5 (dOp wAdd (dVar 5) (dLst (daCons (dCall (sp_is_log c) (daCons (dVar 0) (daCons (dOp wMul (dTup (daCons (dVar 1) daNil)) (dC (.d (.int 6)))) daNil))) (daCons (dCall (sp_is_log c) (daCons (dVar 0) (daCons (dOp wMul (dTup (daCons (dVar 1) daNil)) (dC (.d (.int 7)))) daNil))) (daCons (dCall (sp_is_log c) (daCons (dVar 0) (daCons (dTup daNil) daNil))) daNil))))))
  (sSeq (sApp 5 (dCall (sp_is_log c) (daCons (dVar 0) (daCons (dTup (daCons (dVar 3) (daCons (dOp wAdd (dC (.d (.tuple [(.int 7), (.int 0)]))) (dOp wMul (dC (.d (.tuple [(.int 0)]))) (dOp (wInt2 fun i j => .int (i - j)) (dVar 2) (dC (.d (.int 2)))))) daNil))) daNil))))
  (sRet (dOp (wEqD fun b => b) (dVar 5) (dC (.own [(.bool true), (.bool false), (.bool false), (.bool false), (.bool true), (.bool false), (.bool false), (.bool false), (.bool true), (.bool false), (.bool false), (.bool false)])))))))))))))))
theorem rd_law_counts (c : Ct) (ss : List SV) (Q : SV → Prop) (Ex : XP) (h : sp_law_counts c ss Q Ex) : t_law_counts c { nx := fun _ => Q (.d .none), rt := Q } (startD 6 ss) Ex := by
  obtain ⟨⟨m, rs⟩, ns, rfl, hp, hl, h1, h2, q⟩ := h
  have hP : isProtocol (.tuple [.int (m : Int), .tuple (rs.map Rl.enc)]) = true := (isP_enc ⟨m, rs⟩).mpr hp
  have hm1 := hp.lo
  have hm2 := hp.hi
  show t_law_counts c _ [some (.d (.tuple [.int (m : Int), .tuple (rs.map Rl.enc)])), some (.d (natsD ns)), none, none, none, none] Ex
  unfold t_law_counts
  simp only at hm1 hm2 hl
  have hc : isConf m (natsD ns) = true := (isConf_nats ns).mpr ⟨hl, h1, h2⟩
  have r1 : List.replicate ((m : Int) - 1).toNat (PyData.int 0) = (List.replicate (m - 1) 0).map (fun n : Nat => PyData.int (n : Int)) := by
    rw [List.map_replicate, show ((m : Int) - 1).toNat = m - 1 by omega]
    rfl
  have r2 : List.replicate ((m : Int) - 2).toNat (PyData.int 0) = (List.replicate (m - 2) 0).map (fun n : Nat => PyData.int (n : Int)) := by
    rw [List.map_replicate, show ((m : Int) - 2).toNat = m - 2 by omega]
    rfl
  have cf : ∀ {ks : List Nat}, ¬ (ks.length = m ∧ 1 ≤ ks.sum ∧ ks.sum ≤ 8) → isConf m (natsD ks) = false := fun {ks} h => Bool.eq_false_iff.mpr fun e => h ((isConf_nats ks).mp e)
  have pf : ∀ {ks : List Nat}, ¬ (ks.length = m ∧ ks.head? = some 0 ∧ 1 ≤ ks.sum ∧ ks.sum ≤ 4) → isPat m (natsD ks) = false := fun {ks} h => Bool.eq_false_iff.mpr fun e => h ((isPat_nats ks).mp e)
  have c1 : isConf m (.tuple (.int 8 :: List.replicate ((m : Int) - 1).toNat (.int 0))) = true := by
    rw [r1]
    exact (isConf_nats (8 :: List.replicate (m - 1) 0)).mpr ⟨by simp; omega, by simp, by simp⟩
  have c2 : isConf m (.tuple (.int 0 :: .int 9 :: List.replicate ((m : Int) - 2).toNat (.int 0))) = false := by
    rw [r2]
    exact cf (ks := 0 :: 9 :: List.replicate (m - 2) 0) (by simp)
  have c3 : isConf m (.tuple (List.replicate ((m : Int)).toNat (.int 0))) = false := by
    have e : List.replicate ((m : Int)).toNat (PyData.int 0) = (List.replicate m 0).map (fun n : Nat => PyData.int (n : Int)) := by
      rw [List.map_replicate]
      rfl
    rw [e]
    exact cf (ks := List.replicate m 0) (by simp)
  have c4 : isConf m (.tuple (List.replicate ((m : Int) + 1).toNat (.int 1))) = false := by
    have e : List.replicate ((m : Int) + 1).toNat (PyData.int 1) = (List.replicate (m + 1) 1).map (fun n : Nat => PyData.int (n : Int)) := by
      rw [List.map_replicate]
      rfl
    rw [e]
    exact cf (ks := List.replicate (m + 1) 1) (by simp)
  have p1 : isPat m (.tuple (.int 0 :: .int 4 :: List.replicate ((m : Int) - 2).toNat (.int 0))) = true := by
    rw [r2]
    exact (isPat_nats (0 :: 4 :: List.replicate (m - 2) 0)).mpr ⟨by simp; omega, rfl, by simp, by simp⟩
  have p2 : isPat m (.tuple (.int 0 :: .int 5 :: List.replicate ((m : Int) - 2).toNat (.int 0))) = false := by
    rw [r2]
    exact pf (ks := 0 :: 5 :: List.replicate (m - 2) 0) (by simp)
  have p3 : isPat m (.tuple (List.replicate ((m : Int)).toNat (.int 0))) = false := by
    have e : List.replicate ((m : Int)).toNat (PyData.int 0) = (List.replicate m 0).map (fun n : Nat => PyData.int (n : Int)) := by
      rw [List.map_replicate]
      rfl
    rw [e]
    exact pf (ks := List.replicate m 0) (by simp)
  have p4 : isPat m (.tuple (.int 1 :: .int 1 :: List.replicate ((m : Int) - 2).toNat (.int 0))) = false := by
    rw [r2]
    exact pf (ks := 1 :: 1 :: List.replicate (m - 2) 0) (by simp)
  have l1 : isLog m (.tuple (List.replicate (Int.toNat 6) (natsD ns))) = true := by
    have e : ∀ x, x ∈ List.replicate (Int.toNat 6) (natsD ns) → x = natsD ns := fun x hx => (List.mem_replicate.mp hx).2
    unfold isLog
    simp only [List.length_replicate, Bool.and_eq_true, List.all_eq_true, decide_eq_true_eq]
    refine ⟨⟨by decide, by decide⟩, fun x hx => by rw [e x hx]; exact hc, fun x hx => by rw [e x hx]; rfl⟩
  have l2 : isLog m (.tuple (List.replicate (Int.toNat 7) (natsD ns))) = false := rfl
  have l3 : isLog m (.tuple []) = false := rfl
  have l4 : isLog m (.tuple [.tuple (.int 8 :: List.replicate ((m : Int) - 1).toNat (.int 0)), .tuple (.int 7 :: .int 0 :: List.replicate ((m : Int) - 2).toNat (.int 0))]) = false := by
    refine Bool.eq_false_iff.mpr fun e => ?_
    unfold isLog at e
    simp only [Bool.and_eq_true, List.all_eq_true, decide_eq_true_eq] at e
    have := e.2.2 _ (List.mem_cons_of_mem _ List.mem_cons_self)
    rw [r1, r2] at this
    have e1 : sumD (.tuple ((7 :: 0 :: List.replicate (m - 2) 0).map (fun n : Nat => PyData.int (n : Int)))) = sumD (.tuple ((8 :: List.replicate (m - 1) 0).map (fun n : Nat => PyData.int (n : Int)))) := this
    rw [nats_ints, nats_ints, sumD_ints, sumD_ints, nats_sum, nats_sum] at e1
    simp at e1
  refine seqK fun K hK => ?_
  simp only [sSeq, sNext, sExpr, sRet, sIf, sSet, sSetF, sAsg, sPar, sRaise, sFor, sApp, sExt, sPop, sItem, sAugI, sAug, sFrz, sMove, sBreak, sCont, gN, gT, gsNil, gsCons, dVar, vS_d, vS_own, vS_town, vS_v, vS_scr, fz_scr, dC, dOp, dCall, dCallK, daNil, daCons, dTup, dLst, dSl, doNone, doSome, dIf, dAnd, dOr, dNot, dNeg, dOne, dTwoI, dChain, dLc, bVal, bTru, bScr, dLenS, dIxS, dCount, dRest, sCount, sRest, bNot, bAnd, bOr, bYes, wInt2, wIntC, wAdd, wMul, wIx, wIn, wEqD, wIsN, oLen, oTuple, oList, oAll, oSum, oIsi, iSeq, iRng1D, iRng2D, iEnumD, iZipD, fz_d, fz_own, fz_town, fz_v, fz_abs, asDs, fzB, wipeD, asD_d, asD_own, asD_bor, asL_list, asL_tuple, asL_own, asL_bor, asL_int, asL_bool, asL_none, asS_list, asS_tuple, asS_own, asS_bor, tru_bool, tru_int, tru_none, tru_tuple, tru_list, tru_own, tru_bor, stO_d, stO_own, stO_town, stO_v, stO_abs, rtS_d, rtS_own, rtS_bor, rtS_v, rtS_abs, isN_none, isN_tuple, isN_int, isN_list, isN_bool, List.map_cons, List.map_nil, List.length_cons, List.length_nil, List.cons_append, List.nil_append, List.getElem?_cons_zero, List.getElem?_cons_succ, List.set_cons_zero, List.set_cons_succ, Option.map_some, Option.map_none, Option.some.injEq, SV.d.injEq, SV.own.injEq, PyData.int.injEq, PyData.bool.injEq, PyData.tuple.injEq, PyData.list.injEq, PyData.str.injEq, List.cons.injEq, exists_eq_left, exists_eq_left', exists_eq_right, exists_and_left, exists_and_right, exists_const, and_true, true_and, if_true, if_false, reduceCtorEq, false_or, or_false, false_and, and_false, Bool.not_true, Bool.not_false, Bool.false_eq_true, ite_true, ite_false, reduceIte, Bool.true_eq_false, Nat.reduceAdd, nc0, nc1, nc2, nc3, nc4, nc5, nc6, nc7, nc8, Int.reduceBEq, beq_self_eq_true, Bool.and_true, Bool.true_and, Bool.and_false, Bool.false_and, Nat.zero_add, atI_0]
  repeat (refine ⟨by first | decide | omega | (simp; done) | (rw [sizeLine_eq]; omega), ?_⟩)
  refine hK _ ?_
  clear hK K
  refine seqK fun K hK => ?_
  simp only [sSeq, sNext, sExpr, sRet, sIf, sSet, sSetF, sAsg, sPar, sRaise, sFor, sApp, sExt, sPop, sItem, sAugI, sAug, sFrz, sMove, sBreak, sCont, gN, gT, gsNil, gsCons, dVar, vS_d, vS_own, vS_town, vS_v, vS_scr, fz_scr, dC, dOp, dCall, dCallK, daNil, daCons, dTup, dLst, dSl, doNone, doSome, dIf, dAnd, dOr, dNot, dNeg, dOne, dTwoI, dChain, dLc, bVal, bTru, bScr, dLenS, dIxS, dCount, dRest, sCount, sRest, bNot, bAnd, bOr, bYes, wInt2, wIntC, wAdd, wMul, wIx, wIn, wEqD, wIsN, oLen, oTuple, oList, oAll, oSum, oIsi, iSeq, iRng1D, iRng2D, iEnumD, iZipD, fz_d, fz_own, fz_town, fz_v, fz_abs, asDs, fzB, wipeD, asD_d, asD_own, asD_bor, asL_list, asL_tuple, asL_own, asL_bor, asL_int, asL_bool, asL_none, asS_list, asS_tuple, asS_own, asS_bor, tru_bool, tru_int, tru_none, tru_tuple, tru_list, tru_own, tru_bor, stO_d, stO_own, stO_town, stO_v, stO_abs, rtS_d, rtS_own, rtS_bor, rtS_v, rtS_abs, isN_none, isN_tuple, isN_int, isN_list, isN_bool, List.map_cons, List.map_nil, List.length_cons, List.length_nil, List.cons_append, List.nil_append, List.getElem?_cons_zero, List.getElem?_cons_succ, List.set_cons_zero, List.set_cons_succ, Option.map_some, Option.map_none, Option.some.injEq, SV.d.injEq, SV.own.injEq, PyData.int.injEq, PyData.bool.injEq, PyData.tuple.injEq, PyData.list.injEq, PyData.str.injEq, List.cons.injEq, exists_eq_left, exists_eq_left', exists_eq_right, exists_and_left, exists_and_right, exists_const, and_true, true_and, if_true, if_false, reduceCtorEq, false_or, or_false, false_and, and_false, Bool.not_true, Bool.not_false, Bool.false_eq_true, ite_true, ite_false, reduceIte, Bool.true_eq_false, Nat.reduceAdd, nc0, nc1, nc2, nc3, nc4, nc5, nc6, nc7, nc8, Int.reduceBEq, beq_self_eq_true, Bool.and_true, Bool.true_and, Bool.and_false, Bool.false_and, Nat.zero_add, List.flatten_replicate_singleton, List.length_replicate, at_is_configuration hP, at_is_pattern hP, at_is_log hP, c1, c2, c3, c4, p1, p2, p3, p4, l1, l2, l3, l4]
  repeat (refine ⟨by first | decide | omega | (simp; done) | (rw [sizeLine_eq]; omega), ?_⟩)
  refine hK _ ?_
  clear hK K
  refine seqK fun K hK => ?_
  simp only [sSeq, sNext, sExpr, sRet, sIf, sSet, sSetF, sAsg, sPar, sRaise, sFor, sApp, sExt, sPop, sItem, sAugI, sAug, sFrz, sMove, sBreak, sCont, gN, gT, gsNil, gsCons, dVar, vS_d, vS_own, vS_town, vS_v, vS_scr, fz_scr, dC, dOp, dCall, dCallK, daNil, daCons, dTup, dLst, dSl, doNone, doSome, dIf, dAnd, dOr, dNot, dNeg, dOne, dTwoI, dChain, dLc, bVal, bTru, bScr, dLenS, dIxS, dCount, dRest, sCount, sRest, bNot, bAnd, bOr, bYes, wInt2, wIntC, wAdd, wMul, wIx, wIn, wEqD, wIsN, oLen, oTuple, oList, oAll, oSum, oIsi, iSeq, iRng1D, iRng2D, iEnumD, iZipD, fz_d, fz_own, fz_town, fz_v, fz_abs, asDs, fzB, wipeD, asD_d, asD_own, asD_bor, asL_list, asL_tuple, asL_own, asL_bor, asL_int, asL_bool, asL_none, asS_list, asS_tuple, asS_own, asS_bor, tru_bool, tru_int, tru_none, tru_tuple, tru_list, tru_own, tru_bor, stO_d, stO_own, stO_town, stO_v, stO_abs, rtS_d, rtS_own, rtS_bor, rtS_v, rtS_abs, isN_none, isN_tuple, isN_int, isN_list, isN_bool, List.map_cons, List.map_nil, List.length_cons, List.length_nil, List.cons_append, List.nil_append, List.getElem?_cons_zero, List.getElem?_cons_succ, List.set_cons_zero, List.set_cons_succ, Option.map_some, Option.map_none, Option.some.injEq, SV.d.injEq, SV.own.injEq, PyData.int.injEq, PyData.bool.injEq, PyData.tuple.injEq, PyData.list.injEq, PyData.str.injEq, List.cons.injEq, exists_eq_left, exists_eq_left', exists_eq_right, exists_and_left, exists_and_right, exists_const, and_true, true_and, if_true, if_false, reduceCtorEq, false_or, or_false, false_and, and_false, Bool.not_true, Bool.not_false, Bool.false_eq_true, ite_true, ite_false, reduceIte, Bool.true_eq_false, Nat.reduceAdd, nc0, nc1, nc2, nc3, nc4, nc5, nc6, nc7, nc8, Int.reduceBEq, beq_self_eq_true, Bool.and_true, Bool.true_and, Bool.and_false, Bool.false_and, Nat.zero_add, List.flatten_replicate_singleton, List.length_replicate, at_is_configuration hP, at_is_pattern hP, at_is_log hP, c1, c2, c3, c4, p1, p2, p3, p4, l1, l2, l3, l4]
  repeat (refine ⟨by first | decide | omega | (simp; done) | (rw [sizeLine_eq]; omega), ?_⟩)
  refine hK _ ?_
  clear hK K
  refine seqK fun K hK => ?_
  simp only [sSeq, sNext, sExpr, sRet, sIf, sSet, sSetF, sAsg, sPar, sRaise, sFor, sApp, sExt, sPop, sItem, sAugI, sAug, sFrz, sMove, sBreak, sCont, gN, gT, gsNil, gsCons, dVar, vS_d, vS_own, vS_town, vS_v, vS_scr, fz_scr, dC, dOp, dCall, dCallK, daNil, daCons, dTup, dLst, dSl, doNone, doSome, dIf, dAnd, dOr, dNot, dNeg, dOne, dTwoI, dChain, dLc, bVal, bTru, bScr, dLenS, dIxS, dCount, dRest, sCount, sRest, bNot, bAnd, bOr, bYes, wInt2, wIntC, wAdd, wMul, wIx, wIn, wEqD, wIsN, oLen, oTuple, oList, oAll, oSum, oIsi, iSeq, iRng1D, iRng2D, iEnumD, iZipD, fz_d, fz_own, fz_town, fz_v, fz_abs, asDs, fzB, wipeD, asD_d, asD_own, asD_bor, asL_list, asL_tuple, asL_own, asL_bor, asL_int, asL_bool, asL_none, asS_list, asS_tuple, asS_own, asS_bor, tru_bool, tru_int, tru_none, tru_tuple, tru_list, tru_own, tru_bor, stO_d, stO_own, stO_town, stO_v, stO_abs, rtS_d, rtS_own, rtS_bor, rtS_v, rtS_abs, isN_none, isN_tuple, isN_int, isN_list, isN_bool, List.map_cons, List.map_nil, List.length_cons, List.length_nil, List.cons_append, List.nil_append, List.getElem?_cons_zero, List.getElem?_cons_succ, List.set_cons_zero, List.set_cons_succ, Option.map_some, Option.map_none, Option.some.injEq, SV.d.injEq, SV.own.injEq, PyData.int.injEq, PyData.bool.injEq, PyData.tuple.injEq, PyData.list.injEq, PyData.str.injEq, List.cons.injEq, exists_eq_left, exists_eq_left', exists_eq_right, exists_and_left, exists_and_right, exists_const, and_true, true_and, if_true, if_false, reduceCtorEq, false_or, or_false, false_and, and_false, Bool.not_true, Bool.not_false, Bool.false_eq_true, ite_true, ite_false, reduceIte, Bool.true_eq_false, Nat.reduceAdd, nc0, nc1, nc2, nc3, nc4, nc5, nc6, nc7, nc8, Int.reduceBEq, beq_self_eq_true, Bool.and_true, Bool.true_and, Bool.and_false, Bool.false_and, Nat.zero_add, List.flatten_replicate_singleton, List.length_replicate, at_is_configuration hP, at_is_pattern hP, at_is_log hP, c1, c2, c3, c4, p1, p2, p3, p4, l1, l2, l3, l4]
  repeat (refine ⟨by first | decide | omega | (simp; done) | (rw [sizeLine_eq]; omega), ?_⟩)
  refine hK _ ?_
  clear hK K
  refine seqK fun K hK => ?_
  simp only [sSeq, sNext, sExpr, sRet, sIf, sSet, sSetF, sAsg, sPar, sRaise, sFor, sApp, sExt, sPop, sItem, sAugI, sAug, sFrz, sMove, sBreak, sCont, gN, gT, gsNil, gsCons, dVar, vS_d, vS_own, vS_town, vS_v, vS_scr, fz_scr, dC, dOp, dCall, dCallK, daNil, daCons, dTup, dLst, dSl, doNone, doSome, dIf, dAnd, dOr, dNot, dNeg, dOne, dTwoI, dChain, dLc, bVal, bTru, bScr, dLenS, dIxS, dCount, dRest, sCount, sRest, bNot, bAnd, bOr, bYes, wInt2, wIntC, wAdd, wMul, wIx, wIn, wEqD, wIsN, oLen, oTuple, oList, oAll, oSum, oIsi, iSeq, iRng1D, iRng2D, iEnumD, iZipD, fz_d, fz_own, fz_town, fz_v, fz_abs, asDs, fzB, wipeD, asD_d, asD_own, asD_bor, asL_list, asL_tuple, asL_own, asL_bor, asL_int, asL_bool, asL_none, asS_list, asS_tuple, asS_own, asS_bor, tru_bool, tru_int, tru_none, tru_tuple, tru_list, tru_own, tru_bor, stO_d, stO_own, stO_town, stO_v, stO_abs, rtS_d, rtS_own, rtS_bor, rtS_v, rtS_abs, isN_none, isN_tuple, isN_int, isN_list, isN_bool, List.map_cons, List.map_nil, List.length_cons, List.length_nil, List.cons_append, List.nil_append, List.getElem?_cons_zero, List.getElem?_cons_succ, List.set_cons_zero, List.set_cons_succ, Option.map_some, Option.map_none, Option.some.injEq, SV.d.injEq, SV.own.injEq, PyData.int.injEq, PyData.bool.injEq, PyData.tuple.injEq, PyData.list.injEq, PyData.str.injEq, List.cons.injEq, exists_eq_left, exists_eq_left', exists_eq_right, exists_and_left, exists_and_right, exists_const, and_true, true_and, if_true, if_false, reduceCtorEq, false_or, or_false, false_and, and_false, Bool.not_true, Bool.not_false, Bool.false_eq_true, ite_true, ite_false, reduceIte, Bool.true_eq_false, Nat.reduceAdd, nc0, nc1, nc2, nc3, nc4, nc5, nc6, nc7, nc8, Int.reduceBEq, beq_self_eq_true, Bool.and_true, Bool.true_and, Bool.and_false, Bool.false_and, Nat.zero_add, List.flatten_replicate_singleton, List.length_replicate, at_is_configuration hP, at_is_pattern hP, at_is_log hP, c1, c2, c3, c4, p1, p2, p3, p4, l1, l2, l3, l4]
  repeat (refine ⟨by first | decide | omega | (simp; done) | (rw [sizeLine_eq]; omega), ?_⟩)
  refine hK _ ?_
  clear hK K
  refine seqK fun K hK => ?_
  simp only [sSeq, sNext, sExpr, sRet, sIf, sSet, sSetF, sAsg, sPar, sRaise, sFor, sApp, sExt, sPop, sItem, sAugI, sAug, sFrz, sMove, sBreak, sCont, gN, gT, gsNil, gsCons, dVar, vS_d, vS_own, vS_town, vS_v, vS_scr, fz_scr, dC, dOp, dCall, dCallK, daNil, daCons, dTup, dLst, dSl, doNone, doSome, dIf, dAnd, dOr, dNot, dNeg, dOne, dTwoI, dChain, dLc, bVal, bTru, bScr, dLenS, dIxS, dCount, dRest, sCount, sRest, bNot, bAnd, bOr, bYes, wInt2, wIntC, wAdd, wMul, wIx, wIn, wEqD, wIsN, oLen, oTuple, oList, oAll, oSum, oIsi, iSeq, iRng1D, iRng2D, iEnumD, iZipD, fz_d, fz_own, fz_town, fz_v, fz_abs, asDs, fzB, wipeD, asD_d, asD_own, asD_bor, asL_list, asL_tuple, asL_own, asL_bor, asL_int, asL_bool, asL_none, asS_list, asS_tuple, asS_own, asS_bor, tru_bool, tru_int, tru_none, tru_tuple, tru_list, tru_own, tru_bor, stO_d, stO_own, stO_town, stO_v, stO_abs, rtS_d, rtS_own, rtS_bor, rtS_v, rtS_abs, isN_none, isN_tuple, isN_int, isN_list, isN_bool, List.map_cons, List.map_nil, List.length_cons, List.length_nil, List.cons_append, List.nil_append, List.getElem?_cons_zero, List.getElem?_cons_succ, List.set_cons_zero, List.set_cons_succ, Option.map_some, Option.map_none, Option.some.injEq, SV.d.injEq, SV.own.injEq, PyData.int.injEq, PyData.bool.injEq, PyData.tuple.injEq, PyData.list.injEq, PyData.str.injEq, List.cons.injEq, exists_eq_left, exists_eq_left', exists_eq_right, exists_and_left, exists_and_right, exists_const, and_true, true_and, if_true, if_false, reduceCtorEq, false_or, or_false, false_and, and_false, Bool.not_true, Bool.not_false, Bool.false_eq_true, ite_true, ite_false, reduceIte, Bool.true_eq_false, Nat.reduceAdd, nc0, nc1, nc2, nc3, nc4, nc5, nc6, nc7, nc8, Int.reduceBEq, beq_self_eq_true, Bool.and_true, Bool.true_and, Bool.and_false, Bool.false_and, Nat.zero_add, List.flatten_replicate_singleton, List.length_replicate, at_is_configuration hP, at_is_pattern hP, at_is_log hP, c1, c2, c3, c4, p1, p2, p3, p4, l1, l2, l3, l4]
  repeat (refine ⟨by first | decide | omega | (simp; done) | (rw [sizeLine_eq]; omega), ?_⟩)
  refine hK _ ?_
  clear hK K
  refine seqK fun K hK => ?_
  simp only [sSeq, sNext, sExpr, sRet, sIf, sSet, sSetF, sAsg, sPar, sRaise, sFor, sApp, sExt, sPop, sItem, sAugI, sAug, sFrz, sMove, sBreak, sCont, gN, gT, gsNil, gsCons, dVar, vS_d, vS_own, vS_town, vS_v, vS_scr, fz_scr, dC, dOp, dCall, dCallK, daNil, daCons, dTup, dLst, dSl, doNone, doSome, dIf, dAnd, dOr, dNot, dNeg, dOne, dTwoI, dChain, dLc, bVal, bTru, bScr, dLenS, dIxS, dCount, dRest, sCount, sRest, bNot, bAnd, bOr, bYes, wInt2, wIntC, wAdd, wMul, wIx, wIn, wEqD, wIsN, oLen, oTuple, oList, oAll, oSum, oIsi, iSeq, iRng1D, iRng2D, iEnumD, iZipD, fz_d, fz_own, fz_town, fz_v, fz_abs, asDs, fzB, wipeD, asD_d, asD_own, asD_bor, asL_list, asL_tuple, asL_own, asL_bor, asL_int, asL_bool, asL_none, asS_list, asS_tuple, asS_own, asS_bor, tru_bool, tru_int, tru_none, tru_tuple, tru_list, tru_own, tru_bor, stO_d, stO_own, stO_town, stO_v, stO_abs, rtS_d, rtS_own, rtS_bor, rtS_v, rtS_abs, isN_none, isN_tuple, isN_int, isN_list, isN_bool, List.map_cons, List.map_nil, List.length_cons, List.length_nil, List.cons_append, List.nil_append, List.getElem?_cons_zero, List.getElem?_cons_succ, List.set_cons_zero, List.set_cons_succ, Option.map_some, Option.map_none, Option.some.injEq, SV.d.injEq, SV.own.injEq, PyData.int.injEq, PyData.bool.injEq, PyData.tuple.injEq, PyData.list.injEq, PyData.str.injEq, List.cons.injEq, exists_eq_left, exists_eq_left', exists_eq_right, exists_and_left, exists_and_right, exists_const, and_true, true_and, if_true, if_false, reduceCtorEq, false_or, or_false, false_and, and_false, Bool.not_true, Bool.not_false, Bool.false_eq_true, ite_true, ite_false, reduceIte, Bool.true_eq_false, Nat.reduceAdd, nc0, nc1, nc2, nc3, nc4, nc5, nc6, nc7, nc8, Int.reduceBEq, beq_self_eq_true, Bool.and_true, Bool.true_and, Bool.and_false, Bool.false_and, Nat.zero_add, List.flatten_replicate_singleton, List.length_replicate, at_is_configuration hP, at_is_pattern hP, at_is_log hP, c1, c2, c3, c4, p1, p2, p3, p4, l1, l2, l3, l4]
  repeat (refine ⟨by first | decide | omega | (simp; done) | (rw [sizeLine_eq]; omega), ?_⟩)
  refine hK _ ?_
  clear hK K
  refine seqK fun K hK => ?_
  simp only [sSeq, sNext, sExpr, sRet, sIf, sSet, sSetF, sAsg, sPar, sRaise, sFor, sApp, sExt, sPop, sItem, sAugI, sAug, sFrz, sMove, sBreak, sCont, gN, gT, gsNil, gsCons, dVar, vS_d, vS_own, vS_town, vS_v, vS_scr, fz_scr, dC, dOp, dCall, dCallK, daNil, daCons, dTup, dLst, dSl, doNone, doSome, dIf, dAnd, dOr, dNot, dNeg, dOne, dTwoI, dChain, dLc, bVal, bTru, bScr, dLenS, dIxS, dCount, dRest, sCount, sRest, bNot, bAnd, bOr, bYes, wInt2, wIntC, wAdd, wMul, wIx, wIn, wEqD, wIsN, oLen, oTuple, oList, oAll, oSum, oIsi, iSeq, iRng1D, iRng2D, iEnumD, iZipD, fz_d, fz_own, fz_town, fz_v, fz_abs, asDs, fzB, wipeD, asD_d, asD_own, asD_bor, asL_list, asL_tuple, asL_own, asL_bor, asL_int, asL_bool, asL_none, asS_list, asS_tuple, asS_own, asS_bor, tru_bool, tru_int, tru_none, tru_tuple, tru_list, tru_own, tru_bor, stO_d, stO_own, stO_town, stO_v, stO_abs, rtS_d, rtS_own, rtS_bor, rtS_v, rtS_abs, isN_none, isN_tuple, isN_int, isN_list, isN_bool, List.map_cons, List.map_nil, List.length_cons, List.length_nil, List.cons_append, List.nil_append, List.getElem?_cons_zero, List.getElem?_cons_succ, List.set_cons_zero, List.set_cons_succ, Option.map_some, Option.map_none, Option.some.injEq, SV.d.injEq, SV.own.injEq, PyData.int.injEq, PyData.bool.injEq, PyData.tuple.injEq, PyData.list.injEq, PyData.str.injEq, List.cons.injEq, exists_eq_left, exists_eq_left', exists_eq_right, exists_and_left, exists_and_right, exists_const, and_true, true_and, if_true, if_false, reduceCtorEq, false_or, or_false, false_and, and_false, Bool.not_true, Bool.not_false, Bool.false_eq_true, ite_true, ite_false, reduceIte, Bool.true_eq_false, Nat.reduceAdd, nc0, nc1, nc2, nc3, nc4, nc5, nc6, nc7, nc8, Int.reduceBEq, beq_self_eq_true, Bool.and_true, Bool.true_and, Bool.and_false, Bool.false_and, Nat.zero_add, List.flatten_replicate_singleton, List.length_replicate, at_is_configuration hP, at_is_pattern hP, at_is_log hP, c1, c2, c3, c4, p1, p2, p3, p4, l1, l2, l3, l4]
  repeat (refine ⟨by first | decide | omega | (simp; done) | (rw [sizeLine_eq]; omega), ?_⟩)
  refine hK _ ?_
  clear hK K
  refine seqK fun K hK => ?_
  simp only [sSeq, sNext, sExpr, sRet, sIf, sSet, sSetF, sAsg, sPar, sRaise, sFor, sApp, sExt, sPop, sItem, sAugI, sAug, sFrz, sMove, sBreak, sCont, gN, gT, gsNil, gsCons, dVar, vS_d, vS_own, vS_town, vS_v, vS_scr, fz_scr, dC, dOp, dCall, dCallK, daNil, daCons, dTup, dLst, dSl, doNone, doSome, dIf, dAnd, dOr, dNot, dNeg, dOne, dTwoI, dChain, dLc, bVal, bTru, bScr, dLenS, dIxS, dCount, dRest, sCount, sRest, bNot, bAnd, bOr, bYes, wInt2, wIntC, wAdd, wMul, wIx, wIn, wEqD, wIsN, oLen, oTuple, oList, oAll, oSum, oIsi, iSeq, iRng1D, iRng2D, iEnumD, iZipD, fz_d, fz_own, fz_town, fz_v, fz_abs, asDs, fzB, wipeD, asD_d, asD_own, asD_bor, asL_list, asL_tuple, asL_own, asL_bor, asL_int, asL_bool, asL_none, asS_list, asS_tuple, asS_own, asS_bor, tru_bool, tru_int, tru_none, tru_tuple, tru_list, tru_own, tru_bor, stO_d, stO_own, stO_town, stO_v, stO_abs, rtS_d, rtS_own, rtS_bor, rtS_v, rtS_abs, isN_none, isN_tuple, isN_int, isN_list, isN_bool, List.map_cons, List.map_nil, List.length_cons, List.length_nil, List.cons_append, List.nil_append, List.getElem?_cons_zero, List.getElem?_cons_succ, List.set_cons_zero, List.set_cons_succ, Option.map_some, Option.map_none, Option.some.injEq, SV.d.injEq, SV.own.injEq, PyData.int.injEq, PyData.bool.injEq, PyData.tuple.injEq, PyData.list.injEq, PyData.str.injEq, List.cons.injEq, exists_eq_left, exists_eq_left', exists_eq_right, exists_and_left, exists_and_right, exists_const, and_true, true_and, if_true, if_false, reduceCtorEq, false_or, or_false, false_and, and_false, Bool.not_true, Bool.not_false, Bool.false_eq_true, ite_true, ite_false, reduceIte, Bool.true_eq_false, Nat.reduceAdd, nc0, nc1, nc2, nc3, nc4, nc5, nc6, nc7, nc8, Int.reduceBEq, beq_self_eq_true, Bool.and_true, Bool.true_and, Bool.and_false, Bool.false_and, Nat.zero_add, List.flatten_replicate_singleton, List.length_replicate, at_is_configuration hP, at_is_pattern hP, at_is_log hP, c1, c2, c3, c4, p1, p2, p3, p4, l1, l2, l3, l4]
  repeat (refine ⟨by first | decide | omega | (simp; done) | (rw [sizeLine_eq]; omega), ?_⟩)
  refine hK _ ?_
  clear hK K
  refine seqK fun K hK => ?_
  simp only [sSeq, sNext, sExpr, sRet, sIf, sSet, sSetF, sAsg, sPar, sRaise, sFor, sApp, sExt, sPop, sItem, sAugI, sAug, sFrz, sMove, sBreak, sCont, gN, gT, gsNil, gsCons, dVar, vS_d, vS_own, vS_town, vS_v, vS_scr, fz_scr, dC, dOp, dCall, dCallK, daNil, daCons, dTup, dLst, dSl, doNone, doSome, dIf, dAnd, dOr, dNot, dNeg, dOne, dTwoI, dChain, dLc, bVal, bTru, bScr, dLenS, dIxS, dCount, dRest, sCount, sRest, bNot, bAnd, bOr, bYes, wInt2, wIntC, wAdd, wMul, wIx, wIn, wEqD, wIsN, oLen, oTuple, oList, oAll, oSum, oIsi, iSeq, iRng1D, iRng2D, iEnumD, iZipD, fz_d, fz_own, fz_town, fz_v, fz_abs, asDs, fzB, wipeD, asD_d, asD_own, asD_bor, asL_list, asL_tuple, asL_own, asL_bor, asL_int, asL_bool, asL_none, asS_list, asS_tuple, asS_own, asS_bor, tru_bool, tru_int, tru_none, tru_tuple, tru_list, tru_own, tru_bor, stO_d, stO_own, stO_town, stO_v, stO_abs, rtS_d, rtS_own, rtS_bor, rtS_v, rtS_abs, isN_none, isN_tuple, isN_int, isN_list, isN_bool, List.map_cons, List.map_nil, List.length_cons, List.length_nil, List.cons_append, List.nil_append, List.getElem?_cons_zero, List.getElem?_cons_succ, List.set_cons_zero, List.set_cons_succ, Option.map_some, Option.map_none, Option.some.injEq, SV.d.injEq, SV.own.injEq, PyData.int.injEq, PyData.bool.injEq, PyData.tuple.injEq, PyData.list.injEq, PyData.str.injEq, List.cons.injEq, exists_eq_left, exists_eq_left', exists_eq_right, exists_and_left, exists_and_right, exists_const, and_true, true_and, if_true, if_false, reduceCtorEq, false_or, or_false, false_and, and_false, Bool.not_true, Bool.not_false, Bool.false_eq_true, ite_true, ite_false, reduceIte, Bool.true_eq_false, Nat.reduceAdd, nc0, nc1, nc2, nc3, nc4, nc5, nc6, nc7, nc8, Int.reduceBEq, beq_self_eq_true, Bool.and_true, Bool.true_and, Bool.and_false, Bool.false_and, Nat.zero_add, List.flatten_replicate_singleton, List.length_replicate, at_is_configuration hP, at_is_pattern hP, at_is_log hP, c1, c2, c3, c4, p1, p2, p3, p4, l1, l2, l3, l4]
  repeat (refine ⟨by first | decide | omega | (simp; done) | (rw [sizeLine_eq]; omega), ?_⟩)
  refine hK _ ?_
  clear hK K
  refine seqK fun K hK => ?_
  simp only [sSeq, sNext, sExpr, sRet, sIf, sSet, sSetF, sAsg, sPar, sRaise, sFor, sApp, sExt, sPop, sItem, sAugI, sAug, sFrz, sMove, sBreak, sCont, gN, gT, gsNil, gsCons, dVar, vS_d, vS_own, vS_town, vS_v, vS_scr, fz_scr, dC, dOp, dCall, dCallK, daNil, daCons, dTup, dLst, dSl, doNone, doSome, dIf, dAnd, dOr, dNot, dNeg, dOne, dTwoI, dChain, dLc, bVal, bTru, bScr, dLenS, dIxS, dCount, dRest, sCount, sRest, bNot, bAnd, bOr, bYes, wInt2, wIntC, wAdd, wMul, wIx, wIn, wEqD, wIsN, oLen, oTuple, oList, oAll, oSum, oIsi, iSeq, iRng1D, iRng2D, iEnumD, iZipD, fz_d, fz_own, fz_town, fz_v, fz_abs, asDs, fzB, wipeD, asD_d, asD_own, asD_bor, asL_list, asL_tuple, asL_own, asL_bor, asL_int, asL_bool, asL_none, asS_list, asS_tuple, asS_own, asS_bor, tru_bool, tru_int, tru_none, tru_tuple, tru_list, tru_own, tru_bor, stO_d, stO_own, stO_town, stO_v, stO_abs, rtS_d, rtS_own, rtS_bor, rtS_v, rtS_abs, isN_none, isN_tuple, isN_int, isN_list, isN_bool, List.map_cons, List.map_nil, List.length_cons, List.length_nil, List.cons_append, List.nil_append, List.getElem?_cons_zero, List.getElem?_cons_succ, List.set_cons_zero, List.set_cons_succ, Option.map_some, Option.map_none, Option.some.injEq, SV.d.injEq, SV.own.injEq, PyData.int.injEq, PyData.bool.injEq, PyData.tuple.injEq, PyData.list.injEq, PyData.str.injEq, List.cons.injEq, exists_eq_left, exists_eq_left', exists_eq_right, exists_and_left, exists_and_right, exists_const, and_true, true_and, if_true, if_false, reduceCtorEq, false_or, or_false, false_and, and_false, Bool.not_true, Bool.not_false, Bool.false_eq_true, ite_true, ite_false, reduceIte, Bool.true_eq_false, Nat.reduceAdd, nc0, nc1, nc2, nc3, nc4, nc5, nc6, nc7, nc8, Int.reduceBEq, beq_self_eq_true, Bool.and_true, Bool.true_and, Bool.and_false, Bool.false_and, Nat.zero_add, List.flatten_replicate_singleton, List.length_replicate, at_is_configuration hP, at_is_pattern hP, at_is_log hP, c1, c2, c3, c4, p1, p2, p3, p4, l1, l2, l3, l4]
  repeat (refine ⟨by first | decide | omega | (simp; done) | (rw [sizeLine_eq]; omega), ?_⟩)
  refine hK _ ?_
  clear hK K
  simp only [sSeq, sNext, sExpr, sRet, sIf, sSet, sSetF, sAsg, sPar, sRaise, sFor, sApp, sExt, sPop, sItem, sAugI, sAug, sFrz, sMove, sBreak, sCont, gN, gT, gsNil, gsCons, dVar, vS_d, vS_own, vS_town, vS_v, vS_scr, fz_scr, dC, dOp, dCall, dCallK, daNil, daCons, dTup, dLst, dSl, doNone, doSome, dIf, dAnd, dOr, dNot, dNeg, dOne, dTwoI, dChain, dLc, bVal, bTru, bScr, dLenS, dIxS, dCount, dRest, sCount, sRest, bNot, bAnd, bOr, bYes, wInt2, wIntC, wAdd, wMul, wIx, wIn, wEqD, wIsN, oLen, oTuple, oList, oAll, oSum, oIsi, iSeq, iRng1D, iRng2D, iEnumD, iZipD, fz_d, fz_own, fz_town, fz_v, fz_abs, asDs, fzB, wipeD, asD_d, asD_own, asD_bor, asL_list, asL_tuple, asL_own, asL_bor, asL_int, asL_bool, asL_none, asS_list, asS_tuple, asS_own, asS_bor, tru_bool, tru_int, tru_none, tru_tuple, tru_list, tru_own, tru_bor, stO_d, stO_own, stO_town, stO_v, stO_abs, rtS_d, rtS_own, rtS_bor, rtS_v, rtS_abs, isN_none, isN_tuple, isN_int, isN_list, isN_bool, List.map_cons, List.map_nil, List.length_cons, List.length_nil, List.cons_append, List.nil_append, List.getElem?_cons_zero, List.getElem?_cons_succ, List.set_cons_zero, List.set_cons_succ, Option.map_some, Option.map_none, Option.some.injEq, SV.d.injEq, SV.own.injEq, PyData.int.injEq, PyData.bool.injEq, PyData.tuple.injEq, PyData.list.injEq, PyData.str.injEq, List.cons.injEq, exists_eq_left, exists_eq_left', exists_eq_right, exists_and_left, exists_and_right, exists_const, and_true, true_and, if_true, if_false, reduceCtorEq, false_or, or_false, false_and, and_false, Bool.not_true, Bool.not_false, Bool.false_eq_true, ite_true, ite_false, reduceIte, Bool.true_eq_false, Nat.reduceAdd, nc0, nc1, nc2, nc3, nc4, nc5, nc6, nc7, nc8, Int.reduceBEq, beq_self_eq_true, Bool.and_true, Bool.true_and, Bool.and_false, Bool.false_and, Nat.zero_add]
  exact ⟨_, ⟨_, rfl, rfl⟩, by decide, by decide, q⟩
end DL
/-! L01: the reading of law k01. -/
namespace DL
open PySem PySem.Spec PyProof.Rows L2
theorem count_rule {m : Nat} {r : Rl} (h : r.Ok m) (hm : m ≤ 5) : (spoilt r.enc).length ≤ 192 := by
  have hb : r.bars.length ≤ 5 := by
    refine Nat.le_trans (nodup_len m r.bars ?_ fun b hb => (h.bars b hb).2) hm
    exact h.asc.imp fun {a b} hab => Nat.ne_of_lt hab
  have he : r.eff.length ≤ 5 := by
    rw [h.len]
    exact hm
  refine spoilt_count (c := 32) (n := 5) (fun x hx => ?_) (Nat.le_refl _)
  simp only [List.mem_cons, List.not_mem_nil, or_false] at hx
  rcases hx with rfl | rfl | rfl | rfl | rfl
  · rw [spoilt_int]; exact Nat.zero_le _
  · rw [spoilt_int]; exact Nat.zero_le _
  · rw [spoilt_int]; exact Nat.zero_le _
  · exact count_nats hb
  · exact count_nats he
theorem count_rules {p : Pr} (h : p.Ok) : (spoilt (.tuple (p.rules.map Rl.enc))).length ≤ 1586 := by
  refine spoilt_count (c := 192) (n := 8) (fun x hx => ?_) (by rw [List.length_map]; exact h.few)
  obtain ⟨r, hr, rfl⟩ := List.mem_map.mp hx
  exact count_rule (h.rules r hr) h.hi
theorem count_pr {p : Pr} (h : p.Ok) : (spoilt p.enc).length ≤ 3186 := by
  refine spoilt_count (c := 1586) (n := 2) (fun x hx => ?_) (Nat.le_refl _)
  simp only [List.mem_cons, List.not_mem_nil, or_false] at hx
  rcases hx with rfl | rfl
  · rw [spoilt_int]; exact Nat.zero_le _
  · exact count_rules h
theorem sp_seq {xs : List PyData} {o : PyData} (h : o ∈ spoilt (.tuple xs)) (hne : xs ≠ []) : ∃ y ys, o = .tuple (y :: ys) ∨ o = .list (y :: ys) := by
  rcases mem_spoilt h with ⟨a, x, b, y, h1, rfl, h3⟩ | rfl | rfl
  · cases a with
    | nil => exact ⟨y, b, .inl rfl⟩
    | cons z a => exact ⟨z, a ++ y :: b, .inl rfl⟩
  · cases xs with
    | nil => exact absurd rfl hne
    | cons z a => exact ⟨z, a, .inr rfl⟩
  · cases xs with
    | nil => exact absurd rfl hne
    | cons z a => exact ⟨z, a ++ [.none], .inl rfl⟩
theorem fit_cutT {k : Nat} {xs : List PyData} (h : Fit (k + 1) (.tuple xs)) (lo hi : Option Int) : Fit (k + 1) (.tuple (cut xs lo hi)) := Fit.tuple fun x hx => h.ofTuple x (mem_cut hx)
theorem fit_cutL {k : Nat} {xs : List PyData} (h : Fit (k + 1) (.list xs)) (lo hi : Option Int) : Fit (k + 1) (.list (cut xs lo hi)) := Fit.list fun x hx => h.ofList x (mem_cut hx)
theorem prot9 {y : PyData} {ys : List PyData} (h : PyData.eqv y (.int 9) = true) : isProtocol (.tuple (y :: ys)) = false := by
  refine Bool.eq_false_iff.mpr fun e => ?_
  obtain ⟨p, ep, hp⟩ := isP_dec e
  unfold Pr.enc at ep
  injection ep with ep
  injection ep with e1 e2
  subst e1
  have := hp.hi
  rw [eqv_int, beq_iff_eq] at h
  omega
def t_law (c : Ct) : DS :=
  (sSeq (sFor (iRng1D (dC (.d (.int 3)))) (gN 2) (sSeq (sSetF 3 (dCall (sp_law_protocol c) (daCons (dVar 0) (daCons (dVar 1) (daCons (dC (.d (.int 5))) (daCons (dC (.d (.int 4))) daNil))))))
    (sSeq (sIf (bNot (bTru (dCall (sp_law_is c) (daCons (dCallK (sp_is_protocol c) 0 1 daNil (daCons (dVar 3) daNil)) (daCons (dC (.d (.bool true))) daNil))))) (sRet (dC (.d (.bool false)))) sNext)
    (sSeq (sSetF 4 (dLc (iSeq (dCall (sp_law_spoilt c) (daCons (dVar 3) daNil))) (gN 5) (bVal (dOp (wEqD fun b => !b) (dSl (dVar 5) (doSome (dC (.d (.int 1)))) doNone) (dSl (dVar 3) (doSome (dC (.d (.int 1)))) doNone))) (dVar 5) [5]))
    (sSeq (sIf (bVal (dOp (wEqD fun b => !b) (dLc (iSeq (dVar 4)) (gN 5) (bAnd (bVal (dOp (wEqD fun b => b) (dOp wIx (dVar 5) (dC (.d (.int 0)))) (dC (.d (.int 9))))) (bNot (bTru (dCall (sp_law_is c) (daCons (dCall (sp_is_protocol c) (daCons (dVar 5) daNil)) (daCons (dC (.d (.bool false))) daNil)))))) (dVar 5) [5]) (dLst daNil))) (sRet (dC (.d (.bool false)))) sNext)
    (sSeq (sFor (iSeq (dCall (sp_law_spoilt c) (daCons (dOp wIx (dVar 3) (dC (.d (.int 1)))) daNil))) (gN 5) (sIf (bNot (bTru (dCall (sp_law_is c) (daCons (dCall (sp_is_protocol c) (daCons (dTup (daCons (dOp wIx (dVar 3) (dC (.d (.int 0)))) (daCons (dVar 5) daNil))) daNil)) (daCons (dC (.d (.bool false))) daNil))))) (sRet (dC (.d (.bool false)))) sNext))
    (sSeq (sSetF 6 (dCall (sp_law_pattern c) (daCons (dVar 0) (daCons (dVar 1) (daCons (dOp wIx (dVar 3) (dC (.d (.int 0)))) (daCons (dC (.d (.int 5))) daNil))))))
    (sSeq (sFor (iSeq (dCall (sp_law_spoilt c) (daCons (dVar 6) daNil))) (gN 5) (sIf (bAnd (bVal (dOp (wEqD fun b => !b) (dSl (dVar 5) doNone (doSome (dNeg (dC (.d (.int 1)))))) (dVar 6))) (bAnd (bVal (dOp (wIn fun b => !b) (dC (.d (.int 9))) (dVar 5))) (bNot (bTru (dCall (sp_law_is c) (daCons (dCall (sp_is_configuration c) (daCons (dVar 3) (daCons (dVar 5) daNil))) (daCons (dC (.d (.bool false))) daNil))))))) (sRet (dC (.d (.bool false)))) sNext))
    (sSeq (sIf (bNot (bTru (dCall (sp_law_is c) (daCons (dCallK (sp_is_configuration c) 1 1 (daCons (dVar 3) daNil) (daCons (dVar 6) daNil)) (daCons (dC (.d (.bool true))) daNil))))) (sRet (dC (.d (.bool false)))) sNext)
    (sSeq (sSetF 7 (dCall (sp_law_pattern c) (daCons (dVar 0) (daCons (dVar 1) (daCons (dOp wIx (dVar 3) (dC (.d (.int 0)))) (daCons (dC (.d (.int 4))) daNil))))))
    (sSeq (sIf (bNot (bTru (dCall (sp_law_is c) (daCons (dCallK (sp_is_pattern c) 1 1 (daCons (dVar 3) daNil) (daCons (dVar 7) daNil)) (daCons (dC (.d (.bool true))) daNil))))) (sRet (dC (.d (.bool false)))) sNext)
    (sSeq (sIf (bNot (bTru (dCall (sp_law_is c) (daCons (dCallK (sp_is_log c) 1 1 (daCons (dVar 3) daNil) (daCons (dTup (daCons (dVar 7) daNil)) daNil)) (daCons (dC (.d (.bool true))) daNil))))) (sRet (dC (.d (.bool false)))) sNext)
    (sSeq (sFor (iSeq (dTup (daCons (dC (.d .none)) (daCons (dOne oList (dVar 7)) (daCons (dSl (dVar 7) (doSome (dC (.d (.int 1)))) doNone) (daCons (dOp wAdd (dVar 7) (dC (.d (.tuple [(.int 0)])))) (daCons (dOp wAdd (dC (.d (.tuple [(.int 0)]))) (dOp wMul (dC (.d (.tuple [.none]))) (dOp (wInt2 fun i j => .int (i - j)) (dOp wIx (dVar 3) (dC (.d (.int 0)))) (dC (.d (.int 1)))))) daNil))))))) (gN 5) (sIf (bOr (bNot (bTru (dCall (sp_law_is c) (daCons (dCall (sp_is_pattern c) (daCons (dVar 3) (daCons (dVar 5) daNil))) (daCons (dC (.d (.bool false))) daNil))))) (bNot (bTru (dCall (sp_law_is c) (daCons (dCall (sp_is_log c) (daCons (dVar 3) (daCons (dVar 5) daNil))) (daCons (dC (.d (.bool false))) daNil)))))) (sRet (dC (.d (.bool false)))) sNext))
    (sIf (bNot (bTru (dCall (sp_law_counts c) (daCons (dVar 3) (daCons (dVar 6) daNil))))) (sRet (dC (.d (.bool false)))) sNext))))))))))))))
  (sRet (dCall (sp_law_bounds c) daNil)))
theorem rd_law (c : Ct) (n : Nat) (hn : n ≤ 63) : t_law c { nx := fun _ => False, rt := fun s => s = .d (.bool true) } (startD 8 [scr c n, .town]) (fun _ => False) := by
  show t_law c _ [some (scr c n), some .town, none, none, none, none, none, none] _
  unfold t_law
  refine seqK fun K hK => ?_
  simp only [sSeq, sNext, sExpr, sRet, sIf, sSet, sSetF, sAsg, sPar, sRaise, sFor, sApp, sExt, sPop, sItem, sAugI, sAug, sFrz, sMove, sBreak, sCont, gN, gT, gsNil, gsCons, dVar, vS_d, vS_own, vS_town, vS_v, vS_scr, fz_scr, dC, dOp, dCall, dCallK, daNil, daCons, dTup, dLst, dSl, doNone, doSome, dIf, dAnd, dOr, dNot, dNeg, dOne, dTwoI, dChain, dLc, bVal, bTru, bScr, dLenS, dIxS, dCount, dRest, sCount, sRest, bNot, bAnd, bOr, bYes, wInt2, wIntC, wAdd, wMul, wIx, wIn, wEqD, wIsN, oLen, oTuple, oList, oAll, oSum, oIsi, iSeq, iRng1D, iRng2D, iEnumD, iZipD, fz_d, fz_own, fz_town, fz_v, fz_abs, asDs, fzB, wipeD, asD_d, asD_own, asD_bor, asL_list, asL_tuple, asL_own, asL_bor, asL_int, asL_bool, asL_none, asS_list, asS_tuple, asS_own, asS_bor, tru_bool, tru_int, tru_none, tru_tuple, tru_list, tru_own, tru_bor, stO_d, stO_own, stO_town, stO_v, stO_abs, rtS_d, rtS_own, rtS_bor, rtS_v, rtS_abs, isN_none, isN_tuple, isN_int, isN_list, isN_bool, List.map_cons, List.map_nil, List.length_cons, List.length_nil, List.cons_append, List.nil_append, List.getElem?_cons_zero, List.getElem?_cons_succ, List.set_cons_zero, List.set_cons_succ, Option.map_some, Option.map_none, Option.some.injEq, SV.d.injEq, SV.own.injEq, PyData.int.injEq, PyData.bool.injEq, PyData.tuple.injEq, PyData.list.injEq, PyData.str.injEq, List.cons.injEq, exists_eq_left, exists_eq_left', exists_eq_right, exists_and_left, exists_and_right, exists_const, and_true, true_and, if_true, if_false, reduceCtorEq, false_or, or_false, false_and, and_false, Bool.not_true, Bool.not_false, Bool.false_eq_true, ite_true, ite_false, reduceIte, Bool.true_eq_false, Nat.reduceAdd, nc0, nc1, nc2, nc3, nc4, nc5, nc6, nc7, nc8, Int.reduceBEq, beq_self_eq_true, Bool.and_true, Bool.true_and, Bool.and_false, Bool.false_and, Nat.zero_add]
  refine ⟨by decide, by decide, ?_⟩
  refine forR_inv (fun pre δ => ∃ o2 o3 o4 o5 o6 o7 : Option SV, δ = [some (scr c n), some .town, o2, o3, o4, o5, o6, o7]) _ [] _ ⟨none, none, none, none, none, none, rfl⟩ (fun p x r δ k hp hI hk => ?_) fun δ' hI => ?_
  · obtain ⟨o2, o3, o4, o5, o6, o7, rfl⟩ := hI
    clear hK
    rw [List.nil_append] at hp
    have hx : ∃ z : Int, x = .int z := by
      have : x ∈ rngD 0 (Int.toNat 3) := by
        rw [hp]
        exact List.mem_append_right _ List.mem_cons_self
      rw [show (0 : Int) = ((0 : Nat) : Int) from rfl, rngD_nat] at this
      obtain ⟨z, _, rfl⟩ := List.mem_map.mp this
      exact ⟨_, rfl⟩
    obtain ⟨z, rfl⟩ := hx
    show sSeq _ _ _ _ _
    simp only [List.set_cons_zero, List.set_cons_succ]
    refine seqK fun K hK => ?_
    simp only [sSeq, sNext, sExpr, sRet, sIf, sSet, sSetF, sAsg, sPar, sRaise, sFor, sApp, sExt, sPop, sItem, sAugI, sAug, sFrz, sMove, sBreak, sCont, gN, gT, gsNil, gsCons, dVar, vS_d, vS_own, vS_town, vS_v, vS_scr, fz_scr, dC, dOp, dCall, dCallK, daNil, daCons, dTup, dLst, dSl, doNone, doSome, dIf, dAnd, dOr, dNot, dNeg, dOne, dTwoI, dChain, dLc, bVal, bTru, bScr, dLenS, dIxS, dCount, dRest, sCount, sRest, bNot, bAnd, bOr, bYes, wInt2, wIntC, wAdd, wMul, wIx, wIn, wEqD, wIsN, oLen, oTuple, oList, oAll, oSum, oIsi, iSeq, iRng1D, iRng2D, iEnumD, iZipD, fz_d, fz_own, fz_town, fz_v, fz_abs, asDs, fzB, wipeD, asD_d, asD_own, asD_bor, asL_list, asL_tuple, asL_own, asL_bor, asL_int, asL_bool, asL_none, asS_list, asS_tuple, asS_own, asS_bor, tru_bool, tru_int, tru_none, tru_tuple, tru_list, tru_own, tru_bor, stO_d, stO_own, stO_town, stO_v, stO_abs, rtS_d, rtS_own, rtS_bor, rtS_v, rtS_abs, isN_none, isN_tuple, isN_int, isN_list, isN_bool, List.map_cons, List.map_nil, List.length_cons, List.length_nil, List.cons_append, List.nil_append, List.getElem?_cons_zero, List.getElem?_cons_succ, List.set_cons_zero, List.set_cons_succ, Option.map_some, Option.map_none, Option.some.injEq, SV.d.injEq, SV.own.injEq, PyData.int.injEq, PyData.bool.injEq, PyData.tuple.injEq, PyData.list.injEq, PyData.str.injEq, List.cons.injEq, exists_eq_left, exists_eq_left', exists_eq_right, exists_and_left, exists_and_right, exists_const, and_true, true_and, if_true, if_false, reduceCtorEq, false_or, or_false, false_and, and_false, Bool.not_true, Bool.not_false, Bool.false_eq_true, ite_true, ite_false, reduceIte, Bool.true_eq_false, Nat.reduceAdd, nc0, nc1, nc2, nc3, nc4, nc5, nc6, nc7, nc8, Int.reduceBEq, beq_self_eq_true, Bool.and_true, Bool.true_and, Bool.and_false, Bool.false_and, Nat.zero_add]
    refine use_protocol 5 4 hn (by decide) fun pr hpr hm5 hr4 => ?_
    simp only [sSeq, sNext, sExpr, sRet, sIf, sSet, sSetF, sAsg, sPar, sRaise, sFor, sApp, sExt, sPop, sItem, sAugI, sAug, sFrz, sMove, sBreak, sCont, gN, gT, gsNil, gsCons, dVar, vS_d, vS_own, vS_town, vS_v, vS_scr, fz_scr, dC, dOp, dCall, dCallK, daNil, daCons, dTup, dLst, dSl, doNone, doSome, dIf, dAnd, dOr, dNot, dNeg, dOne, dTwoI, dChain, dLc, bVal, bTru, bScr, dLenS, dIxS, dCount, dRest, sCount, sRest, bNot, bAnd, bOr, bYes, wInt2, wIntC, wAdd, wMul, wIx, wIn, wEqD, wIsN, oLen, oTuple, oList, oAll, oSum, oIsi, iSeq, iRng1D, iRng2D, iEnumD, iZipD, fz_d, fz_own, fz_town, fz_v, fz_abs, asDs, fzB, wipeD, asD_d, asD_own, asD_bor, asL_list, asL_tuple, asL_own, asL_bor, asL_int, asL_bool, asL_none, asS_list, asS_tuple, asS_own, asS_bor, tru_bool, tru_int, tru_none, tru_tuple, tru_list, tru_own, tru_bor, stO_d, stO_own, stO_town, stO_v, stO_abs, rtS_d, rtS_own, rtS_bor, rtS_v, rtS_abs, isN_none, isN_tuple, isN_int, isN_list, isN_bool, List.map_cons, List.map_nil, List.length_cons, List.length_nil, List.cons_append, List.nil_append, List.getElem?_cons_zero, List.getElem?_cons_succ, List.set_cons_zero, List.set_cons_succ, Option.map_some, Option.map_none, Option.some.injEq, SV.d.injEq, SV.own.injEq, PyData.int.injEq, PyData.bool.injEq, PyData.tuple.injEq, PyData.list.injEq, PyData.str.injEq, List.cons.injEq, exists_eq_left, exists_eq_left', exists_eq_right, exists_and_left, exists_and_right, exists_const, and_true, true_and, if_true, if_false, reduceCtorEq, false_or, or_false, false_and, and_false, Bool.not_true, Bool.not_false, Bool.false_eq_true, ite_true, ite_false, reduceIte, Bool.true_eq_false, Nat.reduceAdd, nc0, nc1, nc2, nc3, nc4, nc5, nc6, nc7, nc8, Int.reduceBEq, beq_self_eq_true, Bool.and_true, Bool.true_and, Bool.and_false, Bool.false_and, Nat.zero_add]
    refine hK _ ?_
    clear hK K
    have hP : isProtocol pr.enc = true := (isP_enc pr).mpr hpr
    refine seqK fun K hK => ?_
    simp only [sSeq, sNext, sExpr, sRet, sIf, sSet, sSetF, sAsg, sPar, sRaise, sFor, sApp, sExt, sPop, sItem, sAugI, sAug, sFrz, sMove, sBreak, sCont, gN, gT, gsNil, gsCons, dVar, vS_d, vS_own, vS_town, vS_v, vS_scr, fz_scr, dC, dOp, dCall, dCallK, daNil, daCons, dTup, dLst, dSl, doNone, doSome, dIf, dAnd, dOr, dNot, dNeg, dOne, dTwoI, dChain, dLc, bVal, bTru, bScr, dLenS, dIxS, dCount, dRest, sCount, sRest, bNot, bAnd, bOr, bYes, wInt2, wIntC, wAdd, wMul, wIx, wIn, wEqD, wIsN, oLen, oTuple, oList, oAll, oSum, oIsi, iSeq, iRng1D, iRng2D, iEnumD, iZipD, fz_d, fz_own, fz_town, fz_v, fz_abs, asDs, fzB, wipeD, asD_d, asD_own, asD_bor, asL_list, asL_tuple, asL_own, asL_bor, asL_int, asL_bool, asL_none, asS_list, asS_tuple, asS_own, asS_bor, tru_bool, tru_int, tru_none, tru_tuple, tru_list, tru_own, tru_bor, stO_d, stO_own, stO_town, stO_v, stO_abs, rtS_d, rtS_own, rtS_bor, rtS_v, rtS_abs, isN_none, isN_tuple, isN_int, isN_list, isN_bool, List.map_cons, List.map_nil, List.length_cons, List.length_nil, List.cons_append, List.nil_append, List.getElem?_cons_zero, List.getElem?_cons_succ, List.set_cons_zero, List.set_cons_succ, Option.map_some, Option.map_none, Option.some.injEq, SV.d.injEq, SV.own.injEq, PyData.int.injEq, PyData.bool.injEq, PyData.tuple.injEq, PyData.list.injEq, PyData.str.injEq, List.cons.injEq, exists_eq_left, exists_eq_left', exists_eq_right, exists_and_left, exists_and_right, exists_const, and_true, true_and, if_true, if_false, reduceCtorEq, false_or, or_false, false_and, and_false, Bool.not_true, Bool.not_false, Bool.false_eq_true, ite_true, ite_false, reduceIte, Bool.true_eq_false, Nat.reduceAdd, nc0, nc1, nc2, nc3, nc4, nc5, nc6, nc7, nc8, Int.reduceBEq, beq_self_eq_true, Bool.and_true, Bool.true_and, Bool.and_false, Bool.false_and, Nat.zero_add, at_is_protocol, at_law_is, hP]
    refine hK _ ?_
    clear hK K
    refine seqK fun K hK => ?_
    simp only [sSeq, sNext, sExpr, sRet, sIf, sSet, sSetF, sAsg, sPar, sRaise, sFor, sApp, sExt, sPop, sItem, sAugI, sAug, sFrz, sMove, sBreak, sCont, gN, gT, gsNil, gsCons, dVar, vS_d, vS_own, vS_town, vS_v, vS_scr, fz_scr, dC, dOp, dCall, dCallK, daNil, daCons, dTup, dLst, dSl, doNone, doSome, dIf, dAnd, dOr, dNot, dNeg, dOne, dTwoI, dChain, dLc, bVal, bTru, bScr, dLenS, dIxS, dCount, dRest, sCount, sRest, bNot, bAnd, bOr, bYes, wInt2, wIntC, wAdd, wMul, wIx, wIn, wEqD, wIsN, oLen, oTuple, oList, oAll, oSum, oIsi, iSeq, iRng1D, iRng2D, iEnumD, iZipD, fz_d, fz_own, fz_town, fz_v, fz_abs, asDs, fzB, wipeD, asD_d, asD_own, asD_bor, asL_list, asL_tuple, asL_own, asL_bor, asL_int, asL_bool, asL_none, asS_list, asS_tuple, asS_own, asS_bor, tru_bool, tru_int, tru_none, tru_tuple, tru_list, tru_own, tru_bor, stO_d, stO_own, stO_town, stO_v, stO_abs, rtS_d, rtS_own, rtS_bor, rtS_v, rtS_abs, isN_none, isN_tuple, isN_int, isN_list, isN_bool, List.map_cons, List.map_nil, List.length_cons, List.length_nil, List.cons_append, List.nil_append, List.getElem?_cons_zero, List.getElem?_cons_succ, List.set_cons_zero, List.set_cons_succ, Option.map_some, Option.map_none, Option.some.injEq, SV.d.injEq, SV.own.injEq, PyData.int.injEq, PyData.bool.injEq, PyData.tuple.injEq, PyData.list.injEq, PyData.str.injEq, List.cons.injEq, exists_eq_left, exists_eq_left', exists_eq_right, exists_and_left, exists_and_right, exists_const, and_true, true_and, if_true, if_false, reduceCtorEq, false_or, or_false, false_and, and_false, Bool.not_true, Bool.not_false, Bool.false_eq_true, ite_true, ite_false, reduceIte, Bool.true_eq_false, Nat.reduceAdd, nc0, nc1, nc2, nc3, nc4, nc5, nc6, nc7, nc8, Int.reduceBEq, beq_self_eq_true, Bool.and_true, Bool.true_and, Bool.and_false, Bool.false_and, Nat.zero_add, at_law_spoilt]
    refine ⟨Nat.lt_of_le_of_lt (fit_pr pr).2 (by decide), Nat.le_trans (count_pr hpr) (by decide), ?_⟩
    refine lcR_sub (fun _ => True) _ (fun o ho k' h1 h2 => ?_) fun ys hys _ => hK _ ?_
    · have fo := spoilt_fit _ _ (fit_pr pr) o ho
      have fp := fit_pr pr
      unfold Pr.enc at fp ho ⊢
      obtain ⟨y, ys, rfl | rfl⟩ := sp_seq ho (by simp)
      · simp only [lcT, sSeq, sNext, sExpr, sRet, sIf, sSet, sSetF, sAsg, sPar, sRaise, sFor, sApp, sExt, sPop, sItem, sAugI, sAug, sFrz, sMove, sBreak, sCont, gN, gT, gsNil, gsCons, dVar, vS_d, vS_own, vS_town, vS_v, vS_scr, fz_scr, dC, dOp, dCall, dCallK, daNil, daCons, dTup, dLst, dSl, doNone, doSome, dIf, dAnd, dOr, dNot, dNeg, dOne, dTwoI, dChain, dLc, bVal, bTru, bScr, dLenS, dIxS, dCount, dRest, sCount, sRest, bNot, bAnd, bOr, bYes, wInt2, wIntC, wAdd, wMul, wIx, wIn, wEqD, wIsN, oLen, oTuple, oList, oAll, oSum, oIsi, iSeq, iRng1D, iRng2D, iEnumD, iZipD, fz_d, fz_own, fz_town, fz_v, fz_abs, asDs, fzB, wipeD, asD_d, asD_own, asD_bor, asL_list, asL_tuple, asL_own, asL_bor, asL_int, asL_bool, asL_none, asS_list, asS_tuple, asS_own, asS_bor, tru_bool, tru_int, tru_none, tru_tuple, tru_list, tru_own, tru_bor, stO_d, stO_own, stO_town, stO_v, stO_abs, rtS_d, rtS_own, rtS_bor, rtS_v, rtS_abs, isN_none, isN_tuple, isN_int, isN_list, isN_bool, List.map_cons, List.map_nil, List.length_cons, List.length_nil, List.cons_append, List.nil_append, List.getElem?_cons_zero, List.getElem?_cons_succ, List.set_cons_zero, List.set_cons_succ, Option.map_some, Option.map_none, Option.some.injEq, SV.d.injEq, SV.own.injEq, PyData.int.injEq, PyData.bool.injEq, PyData.tuple.injEq, PyData.list.injEq, PyData.str.injEq, List.cons.injEq, exists_eq_left, exists_eq_left', exists_eq_right, exists_and_left, exists_and_right, exists_const, and_true, true_and, if_true, if_false, reduceCtorEq, false_or, or_false, false_and, and_false, Bool.not_true, Bool.not_false, Bool.false_eq_true, ite_true, ite_false, reduceIte, Bool.true_eq_false, Nat.reduceAdd, nc0, nc1, nc2, nc3, nc4, nc5, nc6, nc7, nc8, Int.reduceBEq, beq_self_eq_true, Bool.and_true, Bool.true_and, Bool.and_false, Bool.false_and, Nat.zero_add]
        refine ⟨(fit_cutT fo _ _).sh (by decide), (fit_cutT fp _ _).sh (by decide), ?_⟩
        split
        · exact h1 trivial
        · exact h2
      · simp only [lcT, sSeq, sNext, sExpr, sRet, sIf, sSet, sSetF, sAsg, sPar, sRaise, sFor, sApp, sExt, sPop, sItem, sAugI, sAug, sFrz, sMove, sBreak, sCont, gN, gT, gsNil, gsCons, dVar, vS_d, vS_own, vS_town, vS_v, vS_scr, fz_scr, dC, dOp, dCall, dCallK, daNil, daCons, dTup, dLst, dSl, doNone, doSome, dIf, dAnd, dOr, dNot, dNeg, dOne, dTwoI, dChain, dLc, bVal, bTru, bScr, dLenS, dIxS, dCount, dRest, sCount, sRest, bNot, bAnd, bOr, bYes, wInt2, wIntC, wAdd, wMul, wIx, wIn, wEqD, wIsN, oLen, oTuple, oList, oAll, oSum, oIsi, iSeq, iRng1D, iRng2D, iEnumD, iZipD, fz_d, fz_own, fz_town, fz_v, fz_abs, asDs, fzB, wipeD, asD_d, asD_own, asD_bor, asL_list, asL_tuple, asL_own, asL_bor, asL_int, asL_bool, asL_none, asS_list, asS_tuple, asS_own, asS_bor, tru_bool, tru_int, tru_none, tru_tuple, tru_list, tru_own, tru_bor, stO_d, stO_own, stO_town, stO_v, stO_abs, rtS_d, rtS_own, rtS_bor, rtS_v, rtS_abs, isN_none, isN_tuple, isN_int, isN_list, isN_bool, List.map_cons, List.map_nil, List.length_cons, List.length_nil, List.cons_append, List.nil_append, List.getElem?_cons_zero, List.getElem?_cons_succ, List.set_cons_zero, List.set_cons_succ, Option.map_some, Option.map_none, Option.some.injEq, SV.d.injEq, SV.own.injEq, PyData.int.injEq, PyData.bool.injEq, PyData.tuple.injEq, PyData.list.injEq, PyData.str.injEq, List.cons.injEq, exists_eq_left, exists_eq_left', exists_eq_right, exists_and_left, exists_and_right, exists_const, and_true, true_and, if_true, if_false, reduceCtorEq, false_or, or_false, false_and, and_false, Bool.not_true, Bool.not_false, Bool.false_eq_true, ite_true, ite_false, reduceIte, Bool.true_eq_false, Nat.reduceAdd, nc0, nc1, nc2, nc3, nc4, nc5, nc6, nc7, nc8, Int.reduceBEq, beq_self_eq_true, Bool.and_true, Bool.true_and, Bool.and_false, Bool.false_and, Nat.zero_add]
        refine ⟨(fit_cutL fo _ _).sh (by decide), (fit_cutT fp _ _).sh (by decide), ?_⟩
        split
        · exact h1 trivial
        · exact h2
    clear hK K
    refine seqK fun K hK => ?_
    simp only [sSeq, sNext, sExpr, sRet, sIf, sSet, sSetF, sAsg, sPar, sRaise, sFor, sApp, sExt, sPop, sItem, sAugI, sAug, sFrz, sMove, sBreak, sCont, gN, gT, gsNil, gsCons, dVar, vS_d, vS_own, vS_town, vS_v, vS_scr, fz_scr, dC, dOp, dCall, dCallK, daNil, daCons, dTup, dLst, dSl, doNone, doSome, dIf, dAnd, dOr, dNot, dNeg, dOne, dTwoI, dChain, dLc, bVal, bTru, bScr, dLenS, dIxS, dCount, dRest, sCount, sRest, bNot, bAnd, bOr, bYes, wInt2, wIntC, wAdd, wMul, wIx, wIn, wEqD, wIsN, oLen, oTuple, oList, oAll, oSum, oIsi, iSeq, iRng1D, iRng2D, iEnumD, iZipD, fz_d, fz_own, fz_town, fz_v, fz_abs, asDs, fzB, wipeD, asD_d, asD_own, asD_bor, asL_list, asL_tuple, asL_own, asL_bor, asL_int, asL_bool, asL_none, asS_list, asS_tuple, asS_own, asS_bor, tru_bool, tru_int, tru_none, tru_tuple, tru_list, tru_own, tru_bor, stO_d, stO_own, stO_town, stO_v, stO_abs, rtS_d, rtS_own, rtS_bor, rtS_v, rtS_abs, isN_none, isN_tuple, isN_int, isN_list, isN_bool, List.map_cons, List.map_nil, List.length_cons, List.length_nil, List.cons_append, List.nil_append, List.getElem?_cons_zero, List.getElem?_cons_succ, List.set_cons_zero, List.set_cons_succ, Option.map_some, Option.map_none, Option.some.injEq, SV.d.injEq, SV.own.injEq, PyData.int.injEq, PyData.bool.injEq, PyData.tuple.injEq, PyData.list.injEq, PyData.str.injEq, List.cons.injEq, exists_eq_left, exists_eq_left', exists_eq_right, exists_and_left, exists_and_right, exists_const, and_true, true_and, if_true, if_false, reduceCtorEq, false_or, or_false, false_and, and_false, Bool.not_true, Bool.not_false, Bool.false_eq_true, ite_true, ite_false, reduceIte, Bool.true_eq_false, Nat.reduceAdd, nc0, nc1, nc2, nc3, nc4, nc5, nc6, nc7, nc8, Int.reduceBEq, beq_self_eq_true, Bool.and_true, Bool.true_and, Bool.and_false, Bool.false_and, Nat.zero_add]
    refine lcR_keep0 (fun _ => false) _ (fun o ho k' hk' => ?_) (by simp) ?_
    · replace ho := hys.subset ho
      have fo := spoilt_fit _ _ (fit_pr pr) o ho
      obtain ⟨y, ys, e⟩ := sp_seq ho (by simp)
      rcases e with rfl | rfl
      · have fy : Fit 4 y := fo.ofTuple y List.mem_cons_self
        simp only [lcT, sSeq, sNext, sExpr, sRet, sIf, sSet, sSetF, sAsg, sPar, sRaise, sFor, sApp, sExt, sPop, sItem, sAugI, sAug, sFrz, sMove, sBreak, sCont, gN, gT, gsNil, gsCons, dVar, vS_d, vS_own, vS_town, vS_v, vS_scr, fz_scr, dC, dOp, dCall, dCallK, daNil, daCons, dTup, dLst, dSl, doNone, doSome, dIf, dAnd, dOr, dNot, dNeg, dOne, dTwoI, dChain, dLc, bVal, bTru, bScr, dLenS, dIxS, dCount, dRest, sCount, sRest, bNot, bAnd, bOr, bYes, wInt2, wIntC, wAdd, wMul, wIx, wIn, wEqD, wIsN, oLen, oTuple, oList, oAll, oSum, oIsi, iSeq, iRng1D, iRng2D, iEnumD, iZipD, fz_d, fz_own, fz_town, fz_v, fz_abs, asDs, fzB, wipeD, asD_d, asD_own, asD_bor, asL_list, asL_tuple, asL_own, asL_bor, asL_int, asL_bool, asL_none, asS_list, asS_tuple, asS_own, asS_bor, tru_bool, tru_int, tru_none, tru_tuple, tru_list, tru_own, tru_bor, stO_d, stO_own, stO_town, stO_v, stO_abs, rtS_d, rtS_own, rtS_bor, rtS_v, rtS_abs, isN_none, isN_tuple, isN_int, isN_list, isN_bool, List.map_cons, List.map_nil, List.length_cons, List.length_nil, List.cons_append, List.nil_append, List.getElem?_cons_zero, List.getElem?_cons_succ, List.set_cons_zero, List.set_cons_succ, Option.map_some, Option.map_none, Option.some.injEq, SV.d.injEq, SV.own.injEq, PyData.int.injEq, PyData.bool.injEq, PyData.tuple.injEq, PyData.list.injEq, PyData.str.injEq, List.cons.injEq, exists_eq_left, exists_eq_left', exists_eq_right, exists_and_left, exists_and_right, exists_const, and_true, true_and, if_true, if_false, reduceCtorEq, false_or, or_false, false_and, and_false, Bool.not_true, Bool.not_false, Bool.false_eq_true, ite_true, ite_false, reduceIte, Bool.true_eq_false, Nat.reduceAdd, nc0, nc1, nc2, nc3, nc4, nc5, nc6, nc7, nc8, Int.reduceBEq, beq_self_eq_true, Bool.and_true, Bool.true_and, Bool.and_false, Bool.false_and, Nat.zero_add, atI_0, sh_int]
        refine ⟨fy.sh (by decide), ?_⟩
        split
        · rename_i e9
          simp only [at_is_protocol, prot9 e9, at_law_is, sSeq, sNext, sExpr, sRet, sIf, sSet, sSetF, sAsg, sPar, sRaise, sFor, sApp, sExt, sPop, sItem, sAugI, sAug, sFrz, sMove, sBreak, sCont, gN, gT, gsNil, gsCons, dVar, vS_d, vS_own, vS_town, vS_v, vS_scr, fz_scr, dC, dOp, dCall, dCallK, daNil, daCons, dTup, dLst, dSl, doNone, doSome, dIf, dAnd, dOr, dNot, dNeg, dOne, dTwoI, dChain, dLc, bVal, bTru, bScr, dLenS, dIxS, dCount, dRest, sCount, sRest, bNot, bAnd, bOr, bYes, wInt2, wIntC, wAdd, wMul, wIx, wIn, wEqD, wIsN, oLen, oTuple, oList, oAll, oSum, oIsi, iSeq, iRng1D, iRng2D, iEnumD, iZipD, fz_d, fz_own, fz_town, fz_v, fz_abs, asDs, fzB, wipeD, asD_d, asD_own, asD_bor, asL_list, asL_tuple, asL_own, asL_bor, asL_int, asL_bool, asL_none, asS_list, asS_tuple, asS_own, asS_bor, tru_bool, tru_int, tru_none, tru_tuple, tru_list, tru_own, tru_bor, stO_d, stO_own, stO_town, stO_v, stO_abs, rtS_d, rtS_own, rtS_bor, rtS_v, rtS_abs, isN_none, isN_tuple, isN_int, isN_list, isN_bool, List.map_cons, List.map_nil, List.length_cons, List.length_nil, List.cons_append, List.nil_append, List.getElem?_cons_zero, List.getElem?_cons_succ, List.set_cons_zero, List.set_cons_succ, Option.map_some, Option.map_none, Option.some.injEq, SV.d.injEq, SV.own.injEq, PyData.int.injEq, PyData.bool.injEq, PyData.tuple.injEq, PyData.list.injEq, PyData.str.injEq, List.cons.injEq, exists_eq_left, exists_eq_left', exists_eq_right, exists_and_left, exists_and_right, exists_const, and_true, true_and, if_true, if_false, reduceCtorEq, false_or, or_false, false_and, and_false, Bool.not_true, Bool.not_false, Bool.false_eq_true, ite_true, ite_false, reduceIte, Bool.true_eq_false, Nat.reduceAdd, nc0, nc1, nc2, nc3, nc4, nc5, nc6, nc7, nc8, Int.reduceBEq, beq_self_eq_true, Bool.and_true, Bool.true_and, Bool.and_false, Bool.false_and, Nat.zero_add]
          exact hk'
        · exact hk'
      · have fy : Fit 4 y := fo.ofList y List.mem_cons_self
        simp only [lcT, sSeq, sNext, sExpr, sRet, sIf, sSet, sSetF, sAsg, sPar, sRaise, sFor, sApp, sExt, sPop, sItem, sAugI, sAug, sFrz, sMove, sBreak, sCont, gN, gT, gsNil, gsCons, dVar, vS_d, vS_own, vS_town, vS_v, vS_scr, fz_scr, dC, dOp, dCall, dCallK, daNil, daCons, dTup, dLst, dSl, doNone, doSome, dIf, dAnd, dOr, dNot, dNeg, dOne, dTwoI, dChain, dLc, bVal, bTru, bScr, dLenS, dIxS, dCount, dRest, sCount, sRest, bNot, bAnd, bOr, bYes, wInt2, wIntC, wAdd, wMul, wIx, wIn, wEqD, wIsN, oLen, oTuple, oList, oAll, oSum, oIsi, iSeq, iRng1D, iRng2D, iEnumD, iZipD, fz_d, fz_own, fz_town, fz_v, fz_abs, asDs, fzB, wipeD, asD_d, asD_own, asD_bor, asL_list, asL_tuple, asL_own, asL_bor, asL_int, asL_bool, asL_none, asS_list, asS_tuple, asS_own, asS_bor, tru_bool, tru_int, tru_none, tru_tuple, tru_list, tru_own, tru_bor, stO_d, stO_own, stO_town, stO_v, stO_abs, rtS_d, rtS_own, rtS_bor, rtS_v, rtS_abs, isN_none, isN_tuple, isN_int, isN_list, isN_bool, List.map_cons, List.map_nil, List.length_cons, List.length_nil, List.cons_append, List.nil_append, List.getElem?_cons_zero, List.getElem?_cons_succ, List.set_cons_zero, List.set_cons_succ, Option.map_some, Option.map_none, Option.some.injEq, SV.d.injEq, SV.own.injEq, PyData.int.injEq, PyData.bool.injEq, PyData.tuple.injEq, PyData.list.injEq, PyData.str.injEq, List.cons.injEq, exists_eq_left, exists_eq_left', exists_eq_right, exists_and_left, exists_and_right, exists_const, and_true, true_and, if_true, if_false, reduceCtorEq, false_or, or_false, false_and, and_false, Bool.not_true, Bool.not_false, Bool.false_eq_true, ite_true, ite_false, reduceIte, Bool.true_eq_false, Nat.reduceAdd, nc0, nc1, nc2, nc3, nc4, nc5, nc6, nc7, nc8, Int.reduceBEq, beq_self_eq_true, Bool.and_true, Bool.true_and, Bool.and_false, Bool.false_and, Nat.zero_add, atI_0, sh_int]
        refine ⟨fy.sh (by decide), ?_⟩
        split
        · simp only [at_is_protocol, show isProtocol (.list (y :: ys)) = false from rfl, at_law_is, sSeq, sNext, sExpr, sRet, sIf, sSet, sSetF, sAsg, sPar, sRaise, sFor, sApp, sExt, sPop, sItem, sAugI, sAug, sFrz, sMove, sBreak, sCont, gN, gT, gsNil, gsCons, dVar, vS_d, vS_own, vS_town, vS_v, vS_scr, fz_scr, dC, dOp, dCall, dCallK, daNil, daCons, dTup, dLst, dSl, doNone, doSome, dIf, dAnd, dOr, dNot, dNeg, dOne, dTwoI, dChain, dLc, bVal, bTru, bScr, dLenS, dIxS, dCount, dRest, sCount, sRest, bNot, bAnd, bOr, bYes, wInt2, wIntC, wAdd, wMul, wIx, wIn, wEqD, wIsN, oLen, oTuple, oList, oAll, oSum, oIsi, iSeq, iRng1D, iRng2D, iEnumD, iZipD, fz_d, fz_own, fz_town, fz_v, fz_abs, asDs, fzB, wipeD, asD_d, asD_own, asD_bor, asL_list, asL_tuple, asL_own, asL_bor, asL_int, asL_bool, asL_none, asS_list, asS_tuple, asS_own, asS_bor, tru_bool, tru_int, tru_none, tru_tuple, tru_list, tru_own, tru_bor, stO_d, stO_own, stO_town, stO_v, stO_abs, rtS_d, rtS_own, rtS_bor, rtS_v, rtS_abs, isN_none, isN_tuple, isN_int, isN_list, isN_bool, List.map_cons, List.map_nil, List.length_cons, List.length_nil, List.cons_append, List.nil_append, List.getElem?_cons_zero, List.getElem?_cons_succ, List.set_cons_zero, List.set_cons_succ, Option.map_some, Option.map_none, Option.some.injEq, SV.d.injEq, SV.own.injEq, PyData.int.injEq, PyData.bool.injEq, PyData.tuple.injEq, PyData.list.injEq, PyData.str.injEq, List.cons.injEq, exists_eq_left, exists_eq_left', exists_eq_right, exists_and_left, exists_and_right, exists_const, and_true, true_and, if_true, if_false, reduceCtorEq, false_or, or_false, false_and, and_false, Bool.not_true, Bool.not_false, Bool.false_eq_true, ite_true, ite_false, reduceIte, Bool.true_eq_false, Nat.reduceAdd, nc0, nc1, nc2, nc3, nc4, nc5, nc6, nc7, nc8, Int.reduceBEq, beq_self_eq_true, Bool.and_true, Bool.true_and, Bool.and_false, Bool.false_and, Nat.zero_add]
          exact hk'
        · exact hk'
    refine ⟨by decide, rfl, rfl, hK _ ?_⟩
    clear hK K
    refine seqK fun K hK => ?_
    have ePr : pr.enc = .tuple [.int pr.m, .tuple (pr.rules.map Rl.enc)] := rfl
    rw [ePr]
    simp only [sSeq, sNext, sExpr, sRet, sIf, sSet, sSetF, sAsg, sPar, sRaise, sFor, sApp, sExt, sPop, sItem, sAugI, sAug, sFrz, sMove, sBreak, sCont, gN, gT, gsNil, gsCons, dVar, vS_d, vS_own, vS_town, vS_v, vS_scr, fz_scr, dC, dOp, dCall, dCallK, daNil, daCons, dTup, dLst, dSl, doNone, doSome, dIf, dAnd, dOr, dNot, dNeg, dOne, dTwoI, dChain, dLc, bVal, bTru, bScr, dLenS, dIxS, dCount, dRest, sCount, sRest, bNot, bAnd, bOr, bYes, wInt2, wIntC, wAdd, wMul, wIx, wIn, wEqD, wIsN, oLen, oTuple, oList, oAll, oSum, oIsi, iSeq, iRng1D, iRng2D, iEnumD, iZipD, fz_d, fz_own, fz_town, fz_v, fz_abs, asDs, fzB, wipeD, asD_d, asD_own, asD_bor, asL_list, asL_tuple, asL_own, asL_bor, asL_int, asL_bool, asL_none, asS_list, asS_tuple, asS_own, asS_bor, tru_bool, tru_int, tru_none, tru_tuple, tru_list, tru_own, tru_bor, stO_d, stO_own, stO_town, stO_v, stO_abs, rtS_d, rtS_own, rtS_bor, rtS_v, rtS_abs, isN_none, isN_tuple, isN_int, isN_list, isN_bool, List.map_cons, List.map_nil, List.length_cons, List.length_nil, List.cons_append, List.nil_append, List.getElem?_cons_zero, List.getElem?_cons_succ, List.set_cons_zero, List.set_cons_succ, Option.map_some, Option.map_none, Option.some.injEq, SV.d.injEq, SV.own.injEq, PyData.int.injEq, PyData.bool.injEq, PyData.tuple.injEq, PyData.list.injEq, PyData.str.injEq, List.cons.injEq, exists_eq_left, exists_eq_left', exists_eq_right, exists_and_left, exists_and_right, exists_const, and_true, true_and, if_true, if_false, reduceCtorEq, false_or, or_false, false_and, and_false, Bool.not_true, Bool.not_false, Bool.false_eq_true, ite_true, ite_false, reduceIte, Bool.true_eq_false, Nat.reduceAdd, nc0, nc1, nc2, nc3, nc4, nc5, nc6, nc7, nc8, Int.reduceBEq, beq_self_eq_true, Bool.and_true, Bool.true_and, Bool.and_false, Bool.false_and, Nat.zero_add, at_law_spoilt]
    refine ⟨_, rfl, Nat.lt_of_le_of_lt (fit_rules pr.rules).2 (by decide), Nat.le_trans (count_rules hpr) (by decide), ?_⟩
    rw [ePr] at hP
    refine forR_inv (fun pre δ => ∃ o5 : Option SV, δ = [some (scr c n), some .town, some (.d (.int z)), some (.d (.tuple [.int pr.m, .tuple (pr.rules.map Rl.enc)])), some (.d (.list ys)), o5, o6, o7]) _ [] _ ⟨_, rfl⟩ (fun p' o r' δ k' hp' hI hk' => ?_) fun δ' hI => ?_
    · obtain ⟨o5', rfl⟩ := hI
      have ho : o ∈ spoilt (.tuple (pr.rules.map Rl.enc)) := by
        rw [List.nil_append] at hp'
        rw [hp']
        exact List.mem_append_right _ List.mem_cons_self
      simp only [sSeq, sNext, sExpr, sRet, sIf, sSet, sSetF, sAsg, sPar, sRaise, sFor, sApp, sExt, sPop, sItem, sAugI, sAug, sFrz, sMove, sBreak, sCont, gN, gT, gsNil, gsCons, dVar, vS_d, vS_own, vS_town, vS_v, vS_scr, fz_scr, dC, dOp, dCall, dCallK, daNil, daCons, dTup, dLst, dSl, doNone, doSome, dIf, dAnd, dOr, dNot, dNeg, dOne, dTwoI, dChain, dLc, bVal, bTru, bScr, dLenS, dIxS, dCount, dRest, sCount, sRest, bNot, bAnd, bOr, bYes, wInt2, wIntC, wAdd, wMul, wIx, wIn, wEqD, wIsN, oLen, oTuple, oList, oAll, oSum, oIsi, iSeq, iRng1D, iRng2D, iEnumD, iZipD, fz_d, fz_own, fz_town, fz_v, fz_abs, asDs, fzB, wipeD, asD_d, asD_own, asD_bor, asL_list, asL_tuple, asL_own, asL_bor, asL_int, asL_bool, asL_none, asS_list, asS_tuple, asS_own, asS_bor, tru_bool, tru_int, tru_none, tru_tuple, tru_list, tru_own, tru_bor, stO_d, stO_own, stO_town, stO_v, stO_abs, rtS_d, rtS_own, rtS_bor, rtS_v, rtS_abs, isN_none, isN_tuple, isN_int, isN_list, isN_bool, List.map_cons, List.map_nil, List.length_cons, List.length_nil, List.cons_append, List.nil_append, List.getElem?_cons_zero, List.getElem?_cons_succ, List.set_cons_zero, List.set_cons_succ, Option.map_some, Option.map_none, Option.some.injEq, SV.d.injEq, SV.own.injEq, PyData.int.injEq, PyData.bool.injEq, PyData.tuple.injEq, PyData.list.injEq, PyData.str.injEq, List.cons.injEq, exists_eq_left, exists_eq_left', exists_eq_right, exists_and_left, exists_and_right, exists_const, and_true, true_and, if_true, if_false, reduceCtorEq, false_or, or_false, false_and, and_false, Bool.not_true, Bool.not_false, Bool.false_eq_true, ite_true, ite_false, reduceIte, Bool.true_eq_false, Nat.reduceAdd, nc0, nc1, nc2, nc3, nc4, nc5, nc6, nc7, nc8, Int.reduceBEq, beq_self_eq_true, Bool.and_true, Bool.true_and, Bool.and_false, Bool.false_and, Nat.zero_add, atI_0, at_is_protocol, sp_rules ho (show pr.m ≤ 9 by omega), at_law_is]
      exact ⟨by decide, hk' _ ⟨_, rfl⟩⟩
    obtain ⟨o5', rfl⟩ := hI
    refine hK _ ?_
    clear hK K
    refine seqK fun K hK => ?_
    simp only [sSeq, sNext, sExpr, sRet, sIf, sSet, sSetF, sAsg, sPar, sRaise, sFor, sApp, sExt, sPop, sItem, sAugI, sAug, sFrz, sMove, sBreak, sCont, gN, gT, gsNil, gsCons, dVar, vS_d, vS_own, vS_town, vS_v, vS_scr, fz_scr, dC, dOp, dCall, dCallK, daNil, daCons, dTup, dLst, dSl, doNone, doSome, dIf, dAnd, dOr, dNot, dNeg, dOne, dTwoI, dChain, dLc, bVal, bTru, bScr, dLenS, dIxS, dCount, dRest, sCount, sRest, bNot, bAnd, bOr, bYes, wInt2, wIntC, wAdd, wMul, wIx, wIn, wEqD, wIsN, oLen, oTuple, oList, oAll, oSum, oIsi, iSeq, iRng1D, iRng2D, iEnumD, iZipD, fz_d, fz_own, fz_town, fz_v, fz_abs, asDs, fzB, wipeD, asD_d, asD_own, asD_bor, asL_list, asL_tuple, asL_own, asL_bor, asL_int, asL_bool, asL_none, asS_list, asS_tuple, asS_own, asS_bor, tru_bool, tru_int, tru_none, tru_tuple, tru_list, tru_own, tru_bor, stO_d, stO_own, stO_town, stO_v, stO_abs, rtS_d, rtS_own, rtS_bor, rtS_v, rtS_abs, isN_none, isN_tuple, isN_int, isN_list, isN_bool, List.map_cons, List.map_nil, List.length_cons, List.length_nil, List.cons_append, List.nil_append, List.getElem?_cons_zero, List.getElem?_cons_succ, List.set_cons_zero, List.set_cons_succ, Option.map_some, Option.map_none, Option.some.injEq, SV.d.injEq, SV.own.injEq, PyData.int.injEq, PyData.bool.injEq, PyData.tuple.injEq, PyData.list.injEq, PyData.str.injEq, List.cons.injEq, exists_eq_left, exists_eq_left', exists_eq_right, exists_and_left, exists_and_right, exists_const, and_true, true_and, if_true, if_false, reduceCtorEq, false_or, or_false, false_and, and_false, Bool.not_true, Bool.not_false, Bool.false_eq_true, ite_true, ite_false, reduceIte, Bool.true_eq_false, Nat.reduceAdd, nc0, nc1, nc2, nc3, nc4, nc5, nc6, nc7, nc8, Int.reduceBEq, beq_self_eq_true, Bool.and_true, Bool.true_and, Bool.and_false, Bool.false_and, Nat.zero_add, atI_0]
    refine use_pattern pr.m 5 hn (by have := hpr.lo; omega) fun ns g1 g2 g3 g4 => ?_
    simp only [sSeq, sNext, sExpr, sRet, sIf, sSet, sSetF, sAsg, sPar, sRaise, sFor, sApp, sExt, sPop, sItem, sAugI, sAug, sFrz, sMove, sBreak, sCont, gN, gT, gsNil, gsCons, dVar, vS_d, vS_own, vS_town, vS_v, vS_scr, fz_scr, dC, dOp, dCall, dCallK, daNil, daCons, dTup, dLst, dSl, doNone, doSome, dIf, dAnd, dOr, dNot, dNeg, dOne, dTwoI, dChain, dLc, bVal, bTru, bScr, dLenS, dIxS, dCount, dRest, sCount, sRest, bNot, bAnd, bOr, bYes, wInt2, wIntC, wAdd, wMul, wIx, wIn, wEqD, wIsN, oLen, oTuple, oList, oAll, oSum, oIsi, iSeq, iRng1D, iRng2D, iEnumD, iZipD, fz_d, fz_own, fz_town, fz_v, fz_abs, asDs, fzB, wipeD, asD_d, asD_own, asD_bor, asL_list, asL_tuple, asL_own, asL_bor, asL_int, asL_bool, asL_none, asS_list, asS_tuple, asS_own, asS_bor, tru_bool, tru_int, tru_none, tru_tuple, tru_list, tru_own, tru_bor, stO_d, stO_own, stO_town, stO_v, stO_abs, rtS_d, rtS_own, rtS_bor, rtS_v, rtS_abs, isN_none, isN_tuple, isN_int, isN_list, isN_bool, List.map_cons, List.map_nil, List.length_cons, List.length_nil, List.cons_append, List.nil_append, List.getElem?_cons_zero, List.getElem?_cons_succ, List.set_cons_zero, List.set_cons_succ, Option.map_some, Option.map_none, Option.some.injEq, SV.d.injEq, SV.own.injEq, PyData.int.injEq, PyData.bool.injEq, PyData.tuple.injEq, PyData.list.injEq, PyData.str.injEq, List.cons.injEq, exists_eq_left, exists_eq_left', exists_eq_right, exists_and_left, exists_and_right, exists_const, and_true, true_and, if_true, if_false, reduceCtorEq, false_or, or_false, false_and, and_false, Bool.not_true, Bool.not_false, Bool.false_eq_true, ite_true, ite_false, reduceIte, Bool.true_eq_false, Nat.reduceAdd, nc0, nc1, nc2, nc3, nc4, nc5, nc6, nc7, nc8, Int.reduceBEq, beq_self_eq_true, Bool.and_true, Bool.true_and, Bool.and_false, Bool.false_and, Nat.zero_add]
    refine hK _ ?_
    clear hK K
    have hC : isConf pr.m (natsD ns) = true := (isConf_nats ns).mpr ⟨g1, g3, by omega⟩
    refine seqK fun K hK => ?_
    simp only [sSeq, sNext, sExpr, sRet, sIf, sSet, sSetF, sAsg, sPar, sRaise, sFor, sApp, sExt, sPop, sItem, sAugI, sAug, sFrz, sMove, sBreak, sCont, gN, gT, gsNil, gsCons, dVar, vS_d, vS_own, vS_town, vS_v, vS_scr, fz_scr, dC, dOp, dCall, dCallK, daNil, daCons, dTup, dLst, dSl, doNone, doSome, dIf, dAnd, dOr, dNot, dNeg, dOne, dTwoI, dChain, dLc, bVal, bTru, bScr, dLenS, dIxS, dCount, dRest, sCount, sRest, bNot, bAnd, bOr, bYes, wInt2, wIntC, wAdd, wMul, wIx, wIn, wEqD, wIsN, oLen, oTuple, oList, oAll, oSum, oIsi, iSeq, iRng1D, iRng2D, iEnumD, iZipD, fz_d, fz_own, fz_town, fz_v, fz_abs, asDs, fzB, wipeD, asD_d, asD_own, asD_bor, asL_list, asL_tuple, asL_own, asL_bor, asL_int, asL_bool, asL_none, asS_list, asS_tuple, asS_own, asS_bor, tru_bool, tru_int, tru_none, tru_tuple, tru_list, tru_own, tru_bor, stO_d, stO_own, stO_town, stO_v, stO_abs, rtS_d, rtS_own, rtS_bor, rtS_v, rtS_abs, isN_none, isN_tuple, isN_int, isN_list, isN_bool, List.map_cons, List.map_nil, List.length_cons, List.length_nil, List.cons_append, List.nil_append, List.getElem?_cons_zero, List.getElem?_cons_succ, List.set_cons_zero, List.set_cons_succ, Option.map_some, Option.map_none, Option.some.injEq, SV.d.injEq, SV.own.injEq, PyData.int.injEq, PyData.bool.injEq, PyData.tuple.injEq, PyData.list.injEq, PyData.str.injEq, List.cons.injEq, exists_eq_left, exists_eq_left', exists_eq_right, exists_and_left, exists_and_right, exists_const, and_true, true_and, if_true, if_false, reduceCtorEq, false_or, or_false, false_and, and_false, Bool.not_true, Bool.not_false, Bool.false_eq_true, ite_true, ite_false, reduceIte, Bool.true_eq_false, Nat.reduceAdd, nc0, nc1, nc2, nc3, nc4, nc5, nc6, nc7, nc8, Int.reduceBEq, beq_self_eq_true, Bool.and_true, Bool.true_and, Bool.and_false, Bool.false_and, Nat.zero_add, at_law_spoilt]
    refine ⟨Nat.lt_of_le_of_lt (fit_nats ns).2 (by decide), Nat.le_trans (count_nats (n := 5) (by omega)) (by decide), ?_⟩
    refine forR_inv (fun pre δ => ∃ o5 : Option SV, δ = [some (scr c n), some .town, some (.d (.int z)), some (.d (.tuple [.int pr.m, .tuple (pr.rules.map Rl.enc)])), some (.d (.list ys)), o5, some (.d (natsD ns)), o7]) _ [] _ ⟨_, rfl⟩ (fun p' o r' δ k' hp' hI hk' => ?_) fun δ' hI => ?_
    · obtain ⟨o5', rfl⟩ := hI
      have ho : o ∈ spoilt (natsD ns) := by
        rw [List.nil_append] at hp'
        rw [hp']
        exact List.mem_append_right _ List.mem_cons_self
      have fo := spoilt_fit _ _ (fit_nats ns) o ho
      have hne : ns.map (fun n : Nat => PyData.int (n : Int)) ≠ [] := by
        cases ns with
        | nil => cases g2
        | cons _ _ => simp
      obtain ⟨y, xs, e⟩ := sp_seq ho hne
      have fin : isConf pr.m o = false ∨ ∃ ys, o = .tuple ys ∧ (ys.any fun z => PyData.eqv z (.int 9)) = true := (sp_conf ho).symm
      rcases e with rfl | rfl
      · simp only [sSeq, sNext, sExpr, sRet, sIf, sSet, sSetF, sAsg, sPar, sRaise, sFor, sApp, sExt, sPop, sItem, sAugI, sAug, sFrz, sMove, sBreak, sCont, gN, gT, gsNil, gsCons, dVar, vS_d, vS_own, vS_town, vS_v, vS_scr, fz_scr, dC, dOp, dCall, dCallK, daNil, daCons, dTup, dLst, dSl, doNone, doSome, dIf, dAnd, dOr, dNot, dNeg, dOne, dTwoI, dChain, dLc, bVal, bTru, bScr, dLenS, dIxS, dCount, dRest, sCount, sRest, bNot, bAnd, bOr, bYes, wInt2, wIntC, wAdd, wMul, wIx, wIn, wEqD, wIsN, oLen, oTuple, oList, oAll, oSum, oIsi, iSeq, iRng1D, iRng2D, iEnumD, iZipD, fz_d, fz_own, fz_town, fz_v, fz_abs, asDs, fzB, wipeD, asD_d, asD_own, asD_bor, asL_list, asL_tuple, asL_own, asL_bor, asL_int, asL_bool, asL_none, asS_list, asS_tuple, asS_own, asS_bor, tru_bool, tru_int, tru_none, tru_tuple, tru_list, tru_own, tru_bor, stO_d, stO_own, stO_town, stO_v, stO_abs, rtS_d, rtS_own, rtS_bor, rtS_v, rtS_abs, isN_none, isN_tuple, isN_int, isN_list, isN_bool, List.map_cons, List.map_nil, List.length_cons, List.length_nil, List.cons_append, List.nil_append, List.getElem?_cons_zero, List.getElem?_cons_succ, List.set_cons_zero, List.set_cons_succ, Option.map_some, Option.map_none, Option.some.injEq, SV.d.injEq, SV.own.injEq, PyData.int.injEq, PyData.bool.injEq, PyData.tuple.injEq, PyData.list.injEq, PyData.str.injEq, List.cons.injEq, exists_eq_left, exists_eq_left', exists_eq_right, exists_and_left, exists_and_right, exists_const, and_true, true_and, if_true, if_false, reduceCtorEq, false_or, or_false, false_and, and_false, Bool.not_true, Bool.not_false, Bool.false_eq_true, ite_true, ite_false, reduceIte, Bool.true_eq_false, Nat.reduceAdd, nc0, nc1, nc2, nc3, nc4, nc5, nc6, nc7, nc8, Int.reduceBEq, beq_self_eq_true, Bool.and_true, Bool.true_and, Bool.and_false, Bool.false_and, Nat.zero_add, sh_int, at_law_is, at_is_configuration hP]
        refine ⟨(fit_cutT fo _ _).sh (by decide), (fit_nats ns).sh (by decide), ?_⟩
        split
        · refine ⟨lay_all.mpr fun w hw => (fo.ofTuple w hw).1, ?_⟩
          split
          · rename_i h9
            rcases fin with e | ⟨us, e1, e2⟩
            · rw [e]
              exact hk' _ ⟨_, rfl⟩
            · injection e1 with e1
              rw [e1, e2] at h9
              cases h9
          · exact hk' _ ⟨_, rfl⟩
        · exact hk' _ ⟨_, rfl⟩
      · simp only [sSeq, sNext, sExpr, sRet, sIf, sSet, sSetF, sAsg, sPar, sRaise, sFor, sApp, sExt, sPop, sItem, sAugI, sAug, sFrz, sMove, sBreak, sCont, gN, gT, gsNil, gsCons, dVar, vS_d, vS_own, vS_town, vS_v, vS_scr, fz_scr, dC, dOp, dCall, dCallK, daNil, daCons, dTup, dLst, dSl, doNone, doSome, dIf, dAnd, dOr, dNot, dNeg, dOne, dTwoI, dChain, dLc, bVal, bTru, bScr, dLenS, dIxS, dCount, dRest, sCount, sRest, bNot, bAnd, bOr, bYes, wInt2, wIntC, wAdd, wMul, wIx, wIn, wEqD, wIsN, oLen, oTuple, oList, oAll, oSum, oIsi, iSeq, iRng1D, iRng2D, iEnumD, iZipD, fz_d, fz_own, fz_town, fz_v, fz_abs, asDs, fzB, wipeD, asD_d, asD_own, asD_bor, asL_list, asL_tuple, asL_own, asL_bor, asL_int, asL_bool, asL_none, asS_list, asS_tuple, asS_own, asS_bor, tru_bool, tru_int, tru_none, tru_tuple, tru_list, tru_own, tru_bor, stO_d, stO_own, stO_town, stO_v, stO_abs, rtS_d, rtS_own, rtS_bor, rtS_v, rtS_abs, isN_none, isN_tuple, isN_int, isN_list, isN_bool, List.map_cons, List.map_nil, List.length_cons, List.length_nil, List.cons_append, List.nil_append, List.getElem?_cons_zero, List.getElem?_cons_succ, List.set_cons_zero, List.set_cons_succ, Option.map_some, Option.map_none, Option.some.injEq, SV.d.injEq, SV.own.injEq, PyData.int.injEq, PyData.bool.injEq, PyData.tuple.injEq, PyData.list.injEq, PyData.str.injEq, List.cons.injEq, exists_eq_left, exists_eq_left', exists_eq_right, exists_and_left, exists_and_right, exists_const, and_true, true_and, if_true, if_false, reduceCtorEq, false_or, or_false, false_and, and_false, Bool.not_true, Bool.not_false, Bool.false_eq_true, ite_true, ite_false, reduceIte, Bool.true_eq_false, Nat.reduceAdd, nc0, nc1, nc2, nc3, nc4, nc5, nc6, nc7, nc8, Int.reduceBEq, beq_self_eq_true, Bool.and_true, Bool.true_and, Bool.and_false, Bool.false_and, Nat.zero_add, sh_int, at_law_is, at_is_configuration hP]
        refine ⟨(fit_cutL fo _ _).sh (by decide), (fit_nats ns).sh (by decide), ?_⟩
        split
        · refine ⟨lay_all.mpr fun w hw => (fo.ofList w hw).1, ?_⟩
          split
          · rename_i h9
            rcases fin with e | ⟨us, e1, e2⟩
            · rw [e]
              exact hk' _ ⟨_, rfl⟩
            · cases e1
          · exact hk' _ ⟨_, rfl⟩
        · exact hk' _ ⟨_, rfl⟩
    obtain ⟨o5'', rfl⟩ := hI
    refine hK _ ?_
    clear hK K
    refine seqK fun K hK => ?_
    simp only [sSeq, sNext, sExpr, sRet, sIf, sSet, sSetF, sAsg, sPar, sRaise, sFor, sApp, sExt, sPop, sItem, sAugI, sAug, sFrz, sMove, sBreak, sCont, gN, gT, gsNil, gsCons, dVar, vS_d, vS_own, vS_town, vS_v, vS_scr, fz_scr, dC, dOp, dCall, dCallK, daNil, daCons, dTup, dLst, dSl, doNone, doSome, dIf, dAnd, dOr, dNot, dNeg, dOne, dTwoI, dChain, dLc, bVal, bTru, bScr, dLenS, dIxS, dCount, dRest, sCount, sRest, bNot, bAnd, bOr, bYes, wInt2, wIntC, wAdd, wMul, wIx, wIn, wEqD, wIsN, oLen, oTuple, oList, oAll, oSum, oIsi, iSeq, iRng1D, iRng2D, iEnumD, iZipD, fz_d, fz_own, fz_town, fz_v, fz_abs, asDs, fzB, wipeD, asD_d, asD_own, asD_bor, asL_list, asL_tuple, asL_own, asL_bor, asL_int, asL_bool, asL_none, asS_list, asS_tuple, asS_own, asS_bor, tru_bool, tru_int, tru_none, tru_tuple, tru_list, tru_own, tru_bor, stO_d, stO_own, stO_town, stO_v, stO_abs, rtS_d, rtS_own, rtS_bor, rtS_v, rtS_abs, isN_none, isN_tuple, isN_int, isN_list, isN_bool, List.map_cons, List.map_nil, List.length_cons, List.length_nil, List.cons_append, List.nil_append, List.getElem?_cons_zero, List.getElem?_cons_succ, List.set_cons_zero, List.set_cons_succ, Option.map_some, Option.map_none, Option.some.injEq, SV.d.injEq, SV.own.injEq, PyData.int.injEq, PyData.bool.injEq, PyData.tuple.injEq, PyData.list.injEq, PyData.str.injEq, List.cons.injEq, exists_eq_left, exists_eq_left', exists_eq_right, exists_and_left, exists_and_right, exists_const, and_true, true_and, if_true, if_false, reduceCtorEq, false_or, or_false, false_and, and_false, Bool.not_true, Bool.not_false, Bool.false_eq_true, ite_true, ite_false, reduceIte, Bool.true_eq_false, Nat.reduceAdd, nc0, nc1, nc2, nc3, nc4, nc5, nc6, nc7, nc8, Int.reduceBEq, beq_self_eq_true, Bool.and_true, Bool.true_and, Bool.and_false, Bool.false_and, Nat.zero_add, at_law_is, at_is_configuration hP, hC]
    refine hK _ ?_
    clear hK K
    refine seqK fun K hK => ?_
    simp only [sSeq, sNext, sExpr, sRet, sIf, sSet, sSetF, sAsg, sPar, sRaise, sFor, sApp, sExt, sPop, sItem, sAugI, sAug, sFrz, sMove, sBreak, sCont, gN, gT, gsNil, gsCons, dVar, vS_d, vS_own, vS_town, vS_v, vS_scr, fz_scr, dC, dOp, dCall, dCallK, daNil, daCons, dTup, dLst, dSl, doNone, doSome, dIf, dAnd, dOr, dNot, dNeg, dOne, dTwoI, dChain, dLc, bVal, bTru, bScr, dLenS, dIxS, dCount, dRest, sCount, sRest, bNot, bAnd, bOr, bYes, wInt2, wIntC, wAdd, wMul, wIx, wIn, wEqD, wIsN, oLen, oTuple, oList, oAll, oSum, oIsi, iSeq, iRng1D, iRng2D, iEnumD, iZipD, fz_d, fz_own, fz_town, fz_v, fz_abs, asDs, fzB, wipeD, asD_d, asD_own, asD_bor, asL_list, asL_tuple, asL_own, asL_bor, asL_int, asL_bool, asL_none, asS_list, asS_tuple, asS_own, asS_bor, tru_bool, tru_int, tru_none, tru_tuple, tru_list, tru_own, tru_bor, stO_d, stO_own, stO_town, stO_v, stO_abs, rtS_d, rtS_own, rtS_bor, rtS_v, rtS_abs, isN_none, isN_tuple, isN_int, isN_list, isN_bool, List.map_cons, List.map_nil, List.length_cons, List.length_nil, List.cons_append, List.nil_append, List.getElem?_cons_zero, List.getElem?_cons_succ, List.set_cons_zero, List.set_cons_succ, Option.map_some, Option.map_none, Option.some.injEq, SV.d.injEq, SV.own.injEq, PyData.int.injEq, PyData.bool.injEq, PyData.tuple.injEq, PyData.list.injEq, PyData.str.injEq, List.cons.injEq, exists_eq_left, exists_eq_left', exists_eq_right, exists_and_left, exists_and_right, exists_const, and_true, true_and, if_true, if_false, reduceCtorEq, false_or, or_false, false_and, and_false, Bool.not_true, Bool.not_false, Bool.false_eq_true, ite_true, ite_false, reduceIte, Bool.true_eq_false, Nat.reduceAdd, nc0, nc1, nc2, nc3, nc4, nc5, nc6, nc7, nc8, Int.reduceBEq, beq_self_eq_true, Bool.and_true, Bool.true_and, Bool.and_false, Bool.false_and, Nat.zero_add, atI_0]
    refine use_pattern pr.m 4 hn (by have := hpr.lo; omega) fun ks k1 k2 k3 k4 => ?_
    simp only [sSeq, sNext, sExpr, sRet, sIf, sSet, sSetF, sAsg, sPar, sRaise, sFor, sApp, sExt, sPop, sItem, sAugI, sAug, sFrz, sMove, sBreak, sCont, gN, gT, gsNil, gsCons, dVar, vS_d, vS_own, vS_town, vS_v, vS_scr, fz_scr, dC, dOp, dCall, dCallK, daNil, daCons, dTup, dLst, dSl, doNone, doSome, dIf, dAnd, dOr, dNot, dNeg, dOne, dTwoI, dChain, dLc, bVal, bTru, bScr, dLenS, dIxS, dCount, dRest, sCount, sRest, bNot, bAnd, bOr, bYes, wInt2, wIntC, wAdd, wMul, wIx, wIn, wEqD, wIsN, oLen, oTuple, oList, oAll, oSum, oIsi, iSeq, iRng1D, iRng2D, iEnumD, iZipD, fz_d, fz_own, fz_town, fz_v, fz_abs, asDs, fzB, wipeD, asD_d, asD_own, asD_bor, asL_list, asL_tuple, asL_own, asL_bor, asL_int, asL_bool, asL_none, asS_list, asS_tuple, asS_own, asS_bor, tru_bool, tru_int, tru_none, tru_tuple, tru_list, tru_own, tru_bor, stO_d, stO_own, stO_town, stO_v, stO_abs, rtS_d, rtS_own, rtS_bor, rtS_v, rtS_abs, isN_none, isN_tuple, isN_int, isN_list, isN_bool, List.map_cons, List.map_nil, List.length_cons, List.length_nil, List.cons_append, List.nil_append, List.getElem?_cons_zero, List.getElem?_cons_succ, List.set_cons_zero, List.set_cons_succ, Option.map_some, Option.map_none, Option.some.injEq, SV.d.injEq, SV.own.injEq, PyData.int.injEq, PyData.bool.injEq, PyData.tuple.injEq, PyData.list.injEq, PyData.str.injEq, List.cons.injEq, exists_eq_left, exists_eq_left', exists_eq_right, exists_and_left, exists_and_right, exists_const, and_true, true_and, if_true, if_false, reduceCtorEq, false_or, or_false, false_and, and_false, Bool.not_true, Bool.not_false, Bool.false_eq_true, ite_true, ite_false, reduceIte, Bool.true_eq_false, Nat.reduceAdd, nc0, nc1, nc2, nc3, nc4, nc5, nc6, nc7, nc8, Int.reduceBEq, beq_self_eq_true, Bool.and_true, Bool.true_and, Bool.and_false, Bool.false_and, Nat.zero_add]
    refine hK _ ?_
    clear hK K
    have hT : isPat pr.m (natsD ks) = true := (isPat_nats ks).mpr ⟨k1, k2, k3, k4⟩
    refine seqK fun K hK => ?_
    simp only [sSeq, sNext, sExpr, sRet, sIf, sSet, sSetF, sAsg, sPar, sRaise, sFor, sApp, sExt, sPop, sItem, sAugI, sAug, sFrz, sMove, sBreak, sCont, gN, gT, gsNil, gsCons, dVar, vS_d, vS_own, vS_town, vS_v, vS_scr, fz_scr, dC, dOp, dCall, dCallK, daNil, daCons, dTup, dLst, dSl, doNone, doSome, dIf, dAnd, dOr, dNot, dNeg, dOne, dTwoI, dChain, dLc, bVal, bTru, bScr, dLenS, dIxS, dCount, dRest, sCount, sRest, bNot, bAnd, bOr, bYes, wInt2, wIntC, wAdd, wMul, wIx, wIn, wEqD, wIsN, oLen, oTuple, oList, oAll, oSum, oIsi, iSeq, iRng1D, iRng2D, iEnumD, iZipD, fz_d, fz_own, fz_town, fz_v, fz_abs, asDs, fzB, wipeD, asD_d, asD_own, asD_bor, asL_list, asL_tuple, asL_own, asL_bor, asL_int, asL_bool, asL_none, asS_list, asS_tuple, asS_own, asS_bor, tru_bool, tru_int, tru_none, tru_tuple, tru_list, tru_own, tru_bor, stO_d, stO_own, stO_town, stO_v, stO_abs, rtS_d, rtS_own, rtS_bor, rtS_v, rtS_abs, isN_none, isN_tuple, isN_int, isN_list, isN_bool, List.map_cons, List.map_nil, List.length_cons, List.length_nil, List.cons_append, List.nil_append, List.getElem?_cons_zero, List.getElem?_cons_succ, List.set_cons_zero, List.set_cons_succ, Option.map_some, Option.map_none, Option.some.injEq, SV.d.injEq, SV.own.injEq, PyData.int.injEq, PyData.bool.injEq, PyData.tuple.injEq, PyData.list.injEq, PyData.str.injEq, List.cons.injEq, exists_eq_left, exists_eq_left', exists_eq_right, exists_and_left, exists_and_right, exists_const, and_true, true_and, if_true, if_false, reduceCtorEq, false_or, or_false, false_and, and_false, Bool.not_true, Bool.not_false, Bool.false_eq_true, ite_true, ite_false, reduceIte, Bool.true_eq_false, Nat.reduceAdd, nc0, nc1, nc2, nc3, nc4, nc5, nc6, nc7, nc8, Int.reduceBEq, beq_self_eq_true, Bool.and_true, Bool.true_and, Bool.and_false, Bool.false_and, Nat.zero_add, at_law_is, at_is_pattern hP, hT]
    refine hK _ ?_
    clear hK K
    have hL : isLog pr.m (.tuple [natsD ks]) = true := by
      unfold isLog
      simp only [List.length_cons, List.length_nil, Bool.and_eq_true, List.all_eq_true, decide_eq_true_eq, List.mem_singleton]
      exact ⟨⟨by decide, by decide⟩, fun x hx => by rw [hx]; exact (isConf_nats ks).mpr ⟨k1, k3, by omega⟩, fun x hx => by rw [hx]; rfl⟩
    refine seqK fun K hK => ?_
    simp only [sSeq, sNext, sExpr, sRet, sIf, sSet, sSetF, sAsg, sPar, sRaise, sFor, sApp, sExt, sPop, sItem, sAugI, sAug, sFrz, sMove, sBreak, sCont, gN, gT, gsNil, gsCons, dVar, vS_d, vS_own, vS_town, vS_v, vS_scr, fz_scr, dC, dOp, dCall, dCallK, daNil, daCons, dTup, dLst, dSl, doNone, doSome, dIf, dAnd, dOr, dNot, dNeg, dOne, dTwoI, dChain, dLc, bVal, bTru, bScr, dLenS, dIxS, dCount, dRest, sCount, sRest, bNot, bAnd, bOr, bYes, wInt2, wIntC, wAdd, wMul, wIx, wIn, wEqD, wIsN, oLen, oTuple, oList, oAll, oSum, oIsi, iSeq, iRng1D, iRng2D, iEnumD, iZipD, fz_d, fz_own, fz_town, fz_v, fz_abs, asDs, fzB, wipeD, asD_d, asD_own, asD_bor, asL_list, asL_tuple, asL_own, asL_bor, asL_int, asL_bool, asL_none, asS_list, asS_tuple, asS_own, asS_bor, tru_bool, tru_int, tru_none, tru_tuple, tru_list, tru_own, tru_bor, stO_d, stO_own, stO_town, stO_v, stO_abs, rtS_d, rtS_own, rtS_bor, rtS_v, rtS_abs, isN_none, isN_tuple, isN_int, isN_list, isN_bool, List.map_cons, List.map_nil, List.length_cons, List.length_nil, List.cons_append, List.nil_append, List.getElem?_cons_zero, List.getElem?_cons_succ, List.set_cons_zero, List.set_cons_succ, Option.map_some, Option.map_none, Option.some.injEq, SV.d.injEq, SV.own.injEq, PyData.int.injEq, PyData.bool.injEq, PyData.tuple.injEq, PyData.list.injEq, PyData.str.injEq, List.cons.injEq, exists_eq_left, exists_eq_left', exists_eq_right, exists_and_left, exists_and_right, exists_const, and_true, true_and, if_true, if_false, reduceCtorEq, false_or, or_false, false_and, and_false, Bool.not_true, Bool.not_false, Bool.false_eq_true, ite_true, ite_false, reduceIte, Bool.true_eq_false, Nat.reduceAdd, nc0, nc1, nc2, nc3, nc4, nc5, nc6, nc7, nc8, Int.reduceBEq, beq_self_eq_true, Bool.and_true, Bool.true_and, Bool.and_false, Bool.false_and, Nat.zero_add, at_law_is, at_is_log hP, hL]
    refine ⟨by decide, hK _ ?_⟩
    clear hK K
    refine seqK fun K hK => ?_
    rw [show natsD ks = .tuple (ks.map (fun n : Nat => PyData.int (n : Int))) from rfl]
    simp only [sSeq, sNext, sExpr, sRet, sIf, sSet, sSetF, sAsg, sPar, sRaise, sFor, sApp, sExt, sPop, sItem, sAugI, sAug, sFrz, sMove, sBreak, sCont, gN, gT, gsNil, gsCons, dVar, vS_d, vS_own, vS_town, vS_v, vS_scr, fz_scr, dC, dOp, dCall, dCallK, daNil, daCons, dTup, dLst, dSl, doNone, doSome, dIf, dAnd, dOr, dNot, dNeg, dOne, dTwoI, dChain, dLc, bVal, bTru, bScr, dLenS, dIxS, dCount, dRest, sCount, sRest, bNot, bAnd, bOr, bYes, wInt2, wIntC, wAdd, wMul, wIx, wIn, wEqD, wIsN, oLen, oTuple, oList, oAll, oSum, oIsi, iSeq, iRng1D, iRng2D, iEnumD, iZipD, fz_d, fz_own, fz_town, fz_v, fz_abs, asDs, fzB, wipeD, asD_d, asD_own, asD_bor, asL_list, asL_tuple, asL_own, asL_bor, asL_int, asL_bool, asL_none, asS_list, asS_tuple, asS_own, asS_bor, tru_bool, tru_int, tru_none, tru_tuple, tru_list, tru_own, tru_bor, stO_d, stO_own, stO_town, stO_v, stO_abs, rtS_d, rtS_own, rtS_bor, rtS_v, rtS_abs, isN_none, isN_tuple, isN_int, isN_list, isN_bool, List.map_cons, List.map_nil, List.length_cons, List.length_nil, List.cons_append, List.nil_append, List.getElem?_cons_zero, List.getElem?_cons_succ, List.set_cons_zero, List.set_cons_succ, Option.map_some, Option.map_none, Option.some.injEq, SV.d.injEq, SV.own.injEq, PyData.int.injEq, PyData.bool.injEq, PyData.tuple.injEq, PyData.list.injEq, PyData.str.injEq, List.cons.injEq, exists_eq_left, exists_eq_left', exists_eq_right, exists_and_left, exists_and_right, exists_const, and_true, true_and, if_true, if_false, reduceCtorEq, false_or, or_false, false_and, and_false, Bool.not_true, Bool.not_false, Bool.false_eq_true, ite_true, ite_false, reduceIte, Bool.true_eq_false, Nat.reduceAdd, nc0, nc1, nc2, nc3, nc4, nc5, nc6, nc7, nc8, Int.reduceBEq, beq_self_eq_true, Bool.and_true, Bool.true_and, Bool.and_false, Bool.false_and, Nat.zero_add, atI_0, cut_from1, List.flatten_replicate_singleton, List.length_replicate]
    have hm := hpr.lo
    refine ⟨by rw [List.length_map, sizeLine_eq]; omega, by simp, by omega, by omega, by decide, by rw [sizeLine_eq]; omega, by decide, ?_⟩
    have isI : ∀ (o : PyData) (i : Int), isLog pr.m (.tuple [o]) = true → isConf pr.m o = true := fun o i e => by
      unfold isLog at e
      simp only [Bool.and_eq_true, List.all_eq_true] at e
      exact e.2.1 o List.mem_cons_self
    have logf : ∀ {us : List PyData} {i : Int}, .int i ∈ us → isLog pr.m (.tuple us) = false := fun {us i} h => by
      have e : us.all (isConf pr.m) = false := all_false h rfl
      show (decide (1 ≤ us.length) && decide (us.length ≤ 6) && (us.all (isConf pr.m) && us.all fun x => decide (sumD x = sumD (us.getD 0 .none)))) = false
      rw [e, Bool.false_and, Bool.and_false]
    have hb : ∀ o ∈ [PyData.none, .list (ks.map (fun n : Nat => PyData.int (n : Int))), .tuple ((ks.map (fun n : Nat => PyData.int (n : Int))).drop 1), .tuple (ks.map (fun n : Nat => PyData.int (n : Int)) ++ [.int 0]), .tuple (.int 0 :: List.replicate ((pr.m : Int) - 1).toNat .none)], isPat pr.m o = false ∧ isLog pr.m o = false := fun o ho => by
      simp only [List.mem_cons, List.not_mem_nil, or_false] at ho
      rcases ho with rfl | rfl | rfl | rfl | rfl
      · exact ⟨rfl, rfl⟩
      · exact ⟨rfl, rfl⟩
      · rw [← List.map_drop]
        refine ⟨Bool.eq_false_iff.mpr fun e => ?_, ?_⟩
        · have := ((isPat_nats (ks.drop 1)).mp e).1
          rw [List.length_drop] at this
          omega
        · match ks, k1 with
          | a :: b :: r, _ => exact logf (i := (b : Int)) (by simp)
          | [], e => simp at e; omega
          | [_], e => simp at e; omega
      · have e : ks.map (fun n : Nat => PyData.int (n : Int)) ++ [PyData.int 0] = (ks ++ [0]).map (fun n : Nat => PyData.int (n : Int)) := by
          rw [List.map_append]
          rfl
        rw [e]
        refine ⟨Bool.eq_false_iff.mpr fun e => ?_, ?_⟩
        · have := ((isPat_nats (ks ++ [0])).mp e).1
          rw [List.length_append, k1] at this
          simp at this
        · exact logf (i := ((0 : Nat) : Int)) (List.mem_map.mpr ⟨0, by simp, rfl⟩)
      · refine ⟨Bool.eq_false_iff.mpr fun e => ?_, logf (i := 0) List.mem_cons_self⟩
        obtain ⟨us, e1, _⟩ := isPat_dec e
        have hnone : PyData.none ∈ us.map (fun n : Nat => PyData.int (n : Int)) := by
          have e2 : PyData.int 0 :: List.replicate ((pr.m : Int) - 1).toNat PyData.none = us.map (fun n : Nat => PyData.int (n : Int)) := by injection e1
          rw [← e2]
          exact List.mem_cons_of_mem _ (List.mem_replicate.mpr ⟨by omega, rfl⟩)
        obtain ⟨_, _, z⟩ := List.mem_map.mp hnone
        cases z
    refine forR_inv (fun pre δ => ∃ o5 : Option SV, δ = [some (scr c n), some .town, some (.d (.int z)), some (.d (.tuple [.int pr.m, .tuple (pr.rules.map Rl.enc)])), some (.d (.list ys)), o5, some (.d (natsD ns)), some (.d (.tuple (ks.map (fun n : Nat => PyData.int (n : Int)))))]) _ [] _ ⟨_, rfl⟩ (fun p' o r' δ k' hp' hI hk' => ?_) fun δ' hI => ?_
    · obtain ⟨o5', rfl⟩ := hI
      obtain ⟨b1, b2⟩ := hb o (by
        rw [List.nil_append] at hp'
        rw [hp']
        exact List.mem_append_right _ List.mem_cons_self)
      simp only [sSeq, sNext, sExpr, sRet, sIf, sSet, sSetF, sAsg, sPar, sRaise, sFor, sApp, sExt, sPop, sItem, sAugI, sAug, sFrz, sMove, sBreak, sCont, gN, gT, gsNil, gsCons, dVar, vS_d, vS_own, vS_town, vS_v, vS_scr, fz_scr, dC, dOp, dCall, dCallK, daNil, daCons, dTup, dLst, dSl, doNone, doSome, dIf, dAnd, dOr, dNot, dNeg, dOne, dTwoI, dChain, dLc, bVal, bTru, bScr, dLenS, dIxS, dCount, dRest, sCount, sRest, bNot, bAnd, bOr, bYes, wInt2, wIntC, wAdd, wMul, wIx, wIn, wEqD, wIsN, oLen, oTuple, oList, oAll, oSum, oIsi, iSeq, iRng1D, iRng2D, iEnumD, iZipD, fz_d, fz_own, fz_town, fz_v, fz_abs, asDs, fzB, wipeD, asD_d, asD_own, asD_bor, asL_list, asL_tuple, asL_own, asL_bor, asL_int, asL_bool, asL_none, asS_list, asS_tuple, asS_own, asS_bor, tru_bool, tru_int, tru_none, tru_tuple, tru_list, tru_own, tru_bor, stO_d, stO_own, stO_town, stO_v, stO_abs, rtS_d, rtS_own, rtS_bor, rtS_v, rtS_abs, isN_none, isN_tuple, isN_int, isN_list, isN_bool, List.map_cons, List.map_nil, List.length_cons, List.length_nil, List.cons_append, List.nil_append, List.getElem?_cons_zero, List.getElem?_cons_succ, List.set_cons_zero, List.set_cons_succ, Option.map_some, Option.map_none, Option.some.injEq, SV.d.injEq, SV.own.injEq, PyData.int.injEq, PyData.bool.injEq, PyData.tuple.injEq, PyData.list.injEq, PyData.str.injEq, List.cons.injEq, exists_eq_left, exists_eq_left', exists_eq_right, exists_and_left, exists_and_right, exists_const, and_true, true_and, if_true, if_false, reduceCtorEq, false_or, or_false, false_and, and_false, Bool.not_true, Bool.not_false, Bool.false_eq_true, ite_true, ite_false, reduceIte, Bool.true_eq_false, Nat.reduceAdd, nc0, nc1, nc2, nc3, nc4, nc5, nc6, nc7, nc8, Int.reduceBEq, beq_self_eq_true, Bool.and_true, Bool.true_and, Bool.and_false, Bool.false_and, Nat.zero_add, at_law_is, at_is_pattern hP, at_is_log hP, b1, b2]
      exact hk' _ ⟨_, rfl⟩
    obtain ⟨o5', rfl⟩ := hI
    refine hK _ ?_
    clear hK K
    simp only [sSeq, sNext, sExpr, sRet, sIf, sSet, sSetF, sAsg, sPar, sRaise, sFor, sApp, sExt, sPop, sItem, sAugI, sAug, sFrz, sMove, sBreak, sCont, gN, gT, gsNil, gsCons, dVar, vS_d, vS_own, vS_town, vS_v, vS_scr, fz_scr, dC, dOp, dCall, dCallK, daNil, daCons, dTup, dLst, dSl, doNone, doSome, dIf, dAnd, dOr, dNot, dNeg, dOne, dTwoI, dChain, dLc, bVal, bTru, bScr, dLenS, dIxS, dCount, dRest, sCount, sRest, bNot, bAnd, bOr, bYes, wInt2, wIntC, wAdd, wMul, wIx, wIn, wEqD, wIsN, oLen, oTuple, oList, oAll, oSum, oIsi, iSeq, iRng1D, iRng2D, iEnumD, iZipD, fz_d, fz_own, fz_town, fz_v, fz_abs, asDs, fzB, wipeD, asD_d, asD_own, asD_bor, asL_list, asL_tuple, asL_own, asL_bor, asL_int, asL_bool, asL_none, asS_list, asS_tuple, asS_own, asS_bor, tru_bool, tru_int, tru_none, tru_tuple, tru_list, tru_own, tru_bor, stO_d, stO_own, stO_town, stO_v, stO_abs, rtS_d, rtS_own, rtS_bor, rtS_v, rtS_abs, isN_none, isN_tuple, isN_int, isN_list, isN_bool, List.map_cons, List.map_nil, List.length_cons, List.length_nil, List.cons_append, List.nil_append, List.getElem?_cons_zero, List.getElem?_cons_succ, List.set_cons_zero, List.set_cons_succ, Option.map_some, Option.map_none, Option.some.injEq, SV.d.injEq, SV.own.injEq, PyData.int.injEq, PyData.bool.injEq, PyData.tuple.injEq, PyData.list.injEq, PyData.str.injEq, List.cons.injEq, exists_eq_left, exists_eq_left', exists_eq_right, exists_and_left, exists_and_right, exists_const, and_true, true_and, if_true, if_false, reduceCtorEq, false_or, or_false, false_and, and_false, Bool.not_true, Bool.not_false, Bool.false_eq_true, ite_true, ite_false, reduceIte, Bool.true_eq_false, Nat.reduceAdd, nc0, nc1, nc2, nc3, nc4, nc5, nc6, nc7, nc8, Int.reduceBEq, beq_self_eq_true, Bool.and_true, Bool.true_and, Bool.and_false, Bool.false_and, Nat.zero_add]
    refine ⟨pr, ns, rfl, hpr, g1, g3, by omega, ?_⟩
    simp only [sSeq, sNext, sExpr, sRet, sIf, sSet, sSetF, sAsg, sPar, sRaise, sFor, sApp, sExt, sPop, sItem, sAugI, sAug, sFrz, sMove, sBreak, sCont, gN, gT, gsNil, gsCons, dVar, vS_d, vS_own, vS_town, vS_v, vS_scr, fz_scr, dC, dOp, dCall, dCallK, daNil, daCons, dTup, dLst, dSl, doNone, doSome, dIf, dAnd, dOr, dNot, dNeg, dOne, dTwoI, dChain, dLc, bVal, bTru, bScr, dLenS, dIxS, dCount, dRest, sCount, sRest, bNot, bAnd, bOr, bYes, wInt2, wIntC, wAdd, wMul, wIx, wIn, wEqD, wIsN, oLen, oTuple, oList, oAll, oSum, oIsi, iSeq, iRng1D, iRng2D, iEnumD, iZipD, fz_d, fz_own, fz_town, fz_v, fz_abs, asDs, fzB, wipeD, asD_d, asD_own, asD_bor, asL_list, asL_tuple, asL_own, asL_bor, asL_int, asL_bool, asL_none, asS_list, asS_tuple, asS_own, asS_bor, tru_bool, tru_int, tru_none, tru_tuple, tru_list, tru_own, tru_bor, stO_d, stO_own, stO_town, stO_v, stO_abs, rtS_d, rtS_own, rtS_bor, rtS_v, rtS_abs, isN_none, isN_tuple, isN_int, isN_list, isN_bool, List.map_cons, List.map_nil, List.length_cons, List.length_nil, List.cons_append, List.nil_append, List.getElem?_cons_zero, List.getElem?_cons_succ, List.set_cons_zero, List.set_cons_succ, Option.map_some, Option.map_none, Option.some.injEq, SV.d.injEq, SV.own.injEq, PyData.int.injEq, PyData.bool.injEq, PyData.tuple.injEq, PyData.list.injEq, PyData.str.injEq, List.cons.injEq, exists_eq_left, exists_eq_left', exists_eq_right, exists_and_left, exists_and_right, exists_const, and_true, true_and, if_true, if_false, reduceCtorEq, false_or, or_false, false_and, and_false, Bool.not_true, Bool.not_false, Bool.false_eq_true, ite_true, ite_false, reduceIte, Bool.true_eq_false, Nat.reduceAdd, nc0, nc1, nc2, nc3, nc4, nc5, nc6, nc7, nc8, Int.reduceBEq, beq_self_eq_true, Bool.and_true, Bool.true_and, Bool.and_false, Bool.false_and, Nat.zero_add]
    exact hk _ ⟨_, _, _, _, _, _, rfl⟩
  · obtain ⟨o2, o3, o4, o5, o6, o7, rfl⟩ := hI
    refine hK _ ?_
    simp only [sSeq, sNext, sExpr, sRet, sIf, sSet, sSetF, sAsg, sPar, sRaise, sFor, sApp, sExt, sPop, sItem, sAugI, sAug, sFrz, sMove, sBreak, sCont, gN, gT, gsNil, gsCons, dVar, vS_d, vS_own, vS_town, vS_v, vS_scr, fz_scr, dC, dOp, dCall, dCallK, daNil, daCons, dTup, dLst, dSl, doNone, doSome, dIf, dAnd, dOr, dNot, dNeg, dOne, dTwoI, dChain, dLc, bVal, bTru, bScr, dLenS, dIxS, dCount, dRest, sCount, sRest, bNot, bAnd, bOr, bYes, wInt2, wIntC, wAdd, wMul, wIx, wIn, wEqD, wIsN, oLen, oTuple, oList, oAll, oSum, oIsi, iSeq, iRng1D, iRng2D, iEnumD, iZipD, fz_d, fz_own, fz_town, fz_v, fz_abs, asDs, fzB, wipeD, asD_d, asD_own, asD_bor, asL_list, asL_tuple, asL_own, asL_bor, asL_int, asL_bool, asL_none, asS_list, asS_tuple, asS_own, asS_bor, tru_bool, tru_int, tru_none, tru_tuple, tru_list, tru_own, tru_bor, stO_d, stO_own, stO_town, stO_v, stO_abs, rtS_d, rtS_own, rtS_bor, rtS_v, rtS_abs, isN_none, isN_tuple, isN_int, isN_list, isN_bool, List.map_cons, List.map_nil, List.length_cons, List.length_nil, List.cons_append, List.nil_append, List.getElem?_cons_zero, List.getElem?_cons_succ, List.set_cons_zero, List.set_cons_succ, Option.map_some, Option.map_none, Option.some.injEq, SV.d.injEq, SV.own.injEq, PyData.int.injEq, PyData.bool.injEq, PyData.tuple.injEq, PyData.list.injEq, PyData.str.injEq, List.cons.injEq, exists_eq_left, exists_eq_left', exists_eq_right, exists_and_left, exists_and_right, exists_const, and_true, true_and, if_true, if_false, reduceCtorEq, false_or, or_false, false_and, and_false, Bool.not_true, Bool.not_false, Bool.false_eq_true, ite_true, ite_false, reduceIte, Bool.true_eq_false, Nat.reduceAdd, nc0, nc1, nc2, nc3, nc4, nc5, nc6, nc7, nc8, Int.reduceBEq, beq_self_eq_true, Bool.and_true, Bool.true_and, Bool.and_false, Bool.false_and, Nat.zero_add]
    show sp_law_bounds c [] _ _
    unfold sp_law_bounds
    rfl
end DL
/-! the law k01: its text, its top, its end (printed by gentop.py) -/
namespace DL
open PySem PySem.Spec PyProof.Rows L2
def topS (i : Nat) : Stmt := PySem.Challenge.pw_manycaches_k01_not_protocols.main.body.getD i (.Pass ⟨0, 0, 0, 0⟩)
abbrev s_is_between : Stmt := topS 6
abbrev s_are_between : Stmt := topS 7
abbrev s_is_ascending : Stmt := topS 8
abbrev s_is_rule : Stmt := topS 9
abbrev s_is_protocol : Stmt := topS 10
abbrev s_check_protocol : Stmt := topS 11
abbrev s_are_counts : Stmt := topS 12
abbrev s_is_count : Stmt := topS 13
abbrev s_is_configuration_of : Stmt := topS 14
abbrev s_is_configuration : Stmt := topS 15
abbrev s_is_log_of : Stmt := topS 17
abbrev s_is_log : Stmt := topS 18
abbrev s_is_pattern_of : Stmt := topS 20
abbrev s_is_pattern : Stmt := topS 22
abbrev s_law_is : Stmt := topS 24
abbrev s_law_draw : Stmt := topS 25
abbrev s_law_rule : Stmt := topS 27
abbrev s_law_protocol : Stmt := topS 28
abbrev s_law_pattern : Stmt := topS 29
abbrev s_law_spoilt : Stmt := topS 30
abbrev s_law_bounds : Stmt := topS 31
abbrev s_law_counts : Stmt := topS 32
abbrev s_law : Stmt := topS 33
abbrev s_law_begun : Stmt := topS 26
abbrev N_is_between : List Str := ["value", "low", "high"]
theorem sc_is_between : FnScope N_is_between ["value", "low", "high"] (defScope s_is_between) := ⟨rfl, rfl, rfl, by decide +kernel, rfl, by decide +kernel, by decide +kernel⟩
abbrev N_are_between : List Str := ["values", "low", "high", "one"]
theorem sc_are_between : FnScope N_are_between ["values", "low", "high"] (defScope s_are_between) := ⟨rfl, rfl, rfl, by decide +kernel, rfl, by decide +kernel, by decide +kernel⟩
abbrev N_is_ascending : List Str := ["values", "one", "other"]
theorem sc_is_ascending : FnScope N_is_ascending ["values"] (defScope s_is_ascending) := ⟨rfl, rfl, rfl, by decide +kernel, rfl, by decide +kernel, by decide +kernel⟩
abbrev N_is_rule : List Str := ["many", "value", "source", "target", "need", "bars", "effects"]
theorem sc_is_rule : FnScope N_is_rule ["many", "value"] (defScope s_is_rule) := ⟨rfl, rfl, rfl, by decide +kernel, rfl, by decide +kernel, by decide +kernel⟩
abbrev N_is_protocol : List Str := ["value", "many", "rules", "one"]
theorem sc_is_protocol : FnScope N_is_protocol ["value"] (defScope s_is_protocol) := ⟨rfl, rfl, rfl, by decide +kernel, rfl, by decide +kernel, by decide +kernel⟩
abbrev N_check_protocol : List Str := ["protocol"]
theorem sc_check_protocol : FnScope N_check_protocol ["protocol"] (defScope s_check_protocol) := ⟨rfl, rfl, rfl, by decide +kernel, rfl, by decide +kernel, by decide +kernel⟩
abbrev N_are_counts : List Str := ["protocol", "value", "one"]
theorem sc_are_counts : FnScope N_are_counts ["protocol", "value"] (defScope s_are_counts) := ⟨rfl, rfl, rfl, by decide +kernel, rfl, by decide +kernel, by decide +kernel⟩
abbrev N_is_count : List Str := ["value"]
theorem sc_is_count : FnScope N_is_count ["value"] (defScope s_is_count) := ⟨rfl, rfl, rfl, by decide +kernel, rfl, by decide +kernel, by decide +kernel⟩
abbrev N_is_configuration_of : List Str := ["protocol", "value"]
theorem sc_is_configuration_of : FnScope N_is_configuration_of ["protocol", "value"] (defScope s_is_configuration_of) := ⟨rfl, rfl, rfl, by decide +kernel, rfl, by decide +kernel, by decide +kernel⟩
abbrev N_is_configuration : List Str := ["protocol", "value"]
theorem sc_is_configuration : FnScope N_is_configuration ["protocol", "value"] (defScope s_is_configuration) := ⟨rfl, rfl, rfl, by decide +kernel, rfl, by decide +kernel, by decide +kernel⟩
abbrev N_is_log_of : List Str := ["protocol", "value", "one"]
theorem sc_is_log_of : FnScope N_is_log_of ["protocol", "value"] (defScope s_is_log_of) := ⟨rfl, rfl, rfl, by decide +kernel, rfl, by decide +kernel, by decide +kernel⟩
abbrev N_is_log : List Str := ["protocol", "value"]
theorem sc_is_log : FnScope N_is_log ["protocol", "value"] (defScope s_is_log) := ⟨rfl, rfl, rfl, by decide +kernel, rfl, by decide +kernel, by decide +kernel⟩
abbrev N_is_pattern_of : List Str := ["protocol", "value"]
theorem sc_is_pattern_of : FnScope N_is_pattern_of ["protocol", "value"] (defScope s_is_pattern_of) := ⟨rfl, rfl, rfl, by decide +kernel, rfl, by decide +kernel, by decide +kernel⟩
abbrev N_is_pattern : List Str := ["protocol", "value"]
theorem sc_is_pattern : FnScope N_is_pattern ["protocol", "value"] (defScope s_is_pattern) := ⟨rfl, rfl, rfl, by decide +kernel, rfl, by decide +kernel, by decide +kernel⟩
abbrev N_law_is : List Str := ["_law_result", "_law_expected"]
theorem sc_law_is : FnScope N_law_is ["_law_result", "_law_expected"] (defScope s_law_is) := ⟨rfl, rfl, rfl, by decide +kernel, rfl, by decide +kernel, by decide +kernel⟩
abbrev N_law_draw : List Str := ["_law_script", "_law_town", "_law_many", "_law_at", "_law_rest", "_law_number"]
theorem sc_law_draw : FnScope N_law_draw ["_law_script", "_law_town", "_law_many"] (defScope s_law_draw) := ⟨rfl, rfl, rfl, by decide +kernel, rfl, by decide +kernel, by decide +kernel⟩
abbrev N_law_rule : List Str := ["_law_script", "_law_town", "_law_many", "_law_source", "_law_target", "_law_need", "_law_bars", "_law_effects", "_law_state"]
theorem sc_law_rule : FnScope N_law_rule ["_law_script", "_law_town", "_law_many"] (defScope s_law_rule) := ⟨rfl, rfl, rfl, by decide +kernel, rfl, by decide +kernel, by decide +kernel⟩
abbrev N_law_protocol : List Str := ["_law_script", "_law_town", "_law_states", "_law_rules", "_law_many", "_law_k"]
theorem sc_law_protocol : FnScope N_law_protocol ["_law_script", "_law_town", "_law_states", "_law_rules"] (defScope s_law_protocol) := ⟨rfl, rfl, rfl, by decide +kernel, rfl, by decide +kernel, by decide +kernel⟩
abbrev N_law_pattern : List Str := ["_law_script", "_law_town", "_law_many", "_law_most", "_law_counts_here", "_law_k"]
theorem sc_law_pattern : FnScope N_law_pattern ["_law_script", "_law_town", "_law_many", "_law_most"] (defScope s_law_pattern) := ⟨rfl, rfl, rfl, by decide +kernel, rfl, by decide +kernel, by decide +kernel⟩
abbrev N_law_spoilt : List Str := ["_law_value_here", "_law_found", "_law_place", "_law_one", "_law_odd"]
theorem sc_law_spoilt : FnScope N_law_spoilt ["_law_value_here"] (defScope s_law_spoilt) := ⟨rfl, rfl, rfl, by decide +kernel, rfl, by decide +kernel, by decide +kernel⟩
abbrev N_law_bounds : List Str := ["_law_rule_here", "_law_good", "_law_bad", "_law_one"]
theorem sc_law_bounds : FnScope N_law_bounds [] (defScope s_law_bounds) := ⟨rfl, rfl, rfl, by decide +kernel, rfl, by decide +kernel, by decide +kernel⟩
abbrev N_law_counts : List Str := ["_law_protocol_here", "_law_configuration", "_law_many", "_law_eight", "_law_nine", "_law_rows"]
theorem sc_law_counts : FnScope N_law_counts ["_law_protocol_here", "_law_configuration"] (defScope s_law_counts) := ⟨rfl, rfl, rfl, by decide +kernel, rfl, by decide +kernel, by decide +kernel⟩
abbrev N_law : List Str := ["_law_script", "_law_town", "_law_k", "_law_protocol_here", "_law_odds", "_law_odd", "_law_configuration", "_law_pattern_here"]
theorem sc_law : FnScope N_law ["_law_script"] (defScope s_law) := ⟨rfl, rfl, rfl, by decide +kernel, rfl, by decide +kernel, by decide +kernel⟩
theorem sc_law_begun : FnScope [] [] (defScope s_law_begun) := ⟨rfl, rfl, rfl, by decide +kernel, rfl, by decide +kernel, by decide +kernel⟩
structure Tx (P : Program) (w : World) (K : PySem.W.Frag) (mg : Str → Option Value) where
  cls : String → Addr
  a_is_between : Addr
  d_is_between : FuncData
  F_is_between : Fun K "is_between" "is_between" s_is_between a_is_between d_is_between
  g_is_between : mg "is_between" = some (.ref a_is_between)
  b_is_between : Binds K d_is_between ["value", "low", "high"] []
  a_are_between : Addr
  d_are_between : FuncData
  F_are_between : Fun K "are_between" "are_between" s_are_between a_are_between d_are_between
  g_are_between : mg "are_between" = some (.ref a_are_between)
  b_are_between : Binds K d_are_between ["values", "low", "high"] []
  a_is_ascending : Addr
  d_is_ascending : FuncData
  F_is_ascending : Fun K "is_ascending" "is_ascending" s_is_ascending a_is_ascending d_is_ascending
  g_is_ascending : mg "is_ascending" = some (.ref a_is_ascending)
  b_is_ascending : Binds K d_is_ascending ["values"] []
  a_is_rule : Addr
  d_is_rule : FuncData
  F_is_rule : Fun K "is_rule" "is_rule" s_is_rule a_is_rule d_is_rule
  g_is_rule : mg "is_rule" = some (.ref a_is_rule)
  b_is_rule : Binds K d_is_rule ["many", "value"] []
  a_is_protocol : Addr
  d_is_protocol : FuncData
  F_is_protocol : Fun K "is_protocol" "is_protocol" s_is_protocol a_is_protocol d_is_protocol
  g_is_protocol : mg "is_protocol" = some (.ref a_is_protocol)
  b_is_protocol : Binds K d_is_protocol ["value"] []
  a_check_protocol : Addr
  d_check_protocol : FuncData
  F_check_protocol : Fun K "check_protocol" "check_protocol" s_check_protocol a_check_protocol d_check_protocol
  g_check_protocol : mg "check_protocol" = some (.ref a_check_protocol)
  b_check_protocol : Binds K d_check_protocol ["protocol"] []
  a_are_counts : Addr
  d_are_counts : FuncData
  F_are_counts : Fun K "are_counts" "are_counts" s_are_counts a_are_counts d_are_counts
  g_are_counts : mg "are_counts" = some (.ref a_are_counts)
  b_are_counts : Binds K d_are_counts ["protocol", "value"] []
  a_is_count : Addr
  d_is_count : FuncData
  F_is_count : Fun K "is_count" "is_count" s_is_count a_is_count d_is_count
  g_is_count : mg "is_count" = some (.ref a_is_count)
  b_is_count : Binds K d_is_count ["value"] []
  a_is_configuration_of : Addr
  d_is_configuration_of : FuncData
  F_is_configuration_of : Fun K "is_configuration_of" "is_configuration_of" s_is_configuration_of a_is_configuration_of d_is_configuration_of
  g_is_configuration_of : mg "is_configuration_of" = some (.ref a_is_configuration_of)
  b_is_configuration_of : Binds K d_is_configuration_of ["protocol", "value"] []
  a_is_configuration : Addr
  d_is_configuration : FuncData
  F_is_configuration : Fun K "is_configuration" "is_configuration" s_is_configuration a_is_configuration d_is_configuration
  g_is_configuration : mg "is_configuration" = some (.ref a_is_configuration)
  b_is_configuration : Binds K d_is_configuration ["protocol", "value"] []
  a_is_log_of : Addr
  d_is_log_of : FuncData
  F_is_log_of : Fun K "is_log_of" "is_log_of" s_is_log_of a_is_log_of d_is_log_of
  g_is_log_of : mg "is_log_of" = some (.ref a_is_log_of)
  b_is_log_of : Binds K d_is_log_of ["protocol", "value"] []
  a_is_log : Addr
  d_is_log : FuncData
  F_is_log : Fun K "is_log" "is_log" s_is_log a_is_log d_is_log
  g_is_log : mg "is_log" = some (.ref a_is_log)
  b_is_log : Binds K d_is_log ["protocol", "value"] []
  a_is_pattern_of : Addr
  d_is_pattern_of : FuncData
  F_is_pattern_of : Fun K "is_pattern_of" "is_pattern_of" s_is_pattern_of a_is_pattern_of d_is_pattern_of
  g_is_pattern_of : mg "is_pattern_of" = some (.ref a_is_pattern_of)
  b_is_pattern_of : Binds K d_is_pattern_of ["protocol", "value"] []
  a_is_pattern : Addr
  d_is_pattern : FuncData
  F_is_pattern : Fun K "is_pattern" "is_pattern" s_is_pattern a_is_pattern d_is_pattern
  g_is_pattern : mg "is_pattern" = some (.ref a_is_pattern)
  b_is_pattern : Binds K d_is_pattern ["protocol", "value"] []
  a_law_is : Addr
  d_law_is : FuncData
  F_law_is : Fun K "_law_is" "_law_is" s_law_is a_law_is d_law_is
  g_law_is : mg "_law_is" = some (.ref a_law_is)
  b_law_is : Binds K d_law_is ["_law_result", "_law_expected"] []
  a_law_draw : Addr
  d_law_draw : FuncData
  F_law_draw : Fun K "_law_draw" "_law_draw" s_law_draw a_law_draw d_law_draw
  g_law_draw : mg "_law_draw" = some (.ref a_law_draw)
  b_law_draw : Binds K d_law_draw ["_law_script", "_law_town", "_law_many"] []
  a_law_rule : Addr
  d_law_rule : FuncData
  F_law_rule : Fun K "_law_rule" "_law_rule" s_law_rule a_law_rule d_law_rule
  g_law_rule : mg "_law_rule" = some (.ref a_law_rule)
  b_law_rule : Binds K d_law_rule ["_law_script", "_law_town", "_law_many"] []
  a_law_protocol : Addr
  d_law_protocol : FuncData
  F_law_protocol : Fun K "_law_protocol" "_law_protocol" s_law_protocol a_law_protocol d_law_protocol
  g_law_protocol : mg "_law_protocol" = some (.ref a_law_protocol)
  b_law_protocol : Binds K d_law_protocol ["_law_script", "_law_town", "_law_states", "_law_rules"] []
  a_law_pattern : Addr
  d_law_pattern : FuncData
  F_law_pattern : Fun K "_law_pattern" "_law_pattern" s_law_pattern a_law_pattern d_law_pattern
  g_law_pattern : mg "_law_pattern" = some (.ref a_law_pattern)
  b_law_pattern : Binds K d_law_pattern ["_law_script", "_law_town", "_law_many", "_law_most"] []
  a_law_spoilt : Addr
  d_law_spoilt : FuncData
  F_law_spoilt : Fun K "_law_spoilt" "_law_spoilt" s_law_spoilt a_law_spoilt d_law_spoilt
  g_law_spoilt : mg "_law_spoilt" = some (.ref a_law_spoilt)
  b_law_spoilt : Binds K d_law_spoilt ["_law_value_here"] []
  a_law_bounds : Addr
  d_law_bounds : FuncData
  F_law_bounds : Fun K "_law_bounds" "_law_bounds" s_law_bounds a_law_bounds d_law_bounds
  g_law_bounds : mg "_law_bounds" = some (.ref a_law_bounds)
  b_law_bounds : Binds K d_law_bounds [] []
  a_law_counts : Addr
  d_law_counts : FuncData
  F_law_counts : Fun K "_law_counts" "_law_counts" s_law_counts a_law_counts d_law_counts
  g_law_counts : mg "_law_counts" = some (.ref a_law_counts)
  b_law_counts : Binds K d_law_counts ["_law_protocol_here", "_law_configuration"] []
  a_law_begun : Addr
  d_law_begun : FuncData
  F_law_begun : Fun K "_law_begun" "_law_begun" s_law_begun a_law_begun d_law_begun
  g_law_begun : mg "_law_begun" = some (.ref a_law_begun)
  b_law_begun : Binds K d_law_begun [] []
  k_is_configuration_1 : KB K d_is_configuration ["protocol", "value"] 1 ["value"]
  k_is_log_1 : KB K d_is_log ["protocol", "value"] 1 ["value"]
  k_is_pattern_1 : KB K d_is_pattern ["protocol", "value"] 1 ["value"]
  k_is_protocol_0 : KB K d_is_protocol ["value"] 0 ["value"]
  m_all : mg "all" = none
  m_bool : mg "bool" = none
  m_enumerate : mg "enumerate" = none
  m_int : mg "int" = none
  m_isinstance : mg "isinstance" = none
  m_len : mg "len" = none
  m_list : mg "list" = none
  m_range : mg "range" = none
  m_sum : mg "sum" = none
  m_tuple : mg "tuple" = none
  m_zip : mg "zip" = none
  t_CACHES : Tok
  m_CACHES : mg "CACHES" = some (.int 8 t_CACHES)
  t_RULES : Tok
  m_RULES : mg "RULES" = some (.int 8 t_RULES)
  x_InvalidProtocol : PySem.W.excIn K (cls "InvalidProtocol") [.type "ValueError", .type "Exception", .type "BaseException", .type "object"] "ValueError.__new__" = true
  gc_InvalidProtocol : mg "InvalidProtocol" = some (.ref (cls "InvalidProtocol"))
  kc_InvalidProtocol : PySem.W.keepIn K (.ref (cls "InvalidProtocol")) = true
  bc_InvalidProtocol : PySem.W.subIn K (.ref (cls "InvalidProtocol")) (.type "BaseException") = some true
  tc_InvalidProtocol : PySem.W.typeIn K (.ref (cls "InvalidProtocol")) = some (.type "type")
section
variable {P : Program} {w : World} {K : PySem.W.Frag} {mg : Str → Option Value} {base : Heap}
theorem ok_is_between (T : Tx P w K mg) : FnOk P w K mg base (L2.CX P w) 1 T.a_is_between T.d_is_between ["value", "low", "high"] (spD (sp_is_between ⟨T.cls, K⟩)) :=
  fnD (t := t_is_between ⟨T.cls, K⟩) T.F_is_between sc_is_between (fun ss Q Ex h => by first | (unfold sp_is_between at h; split at h <;> first | rfl | exact h.elim) | (obtain ⟨_, _, rfl, _⟩ := h; rfl)) (fun cdv A outer s H E hr => (ds_one (ds_ret (de_and (de_isi kitT_int T.m_isinstance T.m_int (by decide +kernel) (de_var (i := 0))) (de_and (de_not (de_isi kitT_bool T.m_isinstance T.m_bool (by decide +kernel) (de_var (i := 0)))) (de_one (de_chain od_le od_le (de_var (i := 1)) (de_var (i := 0)) (de_var (i := 2))))))))) (rd_is_between _)
theorem ok_is_ascending (T : Tx P w K mg) : FnOk P w K mg base (L2.CX P w) 1 T.a_is_ascending T.d_is_ascending ["values"] (spD (sp_is_ascending ⟨T.cls, K⟩)) :=
  fnD (t := t_is_ascending ⟨T.cls, K⟩) T.F_is_ascending sc_is_ascending (fun ss Q Ex h => by first | (unfold sp_is_ascending at h; split at h <;> first | rfl | exact h.elim) | (obtain ⟨_, _, rfl, _⟩ := h; rfl)) (fun cdv A outer s H E hr => (ds_one (ds_ret (de_b1 (one_all rfl) T.m_all (by decide +kernel) (de_lc (own := [("one", 1), ("other", 2)]) rfl sc_is_ascending.nd (di_zip T.m_zip (de_var (i := 0)) (de_slice (de_var (i := 0)) (do_some de_int) do_none)) (blkOk_by (own := [("one", 1), ("other", 2)]) (N := N_is_ascending) (sc := defScope s_is_ascending) (by decide +kernel)) (by decide) (fun _ _ _ _ _ => (dg_tup rfl (dgs_cons (dg_name (i := 1) sc_is_ascending.nd rfl (by first | exact Or.inl rfl | exact Or.inr rfl)) (dgs_cons (dg_name (i := 2) sc_is_ascending.nd rfl (by first | exact Or.inl rfl | exact Or.inr rfl)) dgs_nil)))) (fun _ _ _ _ _ => dts_nil) (fun _ _ _ _ _ => (de_cmp (od_ltA hr.units0) (de_var (i := 1)) (de_var (i := 2))))))))) (rd_is_ascending _)
theorem ok_is_count (T : Tx P w K mg) : FnOk P w K mg base (L2.CX P w) 1 T.a_is_count T.d_is_count ["value"] (spD (sp_is_count ⟨T.cls, K⟩)) :=
  fnD (t := t_is_count ⟨T.cls, K⟩) T.F_is_count sc_is_count (fun ss Q Ex h => by first | (unfold sp_is_count at h; split at h <;> first | rfl | exact h.elim) | (obtain ⟨_, _, rfl, _⟩ := h; rfl)) (fun cdv A outer s H E hr => (ds_one (ds_ret (de_and (de_isi kitT_int T.m_isinstance T.m_int (by decide +kernel) (de_var (i := 0))) (de_and (de_not (de_isi kitT_bool T.m_isinstance T.m_bool (by decide +kernel) (de_var (i := 0)))) (de_one (de_cmp od_ge (de_var (i := 0)) de_int))))))) (rd_is_count _)
theorem ok_law_is (T : Tx P w K mg) : FnOk P w K mg base (L2.CX P w) 1 T.a_law_is T.d_law_is ["_law_result", "_law_expected"] (spD (sp_law_is ⟨T.cls, K⟩)) :=
  fnD (t := t_law_is ⟨T.cls, K⟩) T.F_law_is sc_law_is (fun ss Q Ex h => by first | (unfold sp_law_is at h; split at h <;> first | rfl | exact h.elim) | (obtain ⟨_, _, rfl, _⟩ := h; rfl)) (fun cdv A outer s H E hr => (ds_one (ds_ret (de_and (de_isi kitT_bool T.m_isinstance T.m_bool (by decide +kernel) (de_var (i := 0))) (de_one (de_cmp (od_eq hr.units) (de_var (i := 0)) (de_var (i := 1)))))))) (rd_law_is _)
theorem ok_law_draw (T : Tx P w K mg) : FnOk P w K mg base (L2.CX P w) 1 T.a_law_draw T.d_law_draw ["_law_script", "_law_town", "_law_many"] (spD (sp_law_draw ⟨T.cls, K⟩)) :=
  fnD (t := t_law_draw ⟨T.cls, K⟩) T.F_law_draw sc_law_draw (fun ss Q Ex h => by first | (unfold sp_law_draw at h; split at h <;> first | rfl | exact h.elim) | (obtain ⟨_, _, rfl, _⟩ := h; rfl)) (fun cdv A outer s H E hr => (ds_cons (ds_count (hu65 hr) (de_op od_add (de_count (hu65 hr) (de_var (i := 1))) de_int) (de_var (i := 1)))
  (ds_cons (ds_setF (i := 3) sc_law_draw.nd rfl (by first | exact Or.inl rfl | exact Or.inr rfl) (de_if (db_scr (c := ⟨T.cls, K⟩) rfl (de_var (i := 0))) (de_op od_mod (de_count (hu65 hr) (de_var (i := 1))) (de_lenS (c := ⟨T.cls, K⟩) rfl T.m_len (de_var (i := 0)))) de_int))
  (ds_cons (ds_setF (i := 4) sc_law_draw.nd rfl (by first | exact Or.inl rfl | exact Or.inr rfl) (de_rest (hu65 hr) (de_var (i := 1)) (de_var (i := 3)) (de_if (db_scr (c := ⟨T.cls, K⟩) rfl (de_var (i := 0))) (de_ixS (c := ⟨T.cls, K⟩) rfl (de_var (i := 0)) (de_var (i := 3)) (fun _ _ => rfl)) de_int) ⟨rfl, rfl, rfl, rfl⟩))
  (ds_cons (ds_if (db_cmp od_ge (de_var (i := 4)) (de_op od_pow de_int de_int)) (ds_cons (ds_rest (hu65 hr) (de_op od_fdiv (de_var (i := 4)) (de_var (i := 2))) (de_var (i := 1)) (de_var (i := 3)))
    (ds_one (ds_ret (de_op od_mod (de_var (i := 4)) (de_var (i := 2)))))) ds_nil)
  (ds_cons (ds_setF (i := 5) sc_law_draw.nd rfl (by first | exact Or.inl rfl | exact Or.inr rfl) (de_op od_mod (de_op od_add (de_var (i := 4)) (de_op od_mul de_int (de_count (hu65 hr) (de_var (i := 1))))) de_int))
  (ds_cons (ds_setF (i := 5) sc_law_draw.nd rfl (by first | exact Or.inl rfl | exact Or.inr rfl) (de_op od_mod (de_op od_pow (de_var (i := 5)) de_int) de_int))
  (ds_one (ds_ret (de_op od_mod (de_op od_fdiv (de_op od_mod (de_op od_add (de_op od_mul (de_op od_fdiv (de_var (i := 5)) de_int) de_int) (de_var (i := 5))) de_int) de_int) (de_var (i := 2)))))))))))) (rd_law_draw _)
theorem ok_are_between (T : Tx P w K mg) : FnOk P w K mg base (L2.CX P w) 2 T.a_are_between T.d_are_between ["values", "low", "high"] (spD (sp_are_between ⟨T.cls, K⟩)) :=
  fnD (t := t_are_between ⟨T.cls, K⟩) T.F_are_between sc_are_between (fun ss Q Ex h => by first | (unfold sp_are_between at h; split at h <;> first | rfl | exact h.elim) | (obtain ⟨_, _, rfl, _⟩ := h; rfl)) (fun cdv A outer s H E hr => (ds_one (ds_ret (de_and (de_isi kitT_tuple T.m_isinstance T.m_tuple (by decide +kernel) (de_var (i := 0))) (de_one (de_b1 (one_all rfl) T.m_all (by decide +kernel) (de_lc (own := [("one", 3)]) rfl sc_are_between.nd (di_seq (de_var (i := 0))) (blkOk_by (own := [("one", 3)]) (N := N_are_between) (sc := defScope s_are_between) (by decide +kernel)) (by decide) (fun _ _ _ _ _ => (dg_name (i := 3) sc_are_between.nd rfl (by first | exact Or.inl rfl | exact Or.inr rfl))) (fun _ _ _ _ _ => dts_nil) (fun _ _ _ _ _ => (de_call (ok_is_between T) (hr.mono (by decide)) (by rfl) T.g_is_between T.F_is_between.kp T.b_is_between passL (da_cons (de_var (i := 3)) (da_cons (de_var (i := 1)) (da_cons (de_var (i := 2)) da_nil)))))))))))) (rd_are_between _)
theorem ok_are_counts (T : Tx P w K mg) : FnOk P w K mg base (L2.CX P w) 2 T.a_are_counts T.d_are_counts ["protocol", "value"] (spD (sp_are_counts ⟨T.cls, K⟩)) :=
  fnD (t := t_are_counts ⟨T.cls, K⟩) T.F_are_counts sc_are_counts (fun ss Q Ex h => by first | (unfold sp_are_counts at h; split at h <;> first | rfl | exact h.elim) | (obtain ⟨_, _, rfl, _⟩ := h; rfl)) (fun cdv A outer s H E hr => (ds_one (ds_ret (de_and (de_isi kitT_tuple T.m_isinstance T.m_tuple (by decide +kernel) (de_var (i := 1))) (de_and (de_cmp (od_eq hr.units) (de_b1 one_len T.m_len PySem.boot_len (de_var (i := 1))) (de_ix (de_var (i := 0)) de_int (fun _ _ => rfl))) (de_one (de_b1 (one_all rfl) T.m_all (by decide +kernel) (de_lc (own := [("one", 2)]) rfl sc_are_counts.nd (di_seq (de_var (i := 1))) (blkOk_by (own := [("one", 2)]) (N := N_are_counts) (sc := defScope s_are_counts) (by decide +kernel)) (by decide) (fun _ _ _ _ _ => (dg_name (i := 2) sc_are_counts.nd rfl (by first | exact Or.inl rfl | exact Or.inr rfl))) (fun _ _ _ _ _ => dts_nil) (fun _ _ _ _ _ => (de_call (ok_is_count T) (hr.mono (by decide)) (by rfl) T.g_is_count T.F_is_count.kp T.b_is_count passL (da_cons (de_var (i := 2)) da_nil))))))))))) (rd_are_counts _)
theorem ok_law_rule (T : Tx P w K mg) : FnOk P w K mg base (L2.CX P w) 2 T.a_law_rule T.d_law_rule ["_law_script", "_law_town", "_law_many"] (spD (sp_law_rule ⟨T.cls, K⟩)) :=
  fnD (t := t_law_rule ⟨T.cls, K⟩) T.F_law_rule sc_law_rule (fun ss Q Ex h => by first | (unfold sp_law_rule at h; split at h <;> first | rfl | exact h.elim) | (obtain ⟨_, _, rfl, _⟩ := h; rfl)) (fun cdv A outer s H E hr => (ds_cons (ds_setF (i := 3) sc_law_rule.nd rfl (by first | exact Or.inl rfl | exact Or.inr rfl) (de_if (db_cmp (od_eq hr.units) (de_call (ok_law_draw T) (hr.mono (by decide)) (by rfl) T.g_law_draw T.F_law_draw.kp T.b_law_draw (passes_call (takes_of rfl rfl rfl rfl) (fun _ _ _ _ h => h)) (da_cons (de_var (i := 0)) (da_cons (de_var (i := 1)) (da_cons de_int da_nil)))) de_int) (de_call (ok_law_draw T) (hr.mono (by decide)) (by rfl) T.g_law_draw T.F_law_draw.kp T.b_law_draw (passes_call (takes_of rfl rfl rfl rfl) (fun _ _ _ _ h => h)) (da_cons (de_var (i := 0)) (da_cons (de_var (i := 1)) (da_cons (de_var (i := 2)) da_nil)))) de_int))
  (ds_cons (ds_setF (i := 4) sc_law_rule.nd rfl (by first | exact Or.inl rfl | exact Or.inr rfl) (de_call (ok_law_draw T) (hr.mono (by decide)) (by rfl) T.g_law_draw T.F_law_draw.kp T.b_law_draw (passes_call (takes_of rfl rfl rfl rfl) (fun _ _ _ _ h => h)) (da_cons (de_var (i := 0)) (da_cons (de_var (i := 1)) (da_cons (de_var (i := 2)) da_nil)))))
  (ds_cons (ds_setF (i := 5) sc_law_rule.nd rfl (by first | exact Or.inl rfl | exact Or.inr rfl) (de_if (db_cmp (od_eq hr.units) (de_call (ok_law_draw T) (hr.mono (by decide)) (by rfl) T.g_law_draw T.F_law_draw.kp T.b_law_draw (passes_call (takes_of rfl rfl rfl rfl) (fun _ _ _ _ h => h)) (da_cons (de_var (i := 0)) (da_cons (de_var (i := 1)) (da_cons de_int da_nil)))) de_int) (de_call (ok_law_draw T) (hr.mono (by decide)) (by rfl) T.g_law_draw T.F_law_draw.kp T.b_law_draw (passes_call (takes_of rfl rfl rfl rfl) (fun _ _ _ _ h => h)) (da_cons (de_var (i := 0)) (da_cons (de_var (i := 1)) (da_cons (de_var (i := 2)) da_nil)))) de_int))
  (ds_cons (ds_setF (i := 6) sc_law_rule.nd rfl (by first | exact Or.inl rfl | exact Or.inr rfl) (de_t1 one_tuple T.m_tuple (by decide +kernel) (de_lc (own := [("_law_state", 8)]) rfl sc_law_rule.nd (di_rng2 T.m_range de_int (de_var (i := 2))) (blkOk_by (own := [("_law_state", 8)]) (N := N_law_rule) (sc := defScope s_law_rule) (by decide +kernel)) (by decide) (fun _ _ _ _ _ => (dg_name (i := 8) sc_law_rule.nd rfl (by first | exact Or.inl rfl | exact Or.inr rfl))) (fun _ _ _ _ _ => (dts_one (db_w (dw_and (db_cmp (od_eq hr.units) (de_call (ok_law_draw T) (hr.mono (by decide)) (by rfl) T.g_law_draw T.F_law_draw.kp T.b_law_draw passL (da_cons (de_var (i := 0)) (da_cons (de_var (i := 1)) (da_cons de_int da_nil)))) de_int) (dw_one_and (db_cmp (od_ne hr.units) (de_var (i := 8)) (de_var (i := 5)))))))) (fun _ _ _ _ _ => (de_var (i := 8))))))
  (ds_cons (ds_set (i := 7) sc_law_rule.nd rfl (by first | exact Or.inl rfl | exact Or.inr rfl) (de_litL (vs := [(.int 0)]) (de_lst (da_cons de_int da_nil)) (lit_lst (lita_cons lit_c lita_nil) (by decide))))
  (ds_cons (ds_for (passes_of rfl) rfl (di_rng2 T.m_range de_int (de_var (i := 2))) (dg_name (i := 8) sc_law_rule.nd rfl (by first | exact Or.inl rfl | exact Or.inr rfl)) (ds_one (ds_app (i := 7) rfl (by first | exact Or.inl rfl | exact Or.inr (Or.inl rfl)) (de_ix (de_tup (da_cons (de_var (i := 8)) (da_cons de_int (da_cons (de_call (ok_law_draw T) (hr.mono (by decide)) (by rfl) T.g_law_draw T.F_law_draw.kp T.b_law_draw (passes_call (takes_of rfl rfl rfl rfl) (fun _ _ _ _ h => h)) (da_cons (de_var (i := 0)) (da_cons (de_var (i := 1)) (da_cons (de_var (i := 2)) da_nil)))) da_nil)))) (de_call (ok_law_draw T) (hr.mono (by decide)) (by rfl) T.g_law_draw T.F_law_draw.kp T.b_law_draw (passes_call (takes_of rfl rfl rfl rfl) (fun _ _ _ _ h => h)) (da_cons (de_var (i := 0)) (da_cons (de_var (i := 1)) (da_cons de_int da_nil)))) (fun _ _ => rfl)))))
  (ds_one (ds_ret (de_tup (da_cons (de_var (i := 3)) (da_cons (de_var (i := 4)) (da_cons (de_var (i := 5)) (da_cons (de_var (i := 6)) (da_cons (de_t1 one_tuple T.m_tuple (by decide +kernel) (de_var (i := 7))) da_nil))))))))))))))) (rd_law_rule _)
theorem ok_law_pattern (T : Tx P w K mg) : FnOk P w K mg base (L2.CX P w) 2 T.a_law_pattern T.d_law_pattern ["_law_script", "_law_town", "_law_many", "_law_most"] (spD (sp_law_pattern ⟨T.cls, K⟩)) :=
  fnD (t := t_law_pattern ⟨T.cls, K⟩) T.F_law_pattern sc_law_pattern (fun ss Q Ex h => by first | (unfold sp_law_pattern at h; split at h <;> first | rfl | exact h.elim) | (obtain ⟨_, _, rfl, _⟩ := h; rfl)) (fun cdv A outer s H E hr => (ds_cons (ds_set (i := 4) sc_law_pattern.nd rfl (by first | exact Or.inl rfl | exact Or.inr rfl) (de_op od_mul (de_litL (vs := [(.int 0)]) (de_lst (da_cons de_int da_nil)) (lit_lst (lita_cons lit_c lita_nil) (by decide))) (de_var (i := 2))))
  (ds_cons (ds_for (passes_of rfl) rfl (di_rng1 T.m_range (de_op od_add de_int (de_call (ok_law_draw T) (hr.mono (by decide)) (by rfl) T.g_law_draw T.F_law_draw.kp T.b_law_draw (passes_call (takes_of rfl rfl rfl rfl) (fun _ _ _ _ h => h)) (da_cons (de_var (i := 0)) (da_cons (de_var (i := 1)) (da_cons (de_var (i := 3)) da_nil)))))) (dg_name (i := 5) sc_law_pattern.nd rfl (by first | exact Or.inl rfl | exact Or.inr rfl)) (ds_one (ds_augI (i := 4) ip_add rfl (by first | exact Or.inl rfl | exact Or.inr (Or.inl rfl)) (de_op od_add de_int (de_call (ok_law_draw T) (hr.mono (by decide)) (by rfl) T.g_law_draw T.F_law_draw.kp T.b_law_draw (passes_call (takes_of rfl rfl rfl rfl) (fun _ _ _ _ h => h)) (da_cons (de_var (i := 0)) (da_cons (de_var (i := 1)) (da_cons (de_op od_sub (de_var (i := 2)) de_int) da_nil))))) de_int)))
  (ds_one (ds_ret (de_t1 one_tuple T.m_tuple (by decide +kernel) (de_var (i := 4)))))))) (rd_law_pattern _)
theorem ok_is_rule (T : Tx P w K mg) : FnOk P w K mg base (L2.CX P w) 3 T.a_is_rule T.d_is_rule ["many", "value"] (spD (sp_is_rule ⟨T.cls, K⟩)) :=
  fnD (t := t_is_rule ⟨T.cls, K⟩) T.F_is_rule sc_is_rule (fun ss Q Ex h => by first | (unfold sp_is_rule at h; split at h <;> first | rfl | exact h.elim) | (obtain ⟨_, _, rfl, _⟩ := h; rfl)) (fun cdv A outer s H E hr => (ds_cons (ds_if (db_w (dw_or (db_not (db_tru (de_isi kitT_tuple T.m_isinstance T.m_tuple (by decide +kernel) (de_var (i := 1))))) (dw_or (db_cmp (od_ne hr.units) (de_b1 one_len T.m_len PySem.boot_len (de_var (i := 1))) de_int) (dw_one_or (db_not (db_tru (de_call (ok_are_between T) (hr.mono (by decide)) (by rfl) T.g_are_between T.F_are_between.kp T.b_are_between (passes_call (takes_of rfl rfl rfl rfl) (fun _ _ _ _ h => h)) (da_cons (de_slice (de_var (i := 1)) do_none (do_some de_int)) (da_cons de_int (da_cons (de_op od_sub (de_var (i := 0)) de_int) da_nil)))))))))) (ds_one (ds_ret de_bl)) ds_nil)
  (ds_cons (ds_asg (de_var (i := 1)) (dg_tup rfl (dgs_cons (dg_name (i := 2) sc_is_rule.nd rfl (by first | exact Or.inl rfl | exact Or.inr rfl)) (dgs_cons (dg_name (i := 3) sc_is_rule.nd rfl (by first | exact Or.inl rfl | exact Or.inr rfl)) (dgs_cons (dg_name (i := 4) sc_is_rule.nd rfl (by first | exact Or.inl rfl | exact Or.inr rfl)) (dgs_cons (dg_name (i := 5) sc_is_rule.nd rfl (by first | exact Or.inl rfl | exact Or.inr rfl)) (dgs_cons (dg_name (i := 6) sc_is_rule.nd rfl (by first | exact Or.inl rfl | exact Or.inr rfl)) dgs_nil)))))))
  (ds_cons (ds_if (db_w (dw_or (db_not (db_tru (de_call (ok_are_between T) (hr.mono (by decide)) (by rfl) T.g_are_between T.F_are_between.kp T.b_are_between (passes_call (takes_of rfl rfl rfl rfl) (fun _ _ _ _ h => h)) (da_cons (de_var (i := 5)) (da_cons de_int (da_cons (de_op od_sub (de_var (i := 0)) de_int) da_nil)))))) (dw_or (db_not (db_tru (de_call (ok_is_ascending T) (hr.mono (by decide)) (by rfl) T.g_is_ascending T.F_is_ascending.kp T.b_is_ascending (passes_call (takes_of rfl rfl rfl rfl) (fun _ _ _ _ h => h)) (da_cons (de_var (i := 5)) da_nil)))) (dw_one_or (db_cmp (od_in (hu65 hr)) (de_var (i := 4)) (de_var (i := 5))))))) (ds_one (ds_ret de_bl)) ds_nil)
  (ds_one (ds_ret (de_and (de_call (ok_are_between T) (hr.mono (by decide)) (by rfl) T.g_are_between T.F_are_between.kp T.b_are_between (passes_call (takes_of rfl rfl rfl rfl) (fun _ _ _ _ h => h)) (da_cons (de_var (i := 6)) (da_cons de_int (da_cons (de_op od_sub (de_var (i := 0)) de_int) da_nil)))) (de_and (de_cmp (od_eq hr.units) (de_b1 one_len T.m_len PySem.boot_len (de_var (i := 6))) (de_var (i := 0))) (de_one (de_cmp (od_eq hr.units) (de_ix (de_var (i := 6)) de_int (fun _ _ => rfl)) de_int)))))))))) (rd_is_rule _)
theorem ok_is_configuration_of (T : Tx P w K mg) : FnOk P w K mg base (L2.CX P w) 3 T.a_is_configuration_of T.d_is_configuration_of ["protocol", "value"] (spD (sp_is_configuration_of ⟨T.cls, K⟩)) :=
  fnD (t := t_is_configuration_of ⟨T.cls, K⟩) T.F_is_configuration_of sc_is_configuration_of (fun ss Q Ex h => by first | (unfold sp_is_configuration_of at h; split at h <;> first | rfl | exact h.elim) | (obtain ⟨_, _, rfl, _⟩ := h; rfl)) (fun cdv A outer s H E hr => (ds_one (ds_ret (de_and (de_call (ok_are_counts T) (hr.mono (by decide)) (by rfl) T.g_are_counts T.F_are_counts.kp T.b_are_counts (passes_call (takes_of rfl rfl rfl rfl) (fun _ _ _ _ h => h)) (da_cons (de_var (i := 0)) (da_cons (de_var (i := 1)) da_nil))) (de_one (de_chain od_le od_le de_int (de_b1 (one_sum rfl) T.m_sum (by decide +kernel) (de_var (i := 1))) (de_gint rfl T.m_CACHES ⟨_, rfl⟩))))))) (rd_is_configuration_of _)
theorem ok_is_pattern_of (T : Tx P w K mg) : FnOk P w K mg base (L2.CX P w) 3 T.a_is_pattern_of T.d_is_pattern_of ["protocol", "value"] (spD (sp_is_pattern_of ⟨T.cls, K⟩)) :=
  fnD (t := t_is_pattern_of ⟨T.cls, K⟩) T.F_is_pattern_of sc_is_pattern_of (fun ss Q Ex h => by first | (unfold sp_is_pattern_of at h; split at h <;> first | rfl | exact h.elim) | (obtain ⟨_, _, rfl, _⟩ := h; rfl)) (fun cdv A outer s H E hr => (ds_one (ds_ret (de_and (de_call (ok_are_counts T) (hr.mono (by decide)) (by rfl) T.g_are_counts T.F_are_counts.kp T.b_are_counts (passes_call (takes_of rfl rfl rfl rfl) (fun _ _ _ _ h => h)) (da_cons (de_var (i := 0)) (da_cons (de_var (i := 1)) da_nil))) (de_and (de_cmp (od_eq hr.units) (de_ix (de_var (i := 1)) de_int (fun _ _ => rfl)) de_int) (de_one (de_chain od_le od_le de_int (de_b1 (one_sum rfl) T.m_sum (by decide +kernel) (de_var (i := 1))) de_int))))))) (rd_is_pattern_of _)
theorem ok_law_protocol (T : Tx P w K mg) : FnOk P w K mg base (L2.CX P w) 3 T.a_law_protocol T.d_law_protocol ["_law_script", "_law_town", "_law_states", "_law_rules"] (spD (sp_law_protocol ⟨T.cls, K⟩)) :=
  fnD (t := t_law_protocol ⟨T.cls, K⟩) T.F_law_protocol sc_law_protocol (fun ss Q Ex h => by first | (unfold sp_law_protocol at h; split at h <;> first | rfl | exact h.elim) | (obtain ⟨_, _, rfl, _⟩ := h; rfl)) (fun cdv A outer s H E hr => (ds_cons (ds_setF (i := 4) sc_law_protocol.nd rfl (by first | exact Or.inl rfl | exact Or.inr rfl) (de_op od_add de_int (de_call (ok_law_draw T) (hr.mono (by decide)) (by rfl) T.g_law_draw T.F_law_draw.kp T.b_law_draw (passes_call (takes_of rfl rfl rfl rfl) (fun _ _ _ _ h => h)) (da_cons (de_var (i := 0)) (da_cons (de_var (i := 1)) (da_cons (de_op od_sub (de_var (i := 2)) de_int) da_nil))))))
  (ds_one (ds_ret (de_tup (da_cons (de_var (i := 4)) (da_cons (de_t1 one_tuple T.m_tuple (by decide +kernel) (de_lc (own := [("_law_k", 5)]) rfl sc_law_protocol.nd (di_rng1 T.m_range (de_call (ok_law_draw T) (hr.mono (by decide)) (by rfl) T.g_law_draw T.F_law_draw.kp T.b_law_draw (passes_call (takes_of rfl rfl rfl rfl) (fun _ _ _ _ h => h)) (da_cons (de_var (i := 0)) (da_cons (de_var (i := 1)) (da_cons (de_op od_add (de_var (i := 3)) de_int) da_nil))))) (blkOk_by (own := [("_law_k", 5)]) (N := N_law_protocol) (sc := defScope s_law_protocol) (by decide +kernel)) (by decide) (fun _ _ _ _ _ => (dg_name (i := 5) sc_law_protocol.nd rfl (by first | exact Or.inl rfl | exact Or.inr rfl))) (fun _ _ _ _ _ => dts_nil) (fun _ _ _ _ _ => (de_call (ok_law_rule T) (hr.mono (by decide)) (by rfl) T.g_law_rule T.F_law_rule.kp T.b_law_rule passL (da_cons (de_var (i := 0)) (da_cons (de_var (i := 1)) (da_cons (de_var (i := 4)) da_nil))))))) da_nil))))))) (rd_law_protocol _)
theorem ok_is_protocol (T : Tx P w K mg) : FnOk P w K mg base (L2.CX P w) 4 T.a_is_protocol T.d_is_protocol ["value"] (spD (sp_is_protocol ⟨T.cls, K⟩)) :=
  fnD (t := t_is_protocol ⟨T.cls, K⟩) T.F_is_protocol sc_is_protocol (fun ss Q Ex h => by first | (unfold sp_is_protocol at h; split at h <;> first | rfl | exact h.elim) | (obtain ⟨_, _, rfl, _⟩ := h; rfl)) (fun cdv A outer s H E hr => (ds_cons (ds_if (db_w (dw_or (db_not (db_tru (de_isi kitT_tuple T.m_isinstance T.m_tuple (by decide +kernel) (de_var (i := 0))))) (dw_or (db_cmp (od_ne hr.units) (de_b1 one_len T.m_len PySem.boot_len (de_var (i := 0))) de_int) (dw_one_or (db_not (db_tru (de_call (ok_is_between T) (hr.mono (by decide)) (by rfl) T.g_is_between T.F_is_between.kp T.b_is_between (passes_call (takes_of rfl rfl rfl rfl) (fun _ _ _ _ h => h)) (da_cons (de_ix (de_var (i := 0)) de_int (fun _ _ => rfl)) (da_cons de_int (da_cons de_int da_nil)))))))))) (ds_one (ds_ret de_bl)) ds_nil)
  (ds_cons (ds_asg (de_var (i := 0)) (dg_tup rfl (dgs_cons (dg_name (i := 1) sc_is_protocol.nd rfl (by first | exact Or.inl rfl | exact Or.inr rfl)) (dgs_cons (dg_name (i := 2) sc_is_protocol.nd rfl (by first | exact Or.inl rfl | exact Or.inr rfl)) dgs_nil))))
  (ds_one (ds_ret (de_and (de_isi kitT_tuple T.m_isinstance T.m_tuple (by decide +kernel) (de_var (i := 2))) (de_and (de_cmp od_le (de_b1 one_len T.m_len PySem.boot_len (de_var (i := 2))) (de_gint rfl T.m_RULES ⟨_, rfl⟩)) (de_one (de_b1 (one_all rfl) T.m_all (by decide +kernel) (de_lc (own := [("one", 3)]) rfl sc_is_protocol.nd (di_seq (de_var (i := 2))) (blkOk_by (own := [("one", 3)]) (N := N_is_protocol) (sc := defScope s_is_protocol) (by decide +kernel)) (by decide) (fun _ _ _ _ _ => (dg_name (i := 3) sc_is_protocol.nd rfl (by first | exact Or.inl rfl | exact Or.inr rfl))) (fun _ _ _ _ _ => dts_nil) (fun _ _ _ _ _ => (de_call (ok_is_rule T) (hr.mono (by decide)) (by rfl) T.g_is_rule T.F_is_rule.kp T.b_is_rule passL (da_cons (de_var (i := 1)) (da_cons (de_var (i := 3)) da_nil)))))))))))))) (rd_is_protocol _)
theorem ok_is_log_of (T : Tx P w K mg) : FnOk P w K mg base (L2.CX P w) 4 T.a_is_log_of T.d_is_log_of ["protocol", "value"] (spD (sp_is_log_of ⟨T.cls, K⟩)) :=
  fnD (t := t_is_log_of ⟨T.cls, K⟩) T.F_is_log_of sc_is_log_of (fun ss Q Ex h => by first | (unfold sp_is_log_of at h; split at h <;> first | rfl | exact h.elim) | (obtain ⟨_, _, rfl, _⟩ := h; rfl)) (fun cdv A outer s H E hr => (ds_cons (ds_if (db_w (dw_or (db_not (db_tru (de_isi kitT_tuple T.m_isinstance T.m_tuple (by decide +kernel) (de_var (i := 1))))) (dw_one_or (db_not (db_chain od_le od_le de_int (de_b1 one_len T.m_len PySem.boot_len (de_var (i := 1))) de_int))))) (ds_one (ds_ret de_bl)) ds_nil)
  (ds_cons (ds_if (db_not (db_tru (de_b1 (one_all rfl) T.m_all (by decide +kernel) (de_lc (own := [("one", 2)]) rfl sc_is_log_of.nd (di_seq (de_var (i := 1))) (blkOk_by (own := [("one", 2)]) (N := N_is_log_of) (sc := defScope s_is_log_of) (by decide +kernel)) (by decide) (fun _ _ _ _ _ => (dg_name (i := 2) sc_is_log_of.nd rfl (by first | exact Or.inl rfl | exact Or.inr rfl))) (fun _ _ _ _ _ => dts_nil) (fun _ _ _ _ _ => (de_call (ok_is_configuration_of T) (hr.mono (by decide)) (by rfl) T.g_is_configuration_of T.F_is_configuration_of.kp T.b_is_configuration_of passL (da_cons (de_var (i := 0)) (da_cons (de_var (i := 2)) da_nil)))))))) (ds_one (ds_ret de_bl)) ds_nil)
  (ds_one (ds_ret (de_b1 (one_all rfl) T.m_all (by decide +kernel) (de_lc (own := [("one", 2)]) rfl sc_is_log_of.nd (di_seq (de_var (i := 1))) (blkOk_by (own := [("one", 2)]) (N := N_is_log_of) (sc := defScope s_is_log_of) (by decide +kernel)) (by decide) (fun _ _ _ _ _ => (dg_name (i := 2) sc_is_log_of.nd rfl (by first | exact Or.inl rfl | exact Or.inr rfl))) (fun _ _ _ _ _ => dts_nil) (fun _ _ _ _ _ => (de_cmp (od_eq hr.units) (de_b1 (one_sum rfl) T.m_sum (by decide +kernel) (de_var (i := 2))) (de_b1 (one_sum rfl) T.m_sum (by decide +kernel) (de_ix (de_var (i := 1)) de_int (fun _ _ => rfl)))))))))))) (rd_is_log_of _)
theorem ok_check_protocol (T : Tx P w K mg) : FnOk P w K mg base (L2.CX P w) 5 T.a_check_protocol T.d_check_protocol ["protocol"] (spD (sp_check_protocol ⟨T.cls, K⟩)) :=
  fnD (t := t_check_protocol ⟨T.cls, K⟩) T.F_check_protocol sc_check_protocol (fun ss Q Ex h => by first | (unfold sp_check_protocol at h; split at h <;> first | rfl | exact h.elim) | (obtain ⟨_, _, rfl, _⟩ := h; rfl)) (fun cdv A outer s H E hr => (ds_one (ds_if (db_not (db_tru (de_call (ok_is_protocol T) (hr.mono (by decide)) (by rfl) T.g_is_protocol T.F_is_protocol.kp T.b_is_protocol (passes_call (takes_of rfl rfl rfl rfl) (fun _ _ _ _ h => h)) (da_cons (de_var (i := 0)) da_nil)))) (ds_one (ds_raise rfl (takes_of rfl rfl rfl rfl) (pmk_own PySem.F.excBase_ValueError T.x_InvalidProtocol T.gc_InvalidProtocol T.kc_InvalidProtocol (raises_own T.bc_InvalidProtocol T.tc_InvalidProtocol) (by exact rfl)))) ds_nil))) (rd_check_protocol _)
theorem ok_law_bounds (T : Tx P w K mg) : FnOk P w K mg base (L2.CX P w) 5 T.a_law_bounds T.d_law_bounds [] (spD (sp_law_bounds ⟨T.cls, K⟩)) :=
  fnD (t := t_law_bounds ⟨T.cls, K⟩) T.F_law_bounds sc_law_bounds (fun ss Q Ex h => by first | (unfold sp_law_bounds at h; split at h <;> first | rfl | exact h.elim) | (obtain ⟨_, _, rfl, _⟩ := h; rfl)) (fun cdv A outer s H E hr => (ds_cons (ds_setF (i := 0) sc_law_bounds.nd rfl (by first | exact Or.inl rfl | exact Or.inr rfl) (de_lit (v := (.tuple [(.int 0), (.int 1), (.int 0), (.tuple []), (.tuple [(.int 0), (.int 1)])])) (de_tup (da_cons de_int (da_cons de_int (da_cons de_int (da_cons (de_tup da_nil) (da_cons (de_lit (v := (.tuple [(.int 0), (.int 1)])) (de_tup (da_cons de_int (da_cons de_int da_nil))) (lit_tup (lita_cons lit_c (lita_cons lit_c lita_nil)) (by decide))) da_nil)))))) (lit_tup (lita_cons lit_c (lita_cons lit_c (lita_cons lit_c (lita_cons (lit_tup lita_nil (by decide)) (lita_cons lit_c lita_nil))))) (by decide))))
  (ds_cons (ds_setF (i := 1) sc_law_bounds.nd rfl (by first | exact Or.inl rfl | exact Or.inr rfl) (de_lst (da_cons (de_lit (v := (.tuple [(.int 2), (.tuple [])])) (de_tup (da_cons de_int (da_cons (de_tup da_nil) da_nil))) (lit_tup (lita_cons lit_c (lita_cons (lit_tup lita_nil (by decide)) lita_nil)) (by decide))) (da_cons (de_lit (v := (.tuple [(.int 5), (.tuple [])])) (de_tup (da_cons de_int (da_cons (de_tup da_nil) da_nil))) (lit_tup (lita_cons lit_c (lita_cons (lit_tup lita_nil (by decide)) lita_nil)) (by decide))) (da_cons (de_tup (da_cons de_int (da_cons (de_op od_mul (de_tup (da_cons (de_var (i := 0)) da_nil)) de_int) da_nil))) (da_cons (de_lit (v := (.tuple [(.int 2), (.tuple [(.tuple [(.int 1), (.int 0), (.int 1), (.tuple []), (.tuple [(.int 0), (.int 0)])])])])) (de_tup (da_cons de_int (da_cons (de_lit (v := (.tuple [(.tuple [(.int 1), (.int 0), (.int 1), (.tuple []), (.tuple [(.int 0), (.int 0)])])])) (de_tup (da_cons (de_lit (v := (.tuple [(.int 1), (.int 0), (.int 1), (.tuple []), (.tuple [(.int 0), (.int 0)])])) (de_tup (da_cons de_int (da_cons de_int (da_cons de_int (da_cons (de_tup da_nil) (da_cons (de_lit (v := (.tuple [(.int 0), (.int 0)])) (de_tup (da_cons de_int (da_cons de_int da_nil))) (lit_tup (lita_cons lit_c (lita_cons lit_c lita_nil)) (by decide))) da_nil)))))) (lit_tup (lita_cons lit_c (lita_cons lit_c (lita_cons lit_c (lita_cons (lit_tup lita_nil (by decide)) (lita_cons lit_c lita_nil))))) (by decide))) da_nil)) (lit_tup (lita_cons lit_c lita_nil) (by decide))) da_nil))) (lit_tup (lita_cons lit_c (lita_cons lit_c lita_nil)) (by decide))) (da_cons (de_lit (v := (.tuple [(.int 3), (.tuple [(.tuple [(.int 0), (.int 0), (.int 1), (.tuple [(.int 2)]), (.tuple [(.int 0), (.int 0), (.int 0)])])])])) (de_tup (da_cons de_int (da_cons (de_lit (v := (.tuple [(.tuple [(.int 0), (.int 0), (.int 1), (.tuple [(.int 2)]), (.tuple [(.int 0), (.int 0), (.int 0)])])])) (de_tup (da_cons (de_lit (v := (.tuple [(.int 0), (.int 0), (.int 1), (.tuple [(.int 2)]), (.tuple [(.int 0), (.int 0), (.int 0)])])) (de_tup (da_cons de_int (da_cons de_int (da_cons de_int (da_cons (de_lit (v := (.tuple [(.int 2)])) (de_tup (da_cons de_int da_nil)) (lit_tup (lita_cons lit_c lita_nil) (by decide))) (da_cons (de_lit (v := (.tuple [(.int 0), (.int 0), (.int 0)])) (de_tup (da_cons de_int (da_cons de_int (da_cons de_int da_nil)))) (lit_tup (lita_cons lit_c (lita_cons lit_c (lita_cons lit_c lita_nil))) (by decide))) da_nil)))))) (lit_tup (lita_cons lit_c (lita_cons lit_c (lita_cons lit_c (lita_cons lit_c (lita_cons lit_c lita_nil))))) (by decide))) da_nil)) (lit_tup (lita_cons lit_c lita_nil) (by decide))) da_nil))) (lit_tup (lita_cons lit_c (lita_cons lit_c lita_nil)) (by decide))) da_nil)))))))
  (ds_cons (ds_setF (i := 2) sc_law_bounds.nd rfl (by first | exact Or.inl rfl | exact Or.inr rfl) (de_lst (da_cons (de_lit (v := (.tuple [(.int 1), (.tuple [])])) (de_tup (da_cons de_int (da_cons (de_tup da_nil) da_nil))) (lit_tup (lita_cons lit_c (lita_cons (lit_tup lita_nil (by decide)) lita_nil)) (by decide))) (da_cons (de_lit (v := (.tuple [(.int 6), (.tuple [])])) (de_tup (da_cons de_int (da_cons (de_tup da_nil) da_nil))) (lit_tup (lita_cons lit_c (lita_cons (lit_tup lita_nil (by decide)) lita_nil)) (by decide))) (da_cons (de_tup (da_cons de_int (da_cons (de_op od_mul (de_tup (da_cons (de_var (i := 0)) da_nil)) de_int) da_nil))) (da_cons (de_lit (v := (.tuple [(.int 2), (.tuple [(.tuple [(.int 0), (.int 2), (.int 0), (.tuple []), (.tuple [(.int 0), (.int 1)])])])])) (de_tup (da_cons de_int (da_cons (de_lit (v := (.tuple [(.tuple [(.int 0), (.int 2), (.int 0), (.tuple []), (.tuple [(.int 0), (.int 1)])])])) (de_tup (da_cons (de_lit (v := (.tuple [(.int 0), (.int 2), (.int 0), (.tuple []), (.tuple [(.int 0), (.int 1)])])) (de_tup (da_cons de_int (da_cons de_int (da_cons de_int (da_cons (de_tup da_nil) (da_cons (de_lit (v := (.tuple [(.int 0), (.int 1)])) (de_tup (da_cons de_int (da_cons de_int da_nil))) (lit_tup (lita_cons lit_c (lita_cons lit_c lita_nil)) (by decide))) da_nil)))))) (lit_tup (lita_cons lit_c (lita_cons lit_c (lita_cons lit_c (lita_cons (lit_tup lita_nil (by decide)) (lita_cons lit_c lita_nil))))) (by decide))) da_nil)) (lit_tup (lita_cons lit_c lita_nil) (by decide))) da_nil))) (lit_tup (lita_cons lit_c (lita_cons lit_c lita_nil)) (by decide))) (da_cons (de_lit (v := (.tuple [(.int 2), (.tuple [(.tuple [(.int 0), (.int 1), (.int 0), (.tuple [(.int 0)]), (.tuple [(.int 0), (.int 1)])])])])) (de_tup (da_cons de_int (da_cons (de_lit (v := (.tuple [(.tuple [(.int 0), (.int 1), (.int 0), (.tuple [(.int 0)]), (.tuple [(.int 0), (.int 1)])])])) (de_tup (da_cons (de_lit (v := (.tuple [(.int 0), (.int 1), (.int 0), (.tuple [(.int 0)]), (.tuple [(.int 0), (.int 1)])])) (de_tup (da_cons de_int (da_cons de_int (da_cons de_int (da_cons (de_lit (v := (.tuple [(.int 0)])) (de_tup (da_cons de_int da_nil)) (lit_tup (lita_cons lit_c lita_nil) (by decide))) (da_cons (de_lit (v := (.tuple [(.int 0), (.int 1)])) (de_tup (da_cons de_int (da_cons de_int da_nil))) (lit_tup (lita_cons lit_c (lita_cons lit_c lita_nil)) (by decide))) da_nil)))))) (lit_tup (lita_cons lit_c (lita_cons lit_c (lita_cons lit_c (lita_cons lit_c (lita_cons lit_c lita_nil))))) (by decide))) da_nil)) (lit_tup (lita_cons lit_c lita_nil) (by decide))) da_nil))) (lit_tup (lita_cons lit_c (lita_cons lit_c lita_nil)) (by decide))) (da_cons de_non da_nil))))))))
  (ds_cons (ds_setF (i := 2) sc_law_bounds.nd rfl (by first | exact Or.inl rfl | exact Or.inr rfl) (de_op od_add (de_var (i := 2)) (de_litL (vs := [(.tuple [(.int 2), (.tuple [(.tuple [(.int 0), (.int 1), (.int 1), (.tuple [(.int 1)]), (.tuple [(.int 0), (.int 1)])])])]), (.tuple [(.int 2), (.tuple [(.tuple [(.int 0), (.int 1), (.int 0), (.tuple []), (.tuple [(.int 1), (.int 1)])])])]), (.tuple [(.int 2), (.tuple [(.tuple [(.int 0), (.int 1), (.int 0), (.tuple []), (.tuple [(.int 0)])])])]), (.tuple [])]) (de_lst (da_cons (de_lit (v := (.tuple [(.int 2), (.tuple [(.tuple [(.int 0), (.int 1), (.int 1), (.tuple [(.int 1)]), (.tuple [(.int 0), (.int 1)])])])])) (de_tup (da_cons de_int (da_cons (de_lit (v := (.tuple [(.tuple [(.int 0), (.int 1), (.int 1), (.tuple [(.int 1)]), (.tuple [(.int 0), (.int 1)])])])) (de_tup (da_cons (de_lit (v := (.tuple [(.int 0), (.int 1), (.int 1), (.tuple [(.int 1)]), (.tuple [(.int 0), (.int 1)])])) (de_tup (da_cons de_int (da_cons de_int (da_cons de_int (da_cons (de_lit (v := (.tuple [(.int 1)])) (de_tup (da_cons de_int da_nil)) (lit_tup (lita_cons lit_c lita_nil) (by decide))) (da_cons (de_lit (v := (.tuple [(.int 0), (.int 1)])) (de_tup (da_cons de_int (da_cons de_int da_nil))) (lit_tup (lita_cons lit_c (lita_cons lit_c lita_nil)) (by decide))) da_nil)))))) (lit_tup (lita_cons lit_c (lita_cons lit_c (lita_cons lit_c (lita_cons lit_c (lita_cons lit_c lita_nil))))) (by decide))) da_nil)) (lit_tup (lita_cons lit_c lita_nil) (by decide))) da_nil))) (lit_tup (lita_cons lit_c (lita_cons lit_c lita_nil)) (by decide))) (da_cons (de_lit (v := (.tuple [(.int 2), (.tuple [(.tuple [(.int 0), (.int 1), (.int 0), (.tuple []), (.tuple [(.int 1), (.int 1)])])])])) (de_tup (da_cons de_int (da_cons (de_lit (v := (.tuple [(.tuple [(.int 0), (.int 1), (.int 0), (.tuple []), (.tuple [(.int 1), (.int 1)])])])) (de_tup (da_cons (de_lit (v := (.tuple [(.int 0), (.int 1), (.int 0), (.tuple []), (.tuple [(.int 1), (.int 1)])])) (de_tup (da_cons de_int (da_cons de_int (da_cons de_int (da_cons (de_tup da_nil) (da_cons (de_lit (v := (.tuple [(.int 1), (.int 1)])) (de_tup (da_cons de_int (da_cons de_int da_nil))) (lit_tup (lita_cons lit_c (lita_cons lit_c lita_nil)) (by decide))) da_nil)))))) (lit_tup (lita_cons lit_c (lita_cons lit_c (lita_cons lit_c (lita_cons (lit_tup lita_nil (by decide)) (lita_cons lit_c lita_nil))))) (by decide))) da_nil)) (lit_tup (lita_cons lit_c lita_nil) (by decide))) da_nil))) (lit_tup (lita_cons lit_c (lita_cons lit_c lita_nil)) (by decide))) (da_cons (de_lit (v := (.tuple [(.int 2), (.tuple [(.tuple [(.int 0), (.int 1), (.int 0), (.tuple []), (.tuple [(.int 0)])])])])) (de_tup (da_cons de_int (da_cons (de_lit (v := (.tuple [(.tuple [(.int 0), (.int 1), (.int 0), (.tuple []), (.tuple [(.int 0)])])])) (de_tup (da_cons (de_lit (v := (.tuple [(.int 0), (.int 1), (.int 0), (.tuple []), (.tuple [(.int 0)])])) (de_tup (da_cons de_int (da_cons de_int (da_cons de_int (da_cons (de_tup da_nil) (da_cons (de_lit (v := (.tuple [(.int 0)])) (de_tup (da_cons de_int da_nil)) (lit_tup (lita_cons lit_c lita_nil) (by decide))) da_nil)))))) (lit_tup (lita_cons lit_c (lita_cons lit_c (lita_cons lit_c (lita_cons (lit_tup lita_nil (by decide)) (lita_cons lit_c lita_nil))))) (by decide))) da_nil)) (lit_tup (lita_cons lit_c lita_nil) (by decide))) da_nil))) (lit_tup (lita_cons lit_c (lita_cons lit_c lita_nil)) (by decide))) (da_cons (de_tup da_nil) da_nil))))) (lit_lst (lita_cons lit_c (lita_cons lit_c (lita_cons lit_c (lita_cons (lit_tup lita_nil (by decide)) lita_nil)))) (by decide)))))
  (ds_cons (ds_setF (i := 2) sc_law_bounds.nd rfl (by first | exact Or.inl rfl | exact Or.inr rfl) (de_op od_add (de_var (i := 2)) (de_lst (da_cons (de_lit (v := (.tuple [(.int 3), (.tuple [(.tuple [(.int 0), (.int 1), (.int 0), (.tuple [(.int 2), (.int 1)]), (.tuple [(.int 0), (.int 1), (.int 1)])])])])) (de_tup (da_cons de_int (da_cons (de_lit (v := (.tuple [(.tuple [(.int 0), (.int 1), (.int 0), (.tuple [(.int 2), (.int 1)]), (.tuple [(.int 0), (.int 1), (.int 1)])])])) (de_tup (da_cons (de_lit (v := (.tuple [(.int 0), (.int 1), (.int 0), (.tuple [(.int 2), (.int 1)]), (.tuple [(.int 0), (.int 1), (.int 1)])])) (de_tup (da_cons de_int (da_cons de_int (da_cons de_int (da_cons (de_lit (v := (.tuple [(.int 2), (.int 1)])) (de_tup (da_cons de_int (da_cons de_int da_nil))) (lit_tup (lita_cons lit_c (lita_cons lit_c lita_nil)) (by decide))) (da_cons (de_lit (v := (.tuple [(.int 0), (.int 1), (.int 1)])) (de_tup (da_cons de_int (da_cons de_int (da_cons de_int da_nil)))) (lit_tup (lita_cons lit_c (lita_cons lit_c (lita_cons lit_c lita_nil))) (by decide))) da_nil)))))) (lit_tup (lita_cons lit_c (lita_cons lit_c (lita_cons lit_c (lita_cons lit_c (lita_cons lit_c lita_nil))))) (by decide))) da_nil)) (lit_tup (lita_cons lit_c lita_nil) (by decide))) da_nil))) (lit_tup (lita_cons lit_c (lita_cons lit_c lita_nil)) (by decide))) (da_cons (de_lit (v := (.tuple [(.int 3), (.tuple [(.tuple [(.int 0), (.int 1), (.int 0), (.tuple [(.int 1), (.int 1)]), (.tuple [(.int 0), (.int 1), (.int 1)])])])])) (de_tup (da_cons de_int (da_cons (de_lit (v := (.tuple [(.tuple [(.int 0), (.int 1), (.int 0), (.tuple [(.int 1), (.int 1)]), (.tuple [(.int 0), (.int 1), (.int 1)])])])) (de_tup (da_cons (de_lit (v := (.tuple [(.int 0), (.int 1), (.int 0), (.tuple [(.int 1), (.int 1)]), (.tuple [(.int 0), (.int 1), (.int 1)])])) (de_tup (da_cons de_int (da_cons de_int (da_cons de_int (da_cons (de_lit (v := (.tuple [(.int 1), (.int 1)])) (de_tup (da_cons de_int (da_cons de_int da_nil))) (lit_tup (lita_cons lit_c (lita_cons lit_c lita_nil)) (by decide))) (da_cons (de_lit (v := (.tuple [(.int 0), (.int 1), (.int 1)])) (de_tup (da_cons de_int (da_cons de_int (da_cons de_int da_nil)))) (lit_tup (lita_cons lit_c (lita_cons lit_c (lita_cons lit_c lita_nil))) (by decide))) da_nil)))))) (lit_tup (lita_cons lit_c (lita_cons lit_c (lita_cons lit_c (lita_cons lit_c (lita_cons lit_c lita_nil))))) (by decide))) da_nil)) (lit_tup (lita_cons lit_c lita_nil) (by decide))) da_nil))) (lit_tup (lita_cons lit_c (lita_cons lit_c lita_nil)) (by decide))) (da_cons (de_tup (da_cons de_int (da_cons (de_lst (da_cons (de_var (i := 0)) da_nil)) da_nil))) (da_cons (de_lit (v := (.tuple [(.bool true), (.tuple [])])) (de_tup (da_cons de_bl (da_cons (de_tup da_nil) da_nil))) (lit_tup (lita_cons lit_c (lita_cons (lit_tup lita_nil (by decide)) lita_nil)) (by decide))) da_nil)))))))
  (ds_cons (ds_if (db_cmp (od_ne hr.units) (de_lc (own := [("_law_one", 3)]) rfl sc_law_bounds.nd (di_seq (de_var (i := 1))) (blkOk_by (own := [("_law_one", 3)]) (N := N_law_bounds) (sc := defScope s_law_bounds) (by decide +kernel)) (by decide) (fun _ _ _ _ _ => (dg_name (i := 3) sc_law_bounds.nd rfl (by first | exact Or.inl rfl | exact Or.inr rfl))) (fun _ _ _ _ _ => (dts_one (db_not (db_tru (de_call (ok_law_is T) (hr.mono (by decide)) (by rfl) T.g_law_is T.F_law_is.kp T.b_law_is passL (da_cons (de_call (ok_is_protocol T) (hr.mono (by decide)) (by rfl) T.g_is_protocol T.F_is_protocol.kp T.b_is_protocol passL (da_cons (de_var (i := 3)) da_nil)) (da_cons de_bl da_nil))))))) (fun _ _ _ _ _ => (de_var (i := 3)))) (de_lst da_nil)) (ds_one (ds_ret de_bl)) ds_nil)
  (ds_one (ds_ret (de_cmp (od_eq hr.units) (de_lc (own := [("_law_one", 3)]) rfl sc_law_bounds.nd (di_seq (de_var (i := 2))) (blkOk_by (own := [("_law_one", 3)]) (N := N_law_bounds) (sc := defScope s_law_bounds) (by decide +kernel)) (by decide) (fun _ _ _ _ _ => (dg_name (i := 3) sc_law_bounds.nd rfl (by first | exact Or.inl rfl | exact Or.inr rfl))) (fun _ _ _ _ _ => (dts_one (db_not (db_tru (de_call (ok_law_is T) (hr.mono (by decide)) (by rfl) T.g_law_is T.F_law_is.kp T.b_law_is passL (da_cons (de_call (ok_is_protocol T) (hr.mono (by decide)) (by rfl) T.g_is_protocol T.F_is_protocol.kp T.b_is_protocol passL (da_cons (de_var (i := 3)) da_nil)) (da_cons de_bl da_nil))))))) (fun _ _ _ _ _ => (de_var (i := 3)))) (de_lst da_nil))))))))))) (rd_law_bounds _)
theorem ok_is_configuration (T : Tx P w K mg) : FnOk P w K mg base (L2.CX P w) 6 T.a_is_configuration T.d_is_configuration ["protocol", "value"] (spD (sp_is_configuration ⟨T.cls, K⟩)) :=
  fnD (t := t_is_configuration ⟨T.cls, K⟩) T.F_is_configuration sc_is_configuration (fun ss Q Ex h => by first | (unfold sp_is_configuration at h; split at h <;> first | rfl | exact h.elim) | (obtain ⟨_, _, rfl, _⟩ := h; rfl)) (fun cdv A outer s H E hr => (ds_cons (ds_expr (de_call (ok_check_protocol T) (hr.mono (by decide)) (by rfl) T.g_check_protocol T.F_check_protocol.kp T.b_check_protocol (passes_call (takes_of rfl rfl rfl rfl) (fun _ _ _ _ h => h)) (da_cons (de_var (i := 0)) da_nil)))
  (ds_one (ds_ret (de_call (ok_is_configuration_of T) (hr.mono (by decide)) (by rfl) T.g_is_configuration_of T.F_is_configuration_of.kp T.b_is_configuration_of (passes_call (takes_of rfl rfl rfl rfl) (fun _ _ _ _ h => h)) (da_cons (de_var (i := 0)) (da_cons (de_var (i := 1)) da_nil))))))) (rd_is_configuration _)
theorem ok_is_log (T : Tx P w K mg) : FnOk P w K mg base (L2.CX P w) 6 T.a_is_log T.d_is_log ["protocol", "value"] (spD (sp_is_log ⟨T.cls, K⟩)) :=
  fnD (t := t_is_log ⟨T.cls, K⟩) T.F_is_log sc_is_log (fun ss Q Ex h => by first | (unfold sp_is_log at h; split at h <;> first | rfl | exact h.elim) | (obtain ⟨_, _, rfl, _⟩ := h; rfl)) (fun cdv A outer s H E hr => (ds_cons (ds_expr (de_call (ok_check_protocol T) (hr.mono (by decide)) (by rfl) T.g_check_protocol T.F_check_protocol.kp T.b_check_protocol (passes_call (takes_of rfl rfl rfl rfl) (fun _ _ _ _ h => h)) (da_cons (de_var (i := 0)) da_nil)))
  (ds_one (ds_ret (de_call (ok_is_log_of T) (hr.mono (by decide)) (by rfl) T.g_is_log_of T.F_is_log_of.kp T.b_is_log_of (passes_call (takes_of rfl rfl rfl rfl) (fun _ _ _ _ h => h)) (da_cons (de_var (i := 0)) (da_cons (de_var (i := 1)) da_nil))))))) (rd_is_log _)
theorem ok_is_pattern (T : Tx P w K mg) : FnOk P w K mg base (L2.CX P w) 6 T.a_is_pattern T.d_is_pattern ["protocol", "value"] (spD (sp_is_pattern ⟨T.cls, K⟩)) :=
  fnD (t := t_is_pattern ⟨T.cls, K⟩) T.F_is_pattern sc_is_pattern (fun ss Q Ex h => by first | (unfold sp_is_pattern at h; split at h <;> first | rfl | exact h.elim) | (obtain ⟨_, _, rfl, _⟩ := h; rfl)) (fun cdv A outer s H E hr => (ds_cons (ds_expr (de_call (ok_check_protocol T) (hr.mono (by decide)) (by rfl) T.g_check_protocol T.F_check_protocol.kp T.b_check_protocol (passes_call (takes_of rfl rfl rfl rfl) (fun _ _ _ _ h => h)) (da_cons (de_var (i := 0)) da_nil)))
  (ds_one (ds_ret (de_call (ok_is_pattern_of T) (hr.mono (by decide)) (by rfl) T.g_is_pattern_of T.F_is_pattern_of.kp T.b_is_pattern_of (passes_call (takes_of rfl rfl rfl rfl) (fun _ _ _ _ h => h)) (da_cons (de_var (i := 0)) (da_cons (de_var (i := 1)) da_nil))))))) (rd_is_pattern _)
theorem ok_law_spoilt_ (T : Tx P w K mg) : ∀ d : Nat, FnOk P w K mg base (L2.CX P w) d T.a_law_spoilt T.d_law_spoilt ["_law_value_here"] (spD (sp_law_spoilt_ d ⟨T.cls, K⟩))
  | 0 => ⟨fun vs H Q E h => by
      obtain ⟨_, _, _, _, _, _, _, h, _⟩ := h
      unfold sp_law_spoilt_ at h
      split at h
      · exact absurd h.1 (Nat.not_lt_zero _)
      · exact h.elim, fun A outer s H args us vs Q E _ _ _ _ h => by
      obtain ⟨_, _, _, _, _, _, _, h, _⟩ := h
      unfold sp_law_spoilt_ at h
      split at h
      · exact absurd h.1 (Nat.not_lt_zero _)
      · exact h.elim⟩
  | d + 1 => by
    have hrec := ok_law_spoilt_ T d
    exact fnD (t := t_law_spoilt d ⟨T.cls, K⟩) T.F_law_spoilt sc_law_spoilt (fun ss Q Ex h => by first | (unfold sp_law_spoilt_ at h; split at h <;> first | rfl | exact h.elim) | (obtain ⟨_, _, rfl, _⟩ := h; rfl)) (fun cdv A outer s H E hr => (ds_cons (ds_set (i := 1) sc_law_spoilt.nd rfl (by first | exact Or.inl rfl | exact Or.inr rfl) (de_lst da_nil))
  (ds_cons (ds_if (db_not (db_tru (de_isi kitT_tuple T.m_isinstance T.m_tuple (by decide +kernel) (de_var (i := 0))))) (ds_one (ds_ret (de_var (i := 1)))) ds_nil)
  (ds_cons (ds_for (passes_of rfl) rfl (di_enum T.m_enumerate (de_var (i := 0))) (dg_tup rfl (dgs_cons (dg_name (i := 2) sc_law_spoilt.nd rfl (by first | exact Or.inl rfl | exact Or.inr rfl)) (dgs_cons (dg_name (i := 3) sc_law_spoilt.nd rfl (by first | exact Or.inl rfl | exact Or.inr rfl)) dgs_nil))) (ds_one (ds_for (passes_of rfl) rfl (di_seq (de_op od_add (de_litL (vs := [.none, (.tuple [(.str ("x" : Str))]), (.int (-1)), (.int 9), (.list []), (.bool true)]) (de_lst (da_cons de_non (da_cons (de_lit (v := (.tuple [(.str ("x" : Str))])) (de_tup (da_cons de_str da_nil)) (lit_tup (lita_cons lit_c lita_nil) (by decide))) (da_cons (de_neg de_int) (da_cons de_int (da_cons (de_lst da_nil) (da_cons de_bl da_nil))))))) (lit_lst (lita_cons lit_c (lita_cons lit_c (lita_cons (lit_neg lit_c) (lita_cons lit_c (lita_consL (lit_lst lita_nil (by decide)) (lita_cons lit_c lita_nil)))))) (by decide))) (de_call hrec hr (by rfl) T.g_law_spoilt T.F_law_spoilt.kp T.b_law_spoilt (passes_call (takes_of rfl rfl rfl rfl) (fun _ _ _ _ h => h)) (da_cons (de_var (i := 3)) da_nil)))) (dg_name (i := 4) sc_law_spoilt.nd rfl (by first | exact Or.inl rfl | exact Or.inr rfl)) (ds_one (ds_app (i := 1) rfl (by first | exact Or.inl rfl | exact Or.inr (Or.inl rfl)) (de_op od_add (de_op od_add (de_slice (de_var (i := 0)) do_none (do_some (de_var (i := 2)))) (de_tup (da_cons (de_var (i := 4)) da_nil))) (de_slice (de_var (i := 0)) (do_some (de_op od_add (de_var (i := 2)) de_int)) do_none)))))))
  (ds_one (ds_ret (de_op od_add (de_var (i := 1)) (de_lst (da_cons (de_t1 one_list T.m_list (by decide +kernel) (de_var (i := 0))) (da_cons (de_op od_add (de_var (i := 0)) (de_lit (v := (.tuple [.none])) (de_tup (da_cons de_non da_nil)) (lit_tup (lita_cons lit_c lita_nil) (by decide)))) da_nil)))))))))) (rd_law_spoilt d _)
theorem ok_law_spoilt (T : Tx P w K mg) : FnOk P w K mg base (L2.CX P w) 6 T.a_law_spoilt T.d_law_spoilt ["_law_value_here"] (spD (sp_law_spoilt ⟨T.cls, K⟩)) := ok_law_spoilt_ T 6
theorem ok_law_counts (T : Tx P w K mg) : FnOk P w K mg base (L2.CX P w) 7 T.a_law_counts T.d_law_counts ["_law_protocol_here", "_law_configuration"] (spD (sp_law_counts ⟨T.cls, K⟩)) :=
  fnD (t := t_law_counts ⟨T.cls, K⟩) T.F_law_counts sc_law_counts (fun ss Q Ex h => by first | (unfold sp_law_counts at h; split at h <;> first | rfl | exact h.elim) | (obtain ⟨_, _, rfl, _⟩ := h; rfl)) (fun cdv A outer s H E hr => (ds_cons (ds_setF (i := 2) sc_law_counts.nd rfl (by first | exact Or.inl rfl | exact Or.inr rfl) (de_ix (de_var (i := 0)) de_int (fun _ _ => rfl)))
  (ds_cons (ds_par (i := 3) (j := 4) rfl sc_law_counts.nd rfl rfl (by decide) rfl rfl (de_op od_add (de_lit (v := (.tuple [(.int 8)])) (de_tup (da_cons de_int da_nil)) (lit_tup (lita_cons lit_c lita_nil) (by decide))) (de_op od_mul (de_lit (v := (.tuple [(.int 0)])) (de_tup (da_cons de_int da_nil)) (lit_tup (lita_cons lit_c lita_nil) (by decide))) (de_op od_sub (de_var (i := 2)) de_int))) (de_op od_add (de_lit (v := (.tuple [(.int 0), (.int 9)])) (de_tup (da_cons de_int (da_cons de_int da_nil))) (lit_tup (lita_cons lit_c (lita_cons lit_c lita_nil)) (by decide))) (de_op od_mul (de_lit (v := (.tuple [(.int 0)])) (de_tup (da_cons de_int da_nil)) (lit_tup (lita_cons lit_c lita_nil) (by decide))) (de_op od_sub (de_var (i := 2)) de_int))) (by rfl))
  (ds_cons (ds_set (i := 5) sc_law_counts.nd rfl (by first | exact Or.inl rfl | exact Or.inr rfl) (de_lst (da_cons (de_call (ok_is_configuration T) (hr.mono (by decide)) (by rfl) T.g_is_configuration T.F_is_configuration.kp T.b_is_configuration (passes_call (takes_of rfl rfl rfl rfl) (fun _ _ _ _ h => h)) (da_cons (de_var (i := 0)) (da_cons (de_var (i := 3)) da_nil))) (da_cons (de_call (ok_is_configuration T) (hr.mono (by decide)) (by rfl) T.g_is_configuration T.F_is_configuration.kp T.b_is_configuration (passes_call (takes_of rfl rfl rfl rfl) (fun _ _ _ _ h => h)) (da_cons (de_var (i := 0)) (da_cons (de_var (i := 4)) da_nil))) da_nil))))
  (ds_cons (ds_app (i := 5) rfl (by first | exact Or.inl rfl | exact Or.inr (Or.inl rfl)) (de_call (ok_is_configuration T) (hr.mono (by decide)) (by rfl) T.g_is_configuration T.F_is_configuration.kp T.b_is_configuration (passes_call (takes_of rfl rfl rfl rfl) (fun _ _ _ _ h => h)) (da_cons (de_var (i := 0)) (da_cons (de_op od_mul (de_lit (v := (.tuple [(.int 0)])) (de_tup (da_cons de_int da_nil)) (lit_tup (lita_cons lit_c lita_nil) (by decide))) (de_var (i := 2))) da_nil))))
  (ds_cons (ds_app (i := 5) rfl (by first | exact Or.inl rfl | exact Or.inr (Or.inl rfl)) (de_call (ok_is_configuration T) (hr.mono (by decide)) (by rfl) T.g_is_configuration T.F_is_configuration.kp T.b_is_configuration (passes_call (takes_of rfl rfl rfl rfl) (fun _ _ _ _ h => h)) (da_cons (de_var (i := 0)) (da_cons (de_op od_mul (de_lit (v := (.tuple [(.int 1)])) (de_tup (da_cons de_int da_nil)) (lit_tup (lita_cons lit_c lita_nil) (by decide))) (de_op od_add (de_var (i := 2)) de_int)) da_nil))))
  (ds_cons (ds_app (i := 5) rfl (by first | exact Or.inl rfl | exact Or.inr (Or.inl rfl)) (de_call (ok_is_pattern T) (hr.mono (by decide)) (by rfl) T.g_is_pattern T.F_is_pattern.kp T.b_is_pattern (passes_call (takes_of rfl rfl rfl rfl) (fun _ _ _ _ h => h)) (da_cons (de_var (i := 0)) (da_cons (de_op od_add (de_lit (v := (.tuple [(.int 0), (.int 4)])) (de_tup (da_cons de_int (da_cons de_int da_nil))) (lit_tup (lita_cons lit_c (lita_cons lit_c lita_nil)) (by decide))) (de_op od_mul (de_lit (v := (.tuple [(.int 0)])) (de_tup (da_cons de_int da_nil)) (lit_tup (lita_cons lit_c lita_nil) (by decide))) (de_op od_sub (de_var (i := 2)) de_int))) da_nil))))
  (ds_cons (ds_app (i := 5) rfl (by first | exact Or.inl rfl | exact Or.inr (Or.inl rfl)) (de_call (ok_is_pattern T) (hr.mono (by decide)) (by rfl) T.g_is_pattern T.F_is_pattern.kp T.b_is_pattern (passes_call (takes_of rfl rfl rfl rfl) (fun _ _ _ _ h => h)) (da_cons (de_var (i := 0)) (da_cons (de_op od_add (de_lit (v := (.tuple [(.int 0), (.int 5)])) (de_tup (da_cons de_int (da_cons de_int da_nil))) (lit_tup (lita_cons lit_c (lita_cons lit_c lita_nil)) (by decide))) (de_op od_mul (de_lit (v := (.tuple [(.int 0)])) (de_tup (da_cons de_int da_nil)) (lit_tup (lita_cons lit_c lita_nil) (by decide))) (de_op od_sub (de_var (i := 2)) de_int))) da_nil))))
  (ds_cons (ds_app (i := 5) rfl (by first | exact Or.inl rfl | exact Or.inr (Or.inl rfl)) (de_call (ok_is_pattern T) (hr.mono (by decide)) (by rfl) T.g_is_pattern T.F_is_pattern.kp T.b_is_pattern (passes_call (takes_of rfl rfl rfl rfl) (fun _ _ _ _ h => h)) (da_cons (de_var (i := 0)) (da_cons (de_op od_mul (de_lit (v := (.tuple [(.int 0)])) (de_tup (da_cons de_int da_nil)) (lit_tup (lita_cons lit_c lita_nil) (by decide))) (de_var (i := 2))) da_nil))))
  (ds_cons (ds_app (i := 5) rfl (by first | exact Or.inl rfl | exact Or.inr (Or.inl rfl)) (de_call (ok_is_pattern T) (hr.mono (by decide)) (by rfl) T.g_is_pattern T.F_is_pattern.kp T.b_is_pattern (passes_call (takes_of rfl rfl rfl rfl) (fun _ _ _ _ h => h)) (da_cons (de_var (i := 0)) (da_cons (de_op od_add (de_lit (v := (.tuple [(.int 1), (.int 1)])) (de_tup (da_cons de_int (da_cons de_int da_nil))) (lit_tup (lita_cons lit_c (lita_cons lit_c lita_nil)) (by decide))) (de_op od_mul (de_lit (v := (.tuple [(.int 0)])) (de_tup (da_cons de_int da_nil)) (lit_tup (lita_cons lit_c lita_nil) (by decide))) (de_op od_sub (de_var (i := 2)) de_int))) da_nil))))
  (ds_cons (ds_set (i := 5) sc_law_counts.nd rfl (by first | exact Or.inl rfl | exact Or.inr rfl) (de_op od_add (de_var (i := 5)) (de_lst (da_cons (de_call (ok_is_log T) (hr.mono (by decide)) (by rfl) T.g_is_log T.F_is_log.kp T.b_is_log (passes_call (takes_of rfl rfl rfl rfl) (fun _ _ _ _ h => h)) (da_cons (de_var (i := 0)) (da_cons (de_op od_mul (de_tup (da_cons (de_var (i := 1)) da_nil)) de_int) da_nil))) (da_cons (de_call (ok_is_log T) (hr.mono (by decide)) (by rfl) T.g_is_log T.F_is_log.kp T.b_is_log (passes_call (takes_of rfl rfl rfl rfl) (fun _ _ _ _ h => h)) (da_cons (de_var (i := 0)) (da_cons (de_op od_mul (de_tup (da_cons (de_var (i := 1)) da_nil)) de_int) da_nil))) (da_cons (de_call (ok_is_log T) (hr.mono (by decide)) (by rfl) T.g_is_log T.F_is_log.kp T.b_is_log (passes_call (takes_of rfl rfl rfl rfl) (fun _ _ _ _ h => h)) (da_cons (de_var (i := 0)) (da_cons (de_tup da_nil) da_nil))) da_nil))))))
  (ds_cons (ds_app (i := 5) rfl (by first | exact Or.inl rfl | exact Or.inr (Or.inl rfl)) (de_call (ok_is_log T) (hr.mono (by decide)) (by rfl) T.g_is_log T.F_is_log.kp T.b_is_log (passes_call (takes_of rfl rfl rfl rfl) (fun _ _ _ _ h => h)) (da_cons (de_var (i := 0)) (da_cons (de_tup (da_cons (de_var (i := 3)) (da_cons (de_op od_add (de_lit (v := (.tuple [(.int 7), (.int 0)])) (de_tup (da_cons de_int (da_cons de_int da_nil))) (lit_tup (lita_cons lit_c (lita_cons lit_c lita_nil)) (by decide))) (de_op od_mul (de_lit (v := (.tuple [(.int 0)])) (de_tup (da_cons de_int da_nil)) (lit_tup (lita_cons lit_c lita_nil) (by decide))) (de_op od_sub (de_var (i := 2)) de_int))) da_nil))) da_nil))))
  (ds_one (ds_ret (de_cmp (od_eq hr.units) (de_var (i := 5)) (de_litL (vs := [(.bool true), (.bool false), (.bool false), (.bool false), (.bool true), (.bool false), (.bool false), (.bool false), (.bool true), (.bool false), (.bool false), (.bool false)]) (de_lst (da_cons de_bl (da_cons de_bl (da_cons de_bl (da_cons de_bl (da_cons de_bl (da_cons de_bl (da_cons de_bl (da_cons de_bl (da_cons de_bl (da_cons de_bl (da_cons de_bl (da_cons de_bl da_nil))))))))))))) (lit_lst (lita_cons lit_c (lita_cons lit_c (lita_cons lit_c (lita_cons lit_c (lita_cons lit_c (lita_cons lit_c (lita_cons lit_c (lita_cons lit_c (lita_cons lit_c (lita_cons lit_c (lita_cons lit_c (lita_cons lit_c lita_nil)))))))))))) (by decide)))))))))))))))))) (rd_law_counts _)
theorem ok_law (T : Tx P w K mg) {f : Addr} {fd : FuncData} (F : Fun K "law" "law" s_law f fd) : FnOk P w K mg base (L2.CX P w) 9 f fd ["_law_script"] (spLaw K) :=
  fnLaw (c := ⟨T.cls, K⟩) (t := t_law ⟨T.cls, K⟩) (y := "_law_town") (k := 7) rfl F sc_law (ok_begun T.F_law_begun sc_law_begun rfl) T.g_law_begun T.F_law_begun.kp T.b_law_begun rfl rfl
    (fun cdv A outer s H E => ⟨Or.inl rfl, by rfl, passes_call (takes_of rfl rfl rfl rfl) (fun _ _ _ _ h => h), by first | exact Or.inl rfl | exact Or.inr rfl, by rfl⟩)
    (fun cdv A outer s H E hr => (ds_cons (ds_for (passes_of rfl) rfl (di_rng1 T.m_range de_int) (dg_name (i := 2) sc_law.nd rfl (by first | exact Or.inl rfl | exact Or.inr rfl)) (ds_cons (ds_setF (i := 3) sc_law.nd rfl (by first | exact Or.inl rfl | exact Or.inr rfl) (de_call (ok_law_protocol T) (hr.mono (by decide)) (by rfl) T.g_law_protocol T.F_law_protocol.kp T.b_law_protocol (passes_call (takes_of rfl rfl rfl rfl) (fun _ _ _ _ h => h)) (da_cons (de_var (i := 0)) (da_cons (de_var (i := 1)) (da_cons de_int (da_cons de_int da_nil))))))
    (ds_cons (ds_if (db_not (db_tru (de_call (ok_law_is T) (hr.mono (by decide)) (by rfl) T.g_law_is T.F_law_is.kp T.b_law_is (passes_call (takes_of rfl rfl rfl rfl) (fun _ _ _ _ h => h)) (da_cons (de_callK0 (ok_is_protocol T) (hr.mono (by decide)) (by rfl) T.g_is_protocol T.F_is_protocol.kp T.k_is_protocol_0 (passes_call (takes_of rfl rfl rfl rfl) (fun _ _ _ _ h => h)) (dk_cons (de_var (i := 3)) dk_nil)) (da_cons de_bl da_nil))))) (ds_one (ds_ret de_bl)) ds_nil)
    (ds_cons (ds_setLcF (i := 4) (own := [("_law_odd", 5)]) rfl sc_law.nd rfl rfl (sw_true rfl rfl rfl (by decide +kernel)) (di_seq (de_call (ok_law_spoilt T) (hr.mono (by decide)) (by rfl) T.g_law_spoilt T.F_law_spoilt.kp T.b_law_spoilt (passes_call (takes_of rfl rfl rfl rfl) (fun _ _ _ _ h => h)) (da_cons (de_var (i := 3)) da_nil))) (blkOk_by (own := [("_law_odd", 5)]) (N := N_law) (sc := defScope s_law) (by decide +kernel)) (by decide) (fun _ _ _ _ _ => (dg_name (i := 5) sc_law.nd rfl (by first | exact Or.inl rfl | exact Or.inr rfl))) (fun _ _ _ _ _ => (dts_one (db_cmp (od_ne hr.units) (de_slice (de_var (i := 5)) (do_some de_int) do_none) (de_slice (de_var (i := 3)) (do_some de_int) do_none)))) (fun _ _ _ _ _ => (de_var (i := 5))))
    (ds_cons (ds_if (db_cmp (od_ne hr.units) (de_lc (own := [("_law_odd", 5)]) rfl sc_law.nd (di_seq (de_var (i := 4))) (blkOk_by (own := [("_law_odd", 5)]) (N := N_law) (sc := defScope s_law) (by decide +kernel)) (by decide) (fun _ _ _ _ _ => (dg_name (i := 5) sc_law.nd rfl (by first | exact Or.inl rfl | exact Or.inr rfl))) (fun _ _ _ _ _ => (dts_one (db_w (dw_and (db_cmp (od_eq hr.units) (de_ix (de_var (i := 5)) de_int (fun _ _ => rfl)) de_int) (dw_one_and (db_not (db_tru (de_call (ok_law_is T) (hr.mono (by decide)) (by rfl) T.g_law_is T.F_law_is.kp T.b_law_is passL (da_cons (de_call (ok_is_protocol T) (hr.mono (by decide)) (by rfl) T.g_is_protocol T.F_is_protocol.kp T.b_is_protocol passL (da_cons (de_var (i := 5)) da_nil)) (da_cons de_bl da_nil)))))))))) (fun _ _ _ _ _ => (de_var (i := 5)))) (de_lst da_nil)) (ds_one (ds_ret de_bl)) ds_nil)
    (ds_cons (ds_for (passes_of rfl) rfl (di_seq (de_call (ok_law_spoilt T) (hr.mono (by decide)) (by rfl) T.g_law_spoilt T.F_law_spoilt.kp T.b_law_spoilt (passes_call (takes_of rfl rfl rfl rfl) (fun _ _ _ _ h => h)) (da_cons (de_ix (de_var (i := 3)) de_int (fun _ _ => rfl)) da_nil))) (dg_name (i := 5) sc_law.nd rfl (by first | exact Or.inl rfl | exact Or.inr rfl)) (ds_one (ds_if (db_not (db_tru (de_call (ok_law_is T) (hr.mono (by decide)) (by rfl) T.g_law_is T.F_law_is.kp T.b_law_is (passes_call (takes_of rfl rfl rfl rfl) (fun _ _ _ _ h => h)) (da_cons (de_call (ok_is_protocol T) (hr.mono (by decide)) (by rfl) T.g_is_protocol T.F_is_protocol.kp T.b_is_protocol (passes_call (takes_of rfl rfl rfl rfl) (fun _ _ _ _ h => h)) (da_cons (de_tup (da_cons (de_ix (de_var (i := 3)) de_int (fun _ _ => rfl)) (da_cons (de_var (i := 5)) da_nil))) da_nil)) (da_cons de_bl da_nil))))) (ds_one (ds_ret de_bl)) ds_nil)))
    (ds_cons (ds_setF (i := 6) sc_law.nd rfl (by first | exact Or.inl rfl | exact Or.inr rfl) (de_call (ok_law_pattern T) (hr.mono (by decide)) (by rfl) T.g_law_pattern T.F_law_pattern.kp T.b_law_pattern (passes_call (takes_of rfl rfl rfl rfl) (fun _ _ _ _ h => h)) (da_cons (de_var (i := 0)) (da_cons (de_var (i := 1)) (da_cons (de_ix (de_var (i := 3)) de_int (fun _ _ => rfl)) (da_cons de_int da_nil))))))
    (ds_cons (ds_for (passes_of rfl) rfl (di_seq (de_call (ok_law_spoilt T) (hr.mono (by decide)) (by rfl) T.g_law_spoilt T.F_law_spoilt.kp T.b_law_spoilt (passes_call (takes_of rfl rfl rfl rfl) (fun _ _ _ _ h => h)) (da_cons (de_var (i := 6)) da_nil))) (dg_name (i := 5) sc_law.nd rfl (by first | exact Or.inl rfl | exact Or.inr rfl)) (ds_one (ds_if (db_w (dw_and (db_cmp (od_ne hr.units) (de_slice (de_var (i := 5)) do_none (do_some (de_neg de_int))) (de_var (i := 6))) (dw_and (db_cmp (od_notIn (hu65 hr)) de_int (de_var (i := 5))) (dw_one_and (db_not (db_tru (de_call (ok_law_is T) (hr.mono (by decide)) (by rfl) T.g_law_is T.F_law_is.kp T.b_law_is (passes_call (takes_of rfl rfl rfl rfl) (fun _ _ _ _ h => h)) (da_cons (de_call (ok_is_configuration T) (hr.mono (by decide)) (by rfl) T.g_is_configuration T.F_is_configuration.kp T.b_is_configuration (passes_call (takes_of rfl rfl rfl rfl) (fun _ _ _ _ h => h)) (da_cons (de_var (i := 3)) (da_cons (de_var (i := 5)) da_nil))) (da_cons de_bl da_nil))))))))) (ds_one (ds_ret de_bl)) ds_nil)))
    (ds_cons (ds_if (db_not (db_tru (de_call (ok_law_is T) (hr.mono (by decide)) (by rfl) T.g_law_is T.F_law_is.kp T.b_law_is (passes_call (takes_of rfl rfl rfl rfl) (fun _ _ _ _ h => h)) (da_cons (de_callK (ok_is_configuration T) (hr.mono (by decide)) (by rfl) T.g_is_configuration T.F_is_configuration.kp T.k_is_configuration_1 (passes_call (takes_of rfl rfl rfl rfl) (fun _ _ _ _ h => h)) (da_cons (de_var (i := 3)) da_nil) (dk_cons (de_var (i := 6)) dk_nil)) (da_cons de_bl da_nil))))) (ds_one (ds_ret de_bl)) ds_nil)
    (ds_cons (ds_setF (i := 7) sc_law.nd rfl (by first | exact Or.inl rfl | exact Or.inr rfl) (de_call (ok_law_pattern T) (hr.mono (by decide)) (by rfl) T.g_law_pattern T.F_law_pattern.kp T.b_law_pattern (passes_call (takes_of rfl rfl rfl rfl) (fun _ _ _ _ h => h)) (da_cons (de_var (i := 0)) (da_cons (de_var (i := 1)) (da_cons (de_ix (de_var (i := 3)) de_int (fun _ _ => rfl)) (da_cons de_int da_nil))))))
    (ds_cons (ds_if (db_not (db_tru (de_call (ok_law_is T) (hr.mono (by decide)) (by rfl) T.g_law_is T.F_law_is.kp T.b_law_is (passes_call (takes_of rfl rfl rfl rfl) (fun _ _ _ _ h => h)) (da_cons (de_callK (ok_is_pattern T) (hr.mono (by decide)) (by rfl) T.g_is_pattern T.F_is_pattern.kp T.k_is_pattern_1 (passes_call (takes_of rfl rfl rfl rfl) (fun _ _ _ _ h => h)) (da_cons (de_var (i := 3)) da_nil) (dk_cons (de_var (i := 7)) dk_nil)) (da_cons de_bl da_nil))))) (ds_one (ds_ret de_bl)) ds_nil)
    (ds_cons (ds_if (db_not (db_tru (de_call (ok_law_is T) (hr.mono (by decide)) (by rfl) T.g_law_is T.F_law_is.kp T.b_law_is (passes_call (takes_of rfl rfl rfl rfl) (fun _ _ _ _ h => h)) (da_cons (de_callK (ok_is_log T) (hr.mono (by decide)) (by rfl) T.g_is_log T.F_is_log.kp T.k_is_log_1 (passes_call (takes_of rfl rfl rfl rfl) (fun _ _ _ _ h => h)) (da_cons (de_var (i := 3)) da_nil) (dk_cons (de_tup (da_cons (de_var (i := 7)) da_nil)) dk_nil)) (da_cons de_bl da_nil))))) (ds_one (ds_ret de_bl)) ds_nil)
    (ds_cons (ds_for (passes_of rfl) rfl (di_seq (de_tup (da_cons de_non (da_cons (de_t1 one_list T.m_list (by decide +kernel) (de_var (i := 7))) (da_cons (de_slice (de_var (i := 7)) (do_some de_int) do_none) (da_cons (de_op od_add (de_var (i := 7)) (de_lit (v := (.tuple [(.int 0)])) (de_tup (da_cons de_int da_nil)) (lit_tup (lita_cons lit_c lita_nil) (by decide)))) (da_cons (de_op od_add (de_lit (v := (.tuple [(.int 0)])) (de_tup (da_cons de_int da_nil)) (lit_tup (lita_cons lit_c lita_nil) (by decide))) (de_op od_mul (de_lit (v := (.tuple [.none])) (de_tup (da_cons de_non da_nil)) (lit_tup (lita_cons lit_c lita_nil) (by decide))) (de_op od_sub (de_ix (de_var (i := 3)) de_int (fun _ _ => rfl)) de_int))) da_nil))))))) (dg_name (i := 5) sc_law.nd rfl (by first | exact Or.inl rfl | exact Or.inr rfl)) (ds_one (ds_if (db_w (dw_or (db_not (db_tru (de_call (ok_law_is T) (hr.mono (by decide)) (by rfl) T.g_law_is T.F_law_is.kp T.b_law_is (passes_call (takes_of rfl rfl rfl rfl) (fun _ _ _ _ h => h)) (da_cons (de_call (ok_is_pattern T) (hr.mono (by decide)) (by rfl) T.g_is_pattern T.F_is_pattern.kp T.b_is_pattern (passes_call (takes_of rfl rfl rfl rfl) (fun _ _ _ _ h => h)) (da_cons (de_var (i := 3)) (da_cons (de_var (i := 5)) da_nil))) (da_cons de_bl da_nil))))) (dw_one_or (db_not (db_tru (de_call (ok_law_is T) (hr.mono (by decide)) (by rfl) T.g_law_is T.F_law_is.kp T.b_law_is (passes_call (takes_of rfl rfl rfl rfl) (fun _ _ _ _ h => h)) (da_cons (de_call (ok_is_log T) (hr.mono (by decide)) (by rfl) T.g_is_log T.F_is_log.kp T.b_is_log (passes_call (takes_of rfl rfl rfl rfl) (fun _ _ _ _ h => h)) (da_cons (de_var (i := 3)) (da_cons (de_var (i := 5)) da_nil))) (da_cons de_bl da_nil)))))))) (ds_one (ds_ret de_bl)) ds_nil)))
    (ds_one (ds_if (db_not (db_tru (de_call (ok_law_counts T) (hr.mono (by decide)) (by rfl) T.g_law_counts T.F_law_counts.kp T.b_law_counts (passes_call (takes_of rfl rfl rfl rfl) (fun _ _ _ _ h => h)) (da_cons (de_var (i := 3)) (da_cons (de_var (i := 6)) da_nil))))) (ds_one (ds_ret de_bl)) ds_nil)))))))))))))))
  (ds_one (ds_ret (de_call0 (ok_law_bounds T) (hr.mono (by decide)) (by rfl) T.g_law_bounds T.F_law_bounds.kp T.b_law_bounds (passes_call (takes_of rfl rfl rfl rfl) (fun _ _ _ _ h => h)))))))
    (fun n hn => rd_law _ n hn)
end
theorem all_mk {P : Program} {w : World} {K : PySem.W.Frag} {h : Heap} {mg : Str → Option Value} {fa : Addr} (X : K.In h) (G : h.Ns mainGlobals mg) (hfa : mg "law" = some (.ref fa))
    {f0 : Addr} {od0 an0 : Option Addr} {sl0 : Array (Option Value)} {oc0 kV0 dc0 pm0 cd0 ct0 : Value}
    {f1 : Addr} {od1 an1 : Option Addr} {sl1 : Array (Option Value)} {oc1 kV1 dc1 pm1 cd1 ct1 : Value}
    {f2 : Addr} {od2 an2 : Option Addr} {sl2 : Array (Option Value)} {oc2 kV2 dc2 pm2 cd2 ct2 : Value}
    {f3 : Addr} {od3 an3 : Option Addr} {sl3 : Array (Option Value)} {oc3 kV3 dc3 pm3 cd3 ct3 : Value}
    {f4 : Addr} {od4 an4 : Option Addr} {sl4 : Array (Option Value)} {oc4 kV4 dc4 pm4 cd4 ct4 : Value}
    {f5 : Addr} {od5 an5 : Option Addr} {sl5 : Array (Option Value)} {oc5 kV5 dc5 pm5 cd5 ct5 : Value}
    {f6 : Addr} {od6 an6 : Option Addr} {sl6 : Array (Option Value)} {oc6 kV6 dc6 pm6 cd6 ct6 : Value}
    {f7 : Addr} {od7 an7 : Option Addr} {sl7 : Array (Option Value)} {oc7 kV7 dc7 pm7 cd7 ct7 : Value}
    {f8 : Addr} {od8 an8 : Option Addr} {sl8 : Array (Option Value)} {oc8 kV8 dc8 pm8 cd8 ct8 : Value}
    {f9 : Addr} {od9 an9 : Option Addr} {sl9 : Array (Option Value)} {oc9 kV9 dc9 pm9 cd9 ct9 : Value}
    {f10 : Addr} {od10 an10 : Option Addr} {sl10 : Array (Option Value)} {oc10 kV10 dc10 pm10 cd10 ct10 : Value}
    {f11 : Addr} {od11 an11 : Option Addr} {sl11 : Array (Option Value)} {oc11 kV11 dc11 pm11 cd11 ct11 : Value}
    {f12 : Addr} {od12 an12 : Option Addr} {sl12 : Array (Option Value)} {oc12 kV12 dc12 pm12 cd12 ct12 : Value}
    {f13 : Addr} {od13 an13 : Option Addr} {sl13 : Array (Option Value)} {oc13 kV13 dc13 pm13 cd13 ct13 : Value}
    {f14 : Addr} {od14 an14 : Option Addr} {sl14 : Array (Option Value)} {oc14 kV14 dc14 pm14 cd14 ct14 : Value}
    {f15 : Addr} {od15 an15 : Option Addr} {sl15 : Array (Option Value)} {oc15 kV15 dc15 pm15 cd15 ct15 : Value}
    {f16 : Addr} {od16 an16 : Option Addr} {sl16 : Array (Option Value)} {oc16 kV16 dc16 pm16 cd16 ct16 : Value}
    {f17 : Addr} {od17 an17 : Option Addr} {sl17 : Array (Option Value)} {oc17 kV17 dc17 pm17 cd17 ct17 : Value}
    {f18 : Addr} {od18 an18 : Option Addr} {sl18 : Array (Option Value)} {oc18 kV18 dc18 pm18 cd18 ct18 : Value}
    {f19 : Addr} {od19 an19 : Option Addr} {sl19 : Array (Option Value)} {oc19 kV19 dc19 pm19 cd19 ct19 : Value}
    {f20 : Addr} {od20 an20 : Option Addr} {sl20 : Array (Option Value)} {oc20 kV20 dc20 pm20 cd20 ct20 : Value}
    {f21 : Addr} {od21 an21 : Option Addr} {sl21 : Array (Option Value)} {oc21 kV21 dc21 pm21 cd21 ct21 : Value}
    {f22 : Addr} {od22 an22 : Option Addr} {sl22 : Array (Option Value)} {oc22 kV22 dc22 pm22 cd22 ct22 : Value}
    {f23 : Addr} {od23 an23 : Option Addr} {sl23 : Array (Option Value)} {oc23 kV23 dc23 pm23 cd23 ct23 : Value}
    {t_CACHES : Tok}
    {t_RULES : Tok}
    {C_InvalidProtocol : Addr}
    (a0 : PySem.W.nsIn K mainGlobals "is_between" = some (some (.ref f0)))
    (l0 : K.lookup f0 = some ⟨oc0, od0, .func (PySem.W.fnOf "is_between" "is_between" (defArgs s_is_between) (defBody s_is_between) (defScope s_is_between) .none kV0 dc0 pm0 an0 cd0 ct0), sl0⟩)
    (c0 : PySem.W.codeIn K cd0 "is_between" = true)
    (k0 : PySem.W.keepIn K (.ref f0) = true)
    (a1 : PySem.W.nsIn K mainGlobals "are_between" = some (some (.ref f1)))
    (l1 : K.lookup f1 = some ⟨oc1, od1, .func (PySem.W.fnOf "are_between" "are_between" (defArgs s_are_between) (defBody s_are_between) (defScope s_are_between) .none kV1 dc1 pm1 an1 cd1 ct1), sl1⟩)
    (c1 : PySem.W.codeIn K cd1 "are_between" = true)
    (k1 : PySem.W.keepIn K (.ref f1) = true)
    (a2 : PySem.W.nsIn K mainGlobals "is_ascending" = some (some (.ref f2)))
    (l2 : K.lookup f2 = some ⟨oc2, od2, .func (PySem.W.fnOf "is_ascending" "is_ascending" (defArgs s_is_ascending) (defBody s_is_ascending) (defScope s_is_ascending) .none kV2 dc2 pm2 an2 cd2 ct2), sl2⟩)
    (c2 : PySem.W.codeIn K cd2 "is_ascending" = true)
    (k2 : PySem.W.keepIn K (.ref f2) = true)
    (a3 : PySem.W.nsIn K mainGlobals "is_rule" = some (some (.ref f3)))
    (l3 : K.lookup f3 = some ⟨oc3, od3, .func (PySem.W.fnOf "is_rule" "is_rule" (defArgs s_is_rule) (defBody s_is_rule) (defScope s_is_rule) .none kV3 dc3 pm3 an3 cd3 ct3), sl3⟩)
    (c3 : PySem.W.codeIn K cd3 "is_rule" = true)
    (k3 : PySem.W.keepIn K (.ref f3) = true)
    (a4 : PySem.W.nsIn K mainGlobals "is_protocol" = some (some (.ref f4)))
    (l4 : K.lookup f4 = some ⟨oc4, od4, .func (PySem.W.fnOf "is_protocol" "is_protocol" (defArgs s_is_protocol) (defBody s_is_protocol) (defScope s_is_protocol) .none kV4 dc4 pm4 an4 cd4 ct4), sl4⟩)
    (c4 : PySem.W.codeIn K cd4 "is_protocol" = true)
    (k4 : PySem.W.keepIn K (.ref f4) = true)
    (a5 : PySem.W.nsIn K mainGlobals "check_protocol" = some (some (.ref f5)))
    (l5 : K.lookup f5 = some ⟨oc5, od5, .func (PySem.W.fnOf "check_protocol" "check_protocol" (defArgs s_check_protocol) (defBody s_check_protocol) (defScope s_check_protocol) .none kV5 dc5 pm5 an5 cd5 ct5), sl5⟩)
    (c5 : PySem.W.codeIn K cd5 "check_protocol" = true)
    (k5 : PySem.W.keepIn K (.ref f5) = true)
    (a6 : PySem.W.nsIn K mainGlobals "are_counts" = some (some (.ref f6)))
    (l6 : K.lookup f6 = some ⟨oc6, od6, .func (PySem.W.fnOf "are_counts" "are_counts" (defArgs s_are_counts) (defBody s_are_counts) (defScope s_are_counts) .none kV6 dc6 pm6 an6 cd6 ct6), sl6⟩)
    (c6 : PySem.W.codeIn K cd6 "are_counts" = true)
    (k6 : PySem.W.keepIn K (.ref f6) = true)
    (a7 : PySem.W.nsIn K mainGlobals "is_count" = some (some (.ref f7)))
    (l7 : K.lookup f7 = some ⟨oc7, od7, .func (PySem.W.fnOf "is_count" "is_count" (defArgs s_is_count) (defBody s_is_count) (defScope s_is_count) .none kV7 dc7 pm7 an7 cd7 ct7), sl7⟩)
    (c7 : PySem.W.codeIn K cd7 "is_count" = true)
    (k7 : PySem.W.keepIn K (.ref f7) = true)
    (a8 : PySem.W.nsIn K mainGlobals "is_configuration_of" = some (some (.ref f8)))
    (l8 : K.lookup f8 = some ⟨oc8, od8, .func (PySem.W.fnOf "is_configuration_of" "is_configuration_of" (defArgs s_is_configuration_of) (defBody s_is_configuration_of) (defScope s_is_configuration_of) .none kV8 dc8 pm8 an8 cd8 ct8), sl8⟩)
    (c8 : PySem.W.codeIn K cd8 "is_configuration_of" = true)
    (k8 : PySem.W.keepIn K (.ref f8) = true)
    (a9 : PySem.W.nsIn K mainGlobals "is_configuration" = some (some (.ref f9)))
    (l9 : K.lookup f9 = some ⟨oc9, od9, .func (PySem.W.fnOf "is_configuration" "is_configuration" (defArgs s_is_configuration) (defBody s_is_configuration) (defScope s_is_configuration) .none kV9 dc9 pm9 an9 cd9 ct9), sl9⟩)
    (c9 : PySem.W.codeIn K cd9 "is_configuration" = true)
    (k9 : PySem.W.keepIn K (.ref f9) = true)
    (a10 : PySem.W.nsIn K mainGlobals "is_log_of" = some (some (.ref f10)))
    (l10 : K.lookup f10 = some ⟨oc10, od10, .func (PySem.W.fnOf "is_log_of" "is_log_of" (defArgs s_is_log_of) (defBody s_is_log_of) (defScope s_is_log_of) .none kV10 dc10 pm10 an10 cd10 ct10), sl10⟩)
    (c10 : PySem.W.codeIn K cd10 "is_log_of" = true)
    (k10 : PySem.W.keepIn K (.ref f10) = true)
    (a11 : PySem.W.nsIn K mainGlobals "is_log" = some (some (.ref f11)))
    (l11 : K.lookup f11 = some ⟨oc11, od11, .func (PySem.W.fnOf "is_log" "is_log" (defArgs s_is_log) (defBody s_is_log) (defScope s_is_log) .none kV11 dc11 pm11 an11 cd11 ct11), sl11⟩)
    (c11 : PySem.W.codeIn K cd11 "is_log" = true)
    (k11 : PySem.W.keepIn K (.ref f11) = true)
    (a12 : PySem.W.nsIn K mainGlobals "is_pattern_of" = some (some (.ref f12)))
    (l12 : K.lookup f12 = some ⟨oc12, od12, .func (PySem.W.fnOf "is_pattern_of" "is_pattern_of" (defArgs s_is_pattern_of) (defBody s_is_pattern_of) (defScope s_is_pattern_of) .none kV12 dc12 pm12 an12 cd12 ct12), sl12⟩)
    (c12 : PySem.W.codeIn K cd12 "is_pattern_of" = true)
    (k12 : PySem.W.keepIn K (.ref f12) = true)
    (a13 : PySem.W.nsIn K mainGlobals "is_pattern" = some (some (.ref f13)))
    (l13 : K.lookup f13 = some ⟨oc13, od13, .func (PySem.W.fnOf "is_pattern" "is_pattern" (defArgs s_is_pattern) (defBody s_is_pattern) (defScope s_is_pattern) .none kV13 dc13 pm13 an13 cd13 ct13), sl13⟩)
    (c13 : PySem.W.codeIn K cd13 "is_pattern" = true)
    (k13 : PySem.W.keepIn K (.ref f13) = true)
    (a14 : PySem.W.nsIn K mainGlobals "_law_is" = some (some (.ref f14)))
    (l14 : K.lookup f14 = some ⟨oc14, od14, .func (PySem.W.fnOf "_law_is" "_law_is" (defArgs s_law_is) (defBody s_law_is) (defScope s_law_is) .none kV14 dc14 pm14 an14 cd14 ct14), sl14⟩)
    (c14 : PySem.W.codeIn K cd14 "_law_is" = true)
    (k14 : PySem.W.keepIn K (.ref f14) = true)
    (a15 : PySem.W.nsIn K mainGlobals "_law_draw" = some (some (.ref f15)))
    (l15 : K.lookup f15 = some ⟨oc15, od15, .func (PySem.W.fnOf "_law_draw" "_law_draw" (defArgs s_law_draw) (defBody s_law_draw) (defScope s_law_draw) .none kV15 dc15 pm15 an15 cd15 ct15), sl15⟩)
    (c15 : PySem.W.codeIn K cd15 "_law_draw" = true)
    (k15 : PySem.W.keepIn K (.ref f15) = true)
    (a16 : PySem.W.nsIn K mainGlobals "_law_rule" = some (some (.ref f16)))
    (l16 : K.lookup f16 = some ⟨oc16, od16, .func (PySem.W.fnOf "_law_rule" "_law_rule" (defArgs s_law_rule) (defBody s_law_rule) (defScope s_law_rule) .none kV16 dc16 pm16 an16 cd16 ct16), sl16⟩)
    (c16 : PySem.W.codeIn K cd16 "_law_rule" = true)
    (k16 : PySem.W.keepIn K (.ref f16) = true)
    (a17 : PySem.W.nsIn K mainGlobals "_law_protocol" = some (some (.ref f17)))
    (l17 : K.lookup f17 = some ⟨oc17, od17, .func (PySem.W.fnOf "_law_protocol" "_law_protocol" (defArgs s_law_protocol) (defBody s_law_protocol) (defScope s_law_protocol) .none kV17 dc17 pm17 an17 cd17 ct17), sl17⟩)
    (c17 : PySem.W.codeIn K cd17 "_law_protocol" = true)
    (k17 : PySem.W.keepIn K (.ref f17) = true)
    (a18 : PySem.W.nsIn K mainGlobals "_law_pattern" = some (some (.ref f18)))
    (l18 : K.lookup f18 = some ⟨oc18, od18, .func (PySem.W.fnOf "_law_pattern" "_law_pattern" (defArgs s_law_pattern) (defBody s_law_pattern) (defScope s_law_pattern) .none kV18 dc18 pm18 an18 cd18 ct18), sl18⟩)
    (c18 : PySem.W.codeIn K cd18 "_law_pattern" = true)
    (k18 : PySem.W.keepIn K (.ref f18) = true)
    (a19 : PySem.W.nsIn K mainGlobals "_law_spoilt" = some (some (.ref f19)))
    (l19 : K.lookup f19 = some ⟨oc19, od19, .func (PySem.W.fnOf "_law_spoilt" "_law_spoilt" (defArgs s_law_spoilt) (defBody s_law_spoilt) (defScope s_law_spoilt) .none kV19 dc19 pm19 an19 cd19 ct19), sl19⟩)
    (c19 : PySem.W.codeIn K cd19 "_law_spoilt" = true)
    (k19 : PySem.W.keepIn K (.ref f19) = true)
    (a20 : PySem.W.nsIn K mainGlobals "_law_bounds" = some (some (.ref f20)))
    (l20 : K.lookup f20 = some ⟨oc20, od20, .func (PySem.W.fnOf "_law_bounds" "_law_bounds" (defArgs s_law_bounds) (defBody s_law_bounds) (defScope s_law_bounds) .none kV20 dc20 pm20 an20 cd20 ct20), sl20⟩)
    (c20 : PySem.W.codeIn K cd20 "_law_bounds" = true)
    (k20 : PySem.W.keepIn K (.ref f20) = true)
    (a21 : PySem.W.nsIn K mainGlobals "_law_counts" = some (some (.ref f21)))
    (l21 : K.lookup f21 = some ⟨oc21, od21, .func (PySem.W.fnOf "_law_counts" "_law_counts" (defArgs s_law_counts) (defBody s_law_counts) (defScope s_law_counts) .none kV21 dc21 pm21 an21 cd21 ct21), sl21⟩)
    (c21 : PySem.W.codeIn K cd21 "_law_counts" = true)
    (k21 : PySem.W.keepIn K (.ref f21) = true)
    (a22 : PySem.W.nsIn K mainGlobals "_law_begun" = some (some (.ref f22)))
    (l22 : K.lookup f22 = some ⟨oc22, od22, .func (PySem.W.fnOf "_law_begun" "_law_begun" (defArgs s_law_begun) (defBody s_law_begun) (defScope s_law_begun) .none kV22 dc22 pm22 an22 cd22 ct22), sl22⟩)
    (c22 : PySem.W.codeIn K cd22 "_law_begun" = true)
    (k22 : PySem.W.keepIn K (.ref f22) = true)
    (a23 : PySem.W.nsIn K mainGlobals "law" = some (some (.ref f23)))
    (l23 : K.lookup f23 = some ⟨oc23, od23, .func (PySem.W.fnOf "law" "law" (defArgs s_law) (defBody s_law) (defScope s_law) .none kV23 dc23 pm23 an23 cd23 ct23), sl23⟩)
    (c23 : PySem.W.codeIn K cd23 "law" = true)
    (k23 : PySem.W.keepIn K (.ref f23) = true)
    (z_all : PySem.W.nsIn K mainGlobals "all" = some none)
    (z_bool : PySem.W.nsIn K mainGlobals "bool" = some none)
    (z_enumerate : PySem.W.nsIn K mainGlobals "enumerate" = some none)
    (z_int : PySem.W.nsIn K mainGlobals "int" = some none)
    (z_isinstance : PySem.W.nsIn K mainGlobals "isinstance" = some none)
    (z_len : PySem.W.nsIn K mainGlobals "len" = some none)
    (z_list : PySem.W.nsIn K mainGlobals "list" = some none)
    (z_range : PySem.W.nsIn K mainGlobals "range" = some none)
    (z_sum : PySem.W.nsIn K mainGlobals "sum" = some none)
    (z_tuple : PySem.W.nsIn K mainGlobals "tuple" = some none)
    (z_zip : PySem.W.nsIn K mainGlobals "zip" = some none)
    (m_CACHES : PySem.W.nsIn K mainGlobals "CACHES" = some (some (.int 8 t_CACHES)))
    (m_RULES : PySem.W.nsIn K mainGlobals "RULES" = some (some (.int 8 t_RULES)))
    (g_InvalidProtocol : PySem.W.nsIn K mainGlobals "InvalidProtocol" = some (some (.ref C_InvalidProtocol)))
    (x_InvalidProtocol : PySem.W.excIn K C_InvalidProtocol [.type "ValueError", .type "Exception", .type "BaseException", .type "object"] "ValueError.__new__" = true)
    (kk_InvalidProtocol : PySem.W.keepIn K (.ref C_InvalidProtocol) = true)
    (b_InvalidProtocol : PySem.W.subIn K (.ref C_InvalidProtocol) (.type "BaseException") = some true)
    (t_InvalidProtocol : PySem.W.typeIn K (.ref C_InvalidProtocol) = some (.type "type")) :
    ∃ fd : FuncData, (∀ (s : Shared) (v : Value), BindsTo s fd ⟨[v], []⟩ [("_law_script", v)]) ∧ ∀ base : Heap, K.In base → base.Ns mainGlobals mg → FnOk P w K mg base (L2.CX P w) 9 fa fd ["_law_script"] (spLaw K) := by
  have e := hfa.symm.trans (PySem.W.mg_of X G a23)
  cases e
  have F0 := fun_mk (st := s_is_between) l0 c0 k0
  have F1 := fun_mk (st := s_are_between) l1 c1 k1
  have F2 := fun_mk (st := s_is_ascending) l2 c2 k2
  have F3 := fun_mk (st := s_is_rule) l3 c3 k3
  have F4 := fun_mk (st := s_is_protocol) l4 c4 k4
  have F5 := fun_mk (st := s_check_protocol) l5 c5 k5
  have F6 := fun_mk (st := s_are_counts) l6 c6 k6
  have F7 := fun_mk (st := s_is_count) l7 c7 k7
  have F8 := fun_mk (st := s_is_configuration_of) l8 c8 k8
  have F9 := fun_mk (st := s_is_configuration) l9 c9 k9
  have F10 := fun_mk (st := s_is_log_of) l10 c10 k10
  have F11 := fun_mk (st := s_is_log) l11 c11 k11
  have F12 := fun_mk (st := s_is_pattern_of) l12 c12 k12
  have F13 := fun_mk (st := s_is_pattern) l13 c13 k13
  have F14 := fun_mk (st := s_law_is) l14 c14 k14
  have F15 := fun_mk (st := s_law_draw) l15 c15 k15
  have F16 := fun_mk (st := s_law_rule) l16 c16 k16
  have F17 := fun_mk (st := s_law_protocol) l17 c17 k17
  have F18 := fun_mk (st := s_law_pattern) l18 c18 k18
  have F19 := fun_mk (st := s_law_spoilt) l19 c19 k19
  have F20 := fun_mk (st := s_law_bounds) l20 c20 k20
  have F21 := fun_mk (st := s_law_counts) l21 c21 k21
  have F22 := fun_mk (st := s_law_begun) l22 c22 k22
  have F23 := fun_mk (st := s_law) l23 c23 k23
  have B0 := F0.binds (ps := ["value", "low", "high"]) fun _ _ _ _ _ _ us hl => match us, hl with | [_, _, _], _ => rfl
  have B1 := F1.binds (ps := ["values", "low", "high"]) fun _ _ _ _ _ _ us hl => match us, hl with | [_, _, _], _ => rfl
  have B2 := F2.binds (ps := ["values"]) fun _ _ _ _ _ _ us hl => match us, hl with | [_], _ => rfl
  have B3 := F3.binds (ps := ["many", "value"]) fun _ _ _ _ _ _ us hl => match us, hl with | [_, _], _ => rfl
  have B4 := F4.binds (ps := ["value"]) fun _ _ _ _ _ _ us hl => match us, hl with | [_], _ => rfl
  have B5 := F5.binds (ps := ["protocol"]) fun _ _ _ _ _ _ us hl => match us, hl with | [_], _ => rfl
  have B6 := F6.binds (ps := ["protocol", "value"]) fun _ _ _ _ _ _ us hl => match us, hl with | [_, _], _ => rfl
  have B7 := F7.binds (ps := ["value"]) fun _ _ _ _ _ _ us hl => match us, hl with | [_], _ => rfl
  have B8 := F8.binds (ps := ["protocol", "value"]) fun _ _ _ _ _ _ us hl => match us, hl with | [_, _], _ => rfl
  have B9 := F9.binds (ps := ["protocol", "value"]) fun _ _ _ _ _ _ us hl => match us, hl with | [_, _], _ => rfl
  have B10 := F10.binds (ps := ["protocol", "value"]) fun _ _ _ _ _ _ us hl => match us, hl with | [_, _], _ => rfl
  have B11 := F11.binds (ps := ["protocol", "value"]) fun _ _ _ _ _ _ us hl => match us, hl with | [_, _], _ => rfl
  have B12 := F12.binds (ps := ["protocol", "value"]) fun _ _ _ _ _ _ us hl => match us, hl with | [_, _], _ => rfl
  have B13 := F13.binds (ps := ["protocol", "value"]) fun _ _ _ _ _ _ us hl => match us, hl with | [_, _], _ => rfl
  have B14 := F14.binds (ps := ["_law_result", "_law_expected"]) fun _ _ _ _ _ _ us hl => match us, hl with | [_, _], _ => rfl
  have B15 := F15.binds (ps := ["_law_script", "_law_town", "_law_many"]) fun _ _ _ _ _ _ us hl => match us, hl with | [_, _, _], _ => rfl
  have B16 := F16.binds (ps := ["_law_script", "_law_town", "_law_many"]) fun _ _ _ _ _ _ us hl => match us, hl with | [_, _, _], _ => rfl
  have B17 := F17.binds (ps := ["_law_script", "_law_town", "_law_states", "_law_rules"]) fun _ _ _ _ _ _ us hl => match us, hl with | [_, _, _, _], _ => rfl
  have B18 := F18.binds (ps := ["_law_script", "_law_town", "_law_many", "_law_most"]) fun _ _ _ _ _ _ us hl => match us, hl with | [_, _, _, _], _ => rfl
  have B19 := F19.binds (ps := ["_law_value_here"]) fun _ _ _ _ _ _ us hl => match us, hl with | [_], _ => rfl
  have B20 := F20.binds (ps := []) fun _ _ _ _ _ _ us hl => match us, hl with | [], _ => rfl
  have B21 := F21.binds (ps := ["_law_protocol_here", "_law_configuration"]) fun _ _ _ _ _ _ us hl => match us, hl with | [_, _], _ => rfl
  have B22 := F22.binds (ps := []) fun _ _ _ _ _ _ us hl => match us, hl with | [], _ => rfl
  let T : Tx P w K mg := {
    cls := fun n => if n = "InvalidProtocol" then C_InvalidProtocol else 0
    a_is_between := f0, d_is_between := _, F_is_between := F0, g_is_between := PySem.W.mg_of X G a0, b_is_between := B0
    a_are_between := f1, d_are_between := _, F_are_between := F1, g_are_between := PySem.W.mg_of X G a1, b_are_between := B1
    a_is_ascending := f2, d_is_ascending := _, F_is_ascending := F2, g_is_ascending := PySem.W.mg_of X G a2, b_is_ascending := B2
    a_is_rule := f3, d_is_rule := _, F_is_rule := F3, g_is_rule := PySem.W.mg_of X G a3, b_is_rule := B3
    a_is_protocol := f4, d_is_protocol := _, F_is_protocol := F4, g_is_protocol := PySem.W.mg_of X G a4, b_is_protocol := B4
    a_check_protocol := f5, d_check_protocol := _, F_check_protocol := F5, g_check_protocol := PySem.W.mg_of X G a5, b_check_protocol := B5
    a_are_counts := f6, d_are_counts := _, F_are_counts := F6, g_are_counts := PySem.W.mg_of X G a6, b_are_counts := B6
    a_is_count := f7, d_is_count := _, F_is_count := F7, g_is_count := PySem.W.mg_of X G a7, b_is_count := B7
    a_is_configuration_of := f8, d_is_configuration_of := _, F_is_configuration_of := F8, g_is_configuration_of := PySem.W.mg_of X G a8, b_is_configuration_of := B8
    a_is_configuration := f9, d_is_configuration := _, F_is_configuration := F9, g_is_configuration := PySem.W.mg_of X G a9, b_is_configuration := B9
    a_is_log_of := f10, d_is_log_of := _, F_is_log_of := F10, g_is_log_of := PySem.W.mg_of X G a10, b_is_log_of := B10
    a_is_log := f11, d_is_log := _, F_is_log := F11, g_is_log := PySem.W.mg_of X G a11, b_is_log := B11
    a_is_pattern_of := f12, d_is_pattern_of := _, F_is_pattern_of := F12, g_is_pattern_of := PySem.W.mg_of X G a12, b_is_pattern_of := B12
    a_is_pattern := f13, d_is_pattern := _, F_is_pattern := F13, g_is_pattern := PySem.W.mg_of X G a13, b_is_pattern := B13
    a_law_is := f14, d_law_is := _, F_law_is := F14, g_law_is := PySem.W.mg_of X G a14, b_law_is := B14
    a_law_draw := f15, d_law_draw := _, F_law_draw := F15, g_law_draw := PySem.W.mg_of X G a15, b_law_draw := B15
    a_law_rule := f16, d_law_rule := _, F_law_rule := F16, g_law_rule := PySem.W.mg_of X G a16, b_law_rule := B16
    a_law_protocol := f17, d_law_protocol := _, F_law_protocol := F17, g_law_protocol := PySem.W.mg_of X G a17, b_law_protocol := B17
    a_law_pattern := f18, d_law_pattern := _, F_law_pattern := F18, g_law_pattern := PySem.W.mg_of X G a18, b_law_pattern := B18
    a_law_spoilt := f19, d_law_spoilt := _, F_law_spoilt := F19, g_law_spoilt := PySem.W.mg_of X G a19, b_law_spoilt := B19
    a_law_bounds := f20, d_law_bounds := _, F_law_bounds := F20, g_law_bounds := PySem.W.mg_of X G a20, b_law_bounds := B20
    a_law_counts := f21, d_law_counts := _, F_law_counts := F21, g_law_counts := PySem.W.mg_of X G a21, b_law_counts := B21
    a_law_begun := f22, d_law_begun := _, F_law_begun := F22, g_law_begun := PySem.W.mg_of X G a22, b_law_begun := B22
    k_is_configuration_1 := KB.mk' fun s us ws h1 h2 => match us, ws, h1, h2 with | [_], [_], _, _ => .of_eq rfl
    k_is_log_1 := KB.mk' fun s us ws h1 h2 => match us, ws, h1, h2 with | [_], [_], _, _ => .of_eq rfl
    k_is_pattern_1 := KB.mk' fun s us ws h1 h2 => match us, ws, h1, h2 with | [_], [_], _, _ => .of_eq rfl
    k_is_protocol_0 := KB.mk' fun s us ws h1 h2 => match us, ws, h1, h2 with | [], [_], _, _ => .of_eq rfl
    m_all := PySem.W.mg_none_of X G z_all
    m_bool := PySem.W.mg_none_of X G z_bool
    m_enumerate := PySem.W.mg_none_of X G z_enumerate
    m_int := PySem.W.mg_none_of X G z_int
    m_isinstance := PySem.W.mg_none_of X G z_isinstance
    m_len := PySem.W.mg_none_of X G z_len
    m_list := PySem.W.mg_none_of X G z_list
    m_range := PySem.W.mg_none_of X G z_range
    m_sum := PySem.W.mg_none_of X G z_sum
    m_tuple := PySem.W.mg_none_of X G z_tuple
    m_zip := PySem.W.mg_none_of X G z_zip
    t_CACHES := t_CACHES, m_CACHES := PySem.W.mg_of X G m_CACHES
    t_RULES := t_RULES, m_RULES := PySem.W.mg_of X G m_RULES
    x_InvalidProtocol := x_InvalidProtocol, gc_InvalidProtocol := PySem.W.mg_of X G g_InvalidProtocol, kc_InvalidProtocol := kk_InvalidProtocol, bc_InvalidProtocol := b_InvalidProtocol, tc_InvalidProtocol := t_InvalidProtocol
  }
  exact ⟨_, fun s v => .of_eq rfl, fun base _ _ => ok_law T F23⟩
end DL
open PySem PySem.W PyProof.Rows
set_option maxHeartbeats 0 in
theorem PySem.Challenge.cw_manycaches_k01_not_protocols_holds : PySem.Challenge.rw_manycaches_k01_not_protocols.Holds := by
  w_on; o_law; k_head; (case hw => w_witness2)
  k_fill
  refine L2.walk_of (l := PySem.Challenge.rw_manycaches_k01_not_protocols) (n := 63) (k := 9) (x := "_law_script") (CX := fun w => L2.CX (PySem.Challenge.rw_manycaches_k01_not_protocols).prog w) (sp := fun w => DL.spLaw _) rfl (by decide) rfl ⟨rfl, by decide, by decide⟩ (fun w h Y => PySem.W.kIn_of Y) ?F (fun _ _ a ns hl _ hS => ⟨a, ns, rfl, hS, hl, fun _ => rfl⟩) (fun _ _ _ _ _ h => by
    obtain ⟨_, _, _, _, _, _, _, _, _, _, _, _, z⟩ := h
    exact z)
  case F =>
    intro w mg fa h KX G hmg
    refine' DL.all_mk KX G hmg ?a0 ?l0 ?c0 ?k0 ?a1 ?l1 ?c1 ?k1 ?a2 ?l2 ?c2 ?k2 ?a3 ?l3 ?c3 ?k3 ?a4 ?l4 ?c4 ?k4 ?a5 ?l5 ?c5 ?k5 ?a6 ?l6 ?c6 ?k6 ?a7 ?l7 ?c7 ?k7 ?a8 ?l8 ?c8 ?k8 ?a9 ?l9 ?c9 ?k9 ?a10 ?l10 ?c10 ?k10 ?a11 ?l11 ?c11 ?k11 ?a12 ?l12 ?c12 ?k12 ?a13 ?l13 ?c13 ?k13 ?a14 ?l14 ?c14 ?k14 ?a15 ?l15 ?c15 ?k15 ?a16 ?l16 ?c16 ?k16 ?a17 ?l17 ?c17 ?k17 ?a18 ?l18 ?c18 ?k18 ?a19 ?l19 ?c19 ?k19 ?a20 ?l20 ?c20 ?k20 ?a21 ?l21 ?c21 ?k21 ?a22 ?l22 ?c22 ?k22 ?a23 ?l23 ?c23 ?k23 ?z_all ?z_bool ?z_enumerate ?z_int ?z_isinstance ?z_len ?z_list ?z_range ?z_sum ?z_tuple ?z_zip ?m_CACHES ?m_RULES ?g_InvalidProtocol ?x_InvalidProtocol ?kk_InvalidProtocol ?b_InvalidProtocol ?t_InvalidProtocol
    (case a0 => k_is); (case l0 => k_is); (case c0 => k_is); (case k0 => k_is); (case a1 => k_is); (case l1 => k_is); (case c1 => k_is); (case k1 => k_is); (case a2 => k_is); (case l2 => k_is); (case c2 => k_is); (case k2 => k_is); (case a3 => k_is); (case l3 => k_is); (case c3 => k_is); (case k3 => k_is); (case a4 => k_is); (case l4 => k_is); (case c4 => k_is); (case k4 => k_is); (case a5 => k_is); (case l5 => k_is); (case c5 => k_is); (case k5 => k_is); (case a6 => k_is); (case l6 => k_is); (case c6 => k_is); (case k6 => k_is); (case a7 => k_is); (case l7 => k_is); (case c7 => k_is); (case k7 => k_is); (case a8 => k_is); (case l8 => k_is); (case c8 => k_is); (case k8 => k_is); (case a9 => k_is); (case l9 => k_is); (case c9 => k_is); (case k9 => k_is); (case a10 => k_is); (case l10 => k_is); (case c10 => k_is); (case k10 => k_is); (case a11 => k_is); (case l11 => k_is); (case c11 => k_is); (case k11 => k_is); (case a12 => k_is); (case l12 => k_is); (case c12 => k_is); (case k12 => k_is); (case a13 => k_is); (case l13 => k_is); (case c13 => k_is); (case k13 => k_is); (case a14 => k_is); (case l14 => k_is); (case c14 => k_is); (case k14 => k_is); (case a15 => k_is); (case l15 => k_is); (case c15 => k_is); (case k15 => k_is); (case a16 => k_is); (case l16 => k_is); (case c16 => k_is); (case k16 => k_is); (case a17 => k_is); (case l17 => k_is); (case c17 => k_is); (case k17 => k_is); (case a18 => k_is); (case l18 => k_is); (case c18 => k_is); (case k18 => k_is); (case a19 => k_is); (case l19 => k_is); (case c19 => k_is); (case k19 => k_is); (case a20 => k_is); (case l20 => k_is); (case c20 => k_is); (case k20 => k_is); (case a21 => k_is); (case l21 => k_is); (case c21 => k_is); (case k21 => k_is); (case a22 => k_is); (case l22 => k_is); (case c22 => k_is); (case k22 => k_is); (case a23 => k_is); (case l23 => k_is); (case c23 => k_is); (case k23 => k_is); (case z_all => k_is); (case z_bool => k_is); (case z_enumerate => k_is); (case z_int => k_is); (case z_isinstance => k_is); (case z_len => k_is); (case z_list => k_is); (case z_range => k_is); (case z_sum => k_is); (case z_tuple => k_is); (case z_zip => k_is); (case m_CACHES => k_is); (case m_RULES => k_is); (case g_InvalidProtocol => k_is); (case x_InvalidProtocol => k_exc); (case kk_InvalidProtocol => k_is); (case b_InvalidProtocol => k_is); (case t_InvalidProtocol => k_is)
