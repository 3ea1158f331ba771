import PyProof.Rows.All
import Wide.All
import OpenK.AllK
import Wide.FinOn
import HandS.ForMost
import HandS.IsInst
import HandS.TryMany
import HandS.ExcInit
import HandS.ExcOwn
import HandS.ExcField
import HandS.Conv
import HandS.TupMul
import HandS.Style
import HandS.Wide
import HandS.Flow
import HandS.Steps
import HandS.Deep
import KE.KExcIs
import HandS.IterVal
import HandS.WordsExc
import PySem.Challenge.RW_semigroupbench_k07_simple_semigroups
set_option Elab.async false
set_option linter.all false
set_option maxRecDepth 100000
set_option maxHeartbeats 2000000
/-! DL: data over the hand layer: what an expression's reading gives as data, what a statement's reading makes of slots that hold data. -/
namespace DL
open PySem PySem.Spec PyProof.Rows L2
abbrev Sg := List (Option V)

/-- data, without addresses -/
inductive D where
  | non | bl (b : Bool) | int (i : Int) | str (x : Str)
  | tup (ds : List D) | lst (ds : List D) | dct (kvs : List (Key × D)) | op (v : V) | idn (v : V) (d : D)

def Ex (H H' : Hp) : Prop := ∀ a o, H a = some o → H' a = some o
theorem Ex.refl (H : Hp) : Ex H H := fun _ _ h => h
theorem Ex.trans {H H1 H2 : Hp} (a : Ex H H1) (b : Ex H1 H2) : Ex H H2 := fun x o h => b x o (a x o h)
theorem Ex.new {H : Hp} {p : Addr} {o : HO} (h : H p = none) : Ex H (upd H p o) := fun a u e => by
  rw [upd_ne (ne_of_none e h)]; exact e
theorem Ex.back {H H' : Hp} {p : Addr} (e : Ex H H') (h : H' p = none) : H p = none := by
  cases h1 : H p with
  | none => rfl
  | some o => rw [e p o h1] at h; cases h
theorem ex_rd {H H' : Hp} {a : Addr} {u : HO} (e : Ex H H') (h : Rd H a u) : Rd H' a u := by
  rcases h with h | ⟨o, h⟩
  · exact Or.inl (e a _ h)
  · exact Or.inr ⟨o, e a _ h⟩
theorem ex_l {K : PySem.W.Frag} {H H' : Hp} {a : Addr} {xs : List V} (e : Ex H H') (h : SqL K H a xs) : SqL K H' a xs := by
  rcases h with h | h
  · exact Or.inl (ex_rd e h)
  · exact Or.inr h
theorem ex_t {K : PySem.W.Frag} {H H' : Hp} {a : Addr} {xs : List V} (e : Ex H H') (h : SqT K H a xs) : SqT K H' a xs := by
  rcases h with h | h
  · exact Or.inl (ex_rd e h)
  · exact Or.inr h

mutual
/-- in the view G the value v is the data d -/
inductive Dat (K : PySem.W.Frag) (G : Hp) : V → D → Prop
  | non : Dat K G .non .non
  | bl (b : Bool) : Dat K G (.bl b) (.bl b)
  | int (i : Int) : Dat K G (.int i) (.int i)
  | str (x : Str) : Dat K G (.str x) (.str x)
  | tup {a : Addr} {xs : List V} {ds : List D} : SqT K G a xs → DatL K G xs ds → Dat K G (.ref a) (.tup ds)
  | lst {a : Addr} {xs : List V} {ds : List D} : G a = some (.lst xs) → DatL K G xs ds → Dat K G (.ref a) (.lst ds)
  | dct {a : Addr} {kvs : List (Key × V)} {kds : List (Key × D)} : G a = some (.dK kvs) → DatK K G kvs kds → Dat K G (.ref a) (.dct kds)
  | op (v : V) : Dat K G v (.op v)
  | idn {v : V} {d : D} : Dat K G v d → Dat K G v (.idn v d)
inductive DatL (K : PySem.W.Frag) (G : Hp) : List V → List D → Prop
  | nil : DatL K G [] []
  | cons {v : V} {vs : List V} {d : D} {ds : List D} : Dat K G v d → DatL K G vs ds → DatL K G (v :: vs) (d :: ds)
inductive DatK (K : PySem.W.Frag) (G : Hp) : List (Key × V) → List (Key × D) → Prop
  | nil : DatK K G [] []
  | cons {k : Key} {v : V} {vs : List (Key × V)} {d : D} {ds : List (Key × D)} : Dat K G v d → DatK K G vs ds → DatK K G ((k, v) :: vs) ((k, d) :: ds)
end
section
variable {K : PySem.W.Frag} {G G' H H' : Hp}
mutual
theorem Dat.mono (e : Ex G G') : ∀ (d : D) (v : V), Dat K G v d → Dat K G' v d
  | .non, _, h => by cases h; exact .non
  | .bl b, _, h => by cases h; exact .bl b
  | .int i, _, h => by cases h; exact .int i
  | .str x, _, h => by cases h; exact .str x
  | .tup ds, _, h => by cases h with | tup a b => exact .tup (ex_t e a) (DatL.mono e ds _ b)
  | .lst ds, _, h => by cases h with | lst a b => exact .lst (e _ _ a) (DatL.mono e ds _ b)
  | .dct ds, _, h => by cases h with | dct a b => exact .dct (e _ _ a) (DatK.mono e ds _ b)
  | .op v, _, h => by cases h; exact .op v
  | .idn v d, _, h => by cases h with | idn a => exact .idn (Dat.mono e d _ a)
theorem DatL.mono (e : Ex G G') : ∀ (ds : List D) (vs : List V), DatL K G vs ds → DatL K G' vs ds
  | [], _, h => by cases h; exact .nil
  | d :: ds, _, h => by cases h with | cons a b => exact .cons (Dat.mono e d _ a) (DatL.mono e ds _ b)
theorem DatK.mono (e : Ex G G') : ∀ (ds : List (Key × D)) (vs : List (Key × V)), DatK K G vs ds → DatK K G' vs ds
  | [], _, h => by cases h; exact .nil
  | (k, d) :: ds, _, h => by cases h with | cons a b => exact .cons (Dat.mono e d _ a) (DatK.mono e ds _ b)
end
theorem Dat.up {v : V} {d : D} (h : Dat K G v d) (e : Ex G G') : Dat K G' v d := Dat.mono e d v h
theorem DatL.up {v : List V} {d : List D} (h : DatL K G v d) (e : Ex G G') : DatL K G' v d := DatL.mono e d v h
theorem DatL.length : ∀ {vs : List V} {ds : List D}, DatL K G vs ds → vs.length = ds.length
  | _, _, .nil => rfl
  | _, _, .cons _ t => by rw [List.length_cons, List.length_cons, DatL.length t]
theorem DatL.get : ∀ {vs : List V} {ds : List D} {i : Nat} {d : D}, DatL K G vs ds → ds[i]? = some d → ∃ v, vs[i]? = some v ∧ Dat K G v d
  | _, _, _, _, .nil, e => by simp at e
  | _, _, 0, _, .cons a _, e => by simp at e; subst e; exact ⟨_, rfl, a⟩
  | _, _, i + 1, _, .cons _ t, e => by
    obtain ⟨v, h1, h2⟩ := DatL.get (i := i) t (by simpa using e)
    exact ⟨v, by simpa using h1, h2⟩
theorem DatL.getV : ∀ {vs : List V} {ds : List D} {i : Nat} {v : V}, DatL K G vs ds → vs[i]? = some v → ∃ d, ds[i]? = some d ∧ Dat K G v d
  | _, _, _, _, .nil, e => by simp at e
  | _, _, 0, _, .cons a _, e => by simp at e; subst e; exact ⟨_, rfl, a⟩
  | _, _, i + 1, _, .cons _ t, e => by
    obtain ⟨v, h1, h2⟩ := DatL.getV (i := i) t (by simpa using e)
    exact ⟨v, by simpa using h1, h2⟩
theorem DatL.append : ∀ {vs ws : List V} {ds es : List D}, DatL K G vs ds → DatL K G ws es → DatL K G (vs ++ ws) (ds ++ es)
  | _, _, _, _, .nil, h => h
  | _, _, _, _, .cons a t, h => .cons a (DatL.append t h)
theorem DatL.one {v : V} {d : D} (h : Dat K G v d) : DatL K G [v] [d] := .cons h .nil
theorem DatL.set : ∀ {vs : List V} {ds : List D} {v : V} {d : D} (i : Nat), DatL K G vs ds → Dat K G v d → DatL K G (vs.set i v) (ds.set i d)
  | _, _, _, _, _, .nil, _ => .nil
  | _, _, _, _, 0, .cons _ t, h => .cons h t
  | _, _, _, _, i + 1, .cons a t, h => .cons a (DatL.set i t h)
theorem DatL.take : ∀ {vs : List V} {ds : List D} (n : Nat), DatL K G vs ds → DatL K G (vs.take n) (ds.take n)
  | _, _, 0, _ => .nil
  | _, _, _ + 1, .nil => .nil
  | _, _, n + 1, .cons a t => .cons a (DatL.take n t)
theorem DatL.drop : ∀ {vs : List V} {ds : List D} (n : Nat), DatL K G vs ds → DatL K G (vs.drop n) (ds.drop n)
  | _, _, 0, h => h
  | _, _, _ + 1, .nil => .nil
  | _, _, n + 1, .cons _ t => DatL.drop n t
theorem DatL.erase : ∀ {vs : List V} {ds : List D} (n : Nat), DatL K G vs ds → DatL K G (vs.eraseIdx n) (ds.eraseIdx n)
  | _, _, _, .nil => .nil
  | _, _, 0, .cons _ t => t
  | _, _, n + 1, .cons a t => .cons a (DatL.erase n t)
theorem DatL.ints : ∀ (ns : List Int), DatL K G (ns.map V.int) (ns.map D.int)
  | [] => .nil
  | n :: ns => .cons (.int n) (DatL.ints ns)
theorem DatL.intsV : ∀ {ns : List Int} {vs : List V}, DatL K G vs (ns.map D.int) → vs = ns.map V.int
  | [], _, h => by cases h; rfl
  | n :: ns, _, h => by
    cases h with
    | cons a t => cases a; rw [DatL.intsV t]; rfl
theorem DatL.bls : ∀ (ns : List Bool), DatL K G (ns.map V.bl) (ns.map D.bl)
  | [] => .nil
  | n :: ns => .cons (.bl n) (DatL.bls ns)
theorem DatL.blsV : ∀ {ns : List Bool} {vs : List V}, DatL K G vs (ns.map D.bl) → vs = ns.map V.bl
  | [], _, h => by cases h; rfl
  | n :: ns, _, h => by
    cases h with
    | cons a t => cases a; rw [DatL.blsV t]; rfl
theorem DatL.rep {v : V} {d : D} (h : Dat K G v d) : ∀ n, DatL K G (List.replicate n v) (List.replicate n d)
  | 0 => .nil
  | n + 1 => .cons h (DatL.rep h n)
theorem DatL.flatten : ∀ (n : Nat) {vs : List V} {ds : List D}, DatL K G vs ds → DatL K G (List.replicate n vs).flatten (List.replicate n ds).flatten
  | 0, _, _, _ => .nil
  | n + 1, _, _, h => by rw [List.replicate_succ, List.replicate_succ, List.flatten_cons, List.flatten_cons]; exact DatL.append h (DatL.flatten n h)
theorem Dat.intV {i : Int} {v : V} (h : Dat K G v (.int i)) : v = .int i := by cases h; rfl
theorem Dat.blV {i : Bool} {v : V} (h : Dat K G v (.bl i)) : v = .bl i := by cases h; rfl
theorem Dat.strV {i : Str} {v : V} (h : Dat K G v (.str i)) : v = .str i := by cases h; rfl
theorem Dat.nonV {v : V} (h : Dat K G v .non) : v = .non := by cases h; rfl
theorem Dat.tupV {ds : List D} {v : V} (h : Dat K G v (.tup ds)) : ∃ a xs, v = .ref a ∧ SqT K G a xs ∧ DatL K G xs ds := by
  cases h with | tup a b => exact ⟨_, _, rfl, a, b⟩
theorem Dat.lstV {ds : List D} {v : V} (h : Dat K G v (.lst ds)) : ∃ a xs, v = .ref a ∧ G a = some (.lst xs) ∧ DatL K G xs ds := by
  cases h with | lst a b => exact ⟨_, _, rfl, a, b⟩

/-- the heap grows, the view with it; what stands outside the view stays outside -/
structure Stp (G H G' H' : Hp) : Prop where
  gg : Ex G G'
  hh : Ex H H'
  gh : Ex G' H'
  ow : ∀ a, G a = none → H a ≠ none → G' a = none
theorem Stp.refl (h : Ex G H) : Stp G H G H := ⟨.refl _, .refl _, h, fun _ h _ => h⟩
theorem Stp.trans {G1 H1 G2 H2 : Hp} (a : Stp G H G1 H1) (b : Stp G1 H1 G2 H2) : Stp G H G2 H2 :=
  ⟨a.gg.trans b.gg, a.hh.trans b.hh, b.gh, fun x h1 h2 => b.ow x (a.ow x h1 h2) (fun e => by
    cases q : H x with
    | none => exact h2 q
    | some o => rw [a.hh x o q] at e; cases e)⟩
theorem Stp.new {p : Addr} {o : HO} (h : Ex G H) (n : H p = none) : Stp G H (upd G p o) (upd H p o) :=
  ⟨Ex.new (h.back n), Ex.new n, fun a u e => by
    by_cases ha : a = p
    · subst ha; rw [upd_same] at e ⊢; exact e
    · rw [upd_ne ha] at e ⊢; exact h a u e, fun a h1 h2 => by
    have : a ≠ p := fun e => h2 (e ▸ n)
    rw [upd_ne this]; exact h1⟩
end

/-! ### slots -/
/-- what is known of a slot: nothing; a value that is data; a list of one's own that may still change -/
inductive Sl where
  | un
  | val (v : V) (d : D)
  | own (a : Addr) (ds : List D)
abbrev Env' := List Sl
/-- the view and the heap at the entry; the address of the box that the caller lends -/
structure Bas where
  G : Hp
  H : Hp
  bx : Option Addr
section
variable (K : PySem.W.Frag) (β : Bas) (G H : Hp)
def SlOk (o : Option V) : Sl → Prop
  | .un => True
  | .val v d => o = some v ∧ Dat K G v d
  | .own a ds => o = some (.ref a) ∧ (β.H a = none ∨ β.bx = some a) ∧ G a = none ∧ ∃ xs, H a = some (.lst xs) ∧ DatL K G xs ds
inductive SlsOk : Sg → Env' → Prop
  | nil : SlsOk [] []
  | cons {o : Option V} {s : Sl} {σ : Sg} {env : Env'} : SlOk K β G H o s → SlsOk σ env → SlsOk (o :: σ) (s :: env)
end
def ownA : Sl → Option Addr
  | .own a _ => some a
  | _ => none

structure Good (K : PySem.W.Frag) (β : Bas) (σ : Sg) (env : Env') (G H : Hp) : Prop where
  gg : Ex β.G G
  hh : ∀ a o, β.bx ≠ some a → β.H a = some o → H a = some o
  gh : Ex G H
  ow : ∀ a, β.G a = none → β.H a ≠ none → G a = none
  bh : ∀ a, β.bx = some a → H a ≠ none
  sl : SlsOk K β G H σ env
  nd : (env.filterMap ownA).Nodup
section
variable {K : PySem.W.Frag} {β : Bas} {G H G' H' : Hp} {σ : Sg} {env : Env'}
theorem SlOk.up {o : Option V} {s : Sl} (t : Stp G H G' H') (h : SlOk K β G H o s) : SlOk K β G' H' o s := by
  cases s with
  | un => trivial
  | val v d => exact ⟨h.1, h.2.up t.gg⟩
  | own a ds =>
    obtain ⟨h1, h2, h3, xs, h4, h5⟩ := h
    exact ⟨h1, h2, t.ow a h3 (by rw [h4]; exact (fun e => nomatch e)), xs, t.hh _ _ h4, h5.up t.gg⟩
theorem SlsOk.up (t : Stp G H G' H') : ∀ {σ : Sg} {env : Env'}, SlsOk K β G H σ env → SlsOk K β G' H' σ env
  | _, _, .nil => .nil
  | _, _, .cons a r => .cons (a.up t) (SlsOk.up t r)
theorem Good.hn (g : Good K β σ env G H) {a : Addr} (h : β.H a ≠ none) : H a ≠ none := by
  by_cases hx : β.bx = some a
  · exact g.bh a hx
  · cases q : β.H a with
    | none => exact absurd q h
    | some o => rw [g.hh a o hx q]; exact (fun e => nomatch e)
theorem Good.up (g : Good K β σ env G H) (t : Stp G H G' H') : Good K β σ env G' H' :=
  ⟨g.gg.trans t.gg, fun a o h1 h2 => t.hh _ _ (g.hh a o h1 h2), t.gh, fun a h1 h2 => t.ow a (g.ow a h1 h2) (g.hn h2), fun a h => by
    cases q : H a with
    | none => exact absurd q (g.bh a h)
    | some o => rw [t.hh a o q]; exact (fun e => nomatch e), g.sl.up t, g.nd⟩
theorem SlsOk.get : ∀ {σ : Sg} {env : Env'} {i : Nat} {s : Sl}, SlsOk K β G H σ env → env[i]? = some s → ∃ o, σ[i]? = some o ∧ SlOk K β G H o s
  | _, _, _, _, .nil, e => by simp at e
  | _, _, 0, _, .cons a _, e => by simp at e; subst e; exact ⟨_, rfl, a⟩
  | _, _, i + 1, _, .cons _ r, e => by
    obtain ⟨o, h1, h2⟩ := SlsOk.get (i := i) r (by simpa using e)
    exact ⟨o, by simpa using h1, h2⟩
theorem SlsOk.set {o : Option V} {s : Sl} (h : SlOk K β G H o s) : ∀ {σ : Sg} {env : Env'} (i : Nat), SlsOk K β G H σ env → SlsOk K β G H (σ.set i o) (env.set i s)
  | _, _, _, .nil => .nil
  | _, _, 0, .cons _ r => .cons h r
  | _, _, i + 1, .cons a r => .cons a (SlsOk.set h i r)
theorem nd_set {s : Sl} (hs : ownA s = none) : ∀ {env : Env'} (i : Nat), (env.filterMap ownA).Nodup → ((env.set i s).filterMap ownA).Nodup ∧ ((env.set i s).filterMap ownA).Sublist (env.filterMap ownA)
  | [], _, h => ⟨h, .refl _⟩
  | t :: env, 0, h => by
    rw [List.set_cons_zero, List.filterMap_cons, hs]
    rw [List.filterMap_cons] at h
    cases q : ownA t with
    | none => rw [q] at h; exact ⟨h, by rw [List.filterMap_cons, q]; exact .refl _⟩
    | some a => rw [q] at h; exact ⟨(List.nodup_cons.mp h).2, by rw [List.filterMap_cons, q]; exact List.sublist_cons_self _ _⟩
  | t :: env, i + 1, h => by
    rw [List.set_cons_succ, List.filterMap_cons]
    rw [List.filterMap_cons] at h
    cases q : ownA t with
    | none =>
      rw [q] at h
      have r := nd_set hs (env := env) i h
      exact ⟨r.1, by rw [List.filterMap_cons, q]; exact r.2⟩
    | some a =>
      rw [q] at h
      have r := nd_set hs (env := env) i (List.nodup_cons.mp h).2
      refine ⟨List.nodup_cons.mpr ⟨fun m => (List.nodup_cons.mp h).1 (r.2.subset m), r.1⟩, ?_⟩
      rw [List.filterMap_cons, q]
      exact r.2.cons_cons _
theorem nd_own {a : Addr} {ds ds' : List D} : ∀ {env : Env'} {i : Nat}, env[i]? = some (.own a ds) → (env.set i (.own a ds')).filterMap ownA = env.filterMap ownA
  | [], _, e => by simp at e
  | t :: env, 0, e => by simp at e; subst e; rfl
  | t :: env, i + 1, e => by
    rw [List.set_cons_succ, List.filterMap_cons, List.filterMap_cons, nd_own (env := env) (i := i) (by simpa using e)]
/-- a slot gets a value -/
theorem Good.set (g : Good K β σ env G H) (i : Nat) {v : V} {d : D} (h : Dat K G v d) : Good K β (σ.set i (some v)) (env.set i (.val v d)) G H :=
  ⟨g.gg, g.hh, g.gh, g.ow, g.bh, g.sl.set (s := .val v d) ⟨rfl, h⟩ i, (nd_set rfl i g.nd).1⟩
/-- a slot is forgotten -/
theorem Good.drop (g : Good K β σ env G H) (i : Nat) (o : Option V) : Good K β (σ.set i o) (env.set i .un) G H :=
  ⟨g.gg, g.hh, g.gh, g.ow, g.bh, g.sl.set (o := o) (s := .un) trivial i, (nd_set rfl i g.nd).1⟩
theorem SlsOk.forget : ∀ {σ : Sg} {env : Env'} (i : Nat), SlsOk K β G H σ env → SlsOk K β G H σ (env.set i .un)
  | _, _, _, .nil => .nil
  | _, _, 0, .cons _ r => .cons trivial r
  | _, _, i + 1, .cons a r => .cons a (SlsOk.forget i r)
theorem Good.forget (g : Good K β σ env G H) (i : Nat) : Good K β σ (env.set i .un) G H :=
  ⟨g.gg, g.hh, g.gh, g.ow, g.bh, g.sl.forget i, (nd_set rfl i g.nd).1⟩
def wipeE (env : Env') : List Nat → Env'
  | [] => env
  | v :: vs => (wipeE env vs).set v .un
theorem Good.wipe (g : Good K β σ env G H) : ∀ vs, Good K β (L2.wipe σ vs) (wipeE env vs) G H
  | [] => g
  | v :: vs => (Good.wipe g vs).drop v none
theorem SlsOk.wr {a : Addr} {ho : HO} : ∀ {σ : Sg} {env : Env'}, SlsOk K β G H σ env → a ∉ env.filterMap ownA → SlsOk K β G (upd H a ho) σ env
  | _, _, .nil, _ => .nil
  | _, s :: env, .cons x r, h => by
    rw [List.filterMap_cons] at h
    cases s with
    | un => exact .cons trivial (SlsOk.wr r h)
    | val v d => exact .cons x (SlsOk.wr r h)
    | own b ds =>
      have h' : a ∉ b :: env.filterMap ownA := h
      obtain ⟨h1, h2, h3, xs, h4, h5⟩ := x
      exact .cons ⟨h1, h2, h3, xs, by rw [upd_ne (fun e => h' (by rw [← e]; exact List.mem_cons_self))]; exact h4, h5⟩ (SlsOk.wr r fun m => h' (List.mem_cons_of_mem _ m))
theorem SlsOk.wrOwn {a : Addr} {ds ds' : List D} {xs : List V} (hx : DatL K G xs ds') : ∀ {σ : Sg} {env : Env'} {i : Nat}, SlsOk K β G H σ env → env[i]? = some (.own a ds) → (env.filterMap ownA).Nodup →
    SlsOk K β G (upd H a (.lst xs)) σ (env.set i (.own a ds'))
  | _, _, _, .nil, e, _ => by simp at e
  | _, s :: env, 0, .cons x r, e, nd => by
    simp at e; subst e
    obtain ⟨h1, h2, h3, ys, h4, h5⟩ := x
    exact .cons ⟨h1, h2, h3, xs, upd_same, hx⟩ (SlsOk.wr r (List.nodup_cons.mp (show (a :: env.filterMap ownA).Nodup from nd)).1)
  | _, s :: env, i + 1, .cons x r, e, nd => by
    have e' : env[i]? = some (.own a ds) := by simpa using e
    have hm : a ∈ env.filterMap ownA := List.mem_filterMap.mpr ⟨_, List.mem_of_getElem? e', rfl⟩
    rw [List.filterMap_cons] at nd
    cases s with
    | un => exact .cons trivial (SlsOk.wrOwn hx r e' nd)
    | val v d => exact .cons x (SlsOk.wrOwn hx r e' nd)
    | own b cs =>
      have nd' : (b :: env.filterMap ownA).Nodup := nd
      have hb : b ≠ a := fun z => (List.nodup_cons.mp nd').1 (z ▸ hm)
      obtain ⟨h1, h2, h3, ys, h4, h5⟩ := x
      exact .cons ⟨h1, h2, h3, ys, by rw [upd_ne hb]; exact h4, h5⟩ (SlsOk.wrOwn hx r e' (List.nodup_cons.mp nd').2)
theorem Good.own (g : Good K β σ env G H) {i : Nat} {a : Addr} {ds : List D} (e : env[i]? = some (.own a ds)) :
    σ[i]? = some (some (V.ref a)) ∧ (β.H a = none ∨ β.bx = some a) ∧ G a = none ∧ ∃ xs, H a = some (.lst xs) ∧ DatL K G xs ds := by
  obtain ⟨o, h1, h2, h3, h4, h5⟩ := g.sl.get e
  exact ⟨by rw [h1, h2], h3, h4, h5⟩
/-- one's own list is written -/
theorem Good.write (g : Good K β σ env G H) {i : Nat} {a : Addr} {ds ds' : List D} {xs : List V} (e : env[i]? = some (.own a ds)) (hx : DatL K G xs ds') : Good K β σ (env.set i (.own a ds')) G (upd H a (.lst xs)) := by
  obtain ⟨h1, h2, h3, ys, h4, h5⟩ := g.own e
  refine ⟨g.gg, fun b o hb ho => ?_, fun b o ho => ?_, g.ow, fun b hb => ?_, g.sl.wrOwn hx e g.nd, by rw [nd_own e]; exact g.nd⟩
  · have : b ≠ a := fun z => by
      subst z
      rcases h2 with z | z
      · rw [z] at ho; cases ho
      · exact hb z
    rw [upd_ne this]; exact g.hh b o hb ho
  · have : b ≠ a := fun z => by subst z; rw [h3] at ho; cases ho
    rw [upd_ne this]; exact g.gh b o ho
  · by_cases z : b = a
    · subst z; rw [upd_same]; exact (fun e => nomatch e)
    · rw [upd_ne z]; exact g.bh b hb
theorem nd_newOwn {a : Addr} {ds : List D} : ∀ {env : Env'} (_ : a ∉ env.filterMap ownA) (i : Nat), (env.filterMap ownA).Nodup → ((env.set i (.own a ds)).filterMap ownA).Nodup ∧ ∀ b ∈ (env.set i (.own a ds)).filterMap ownA, b = a ∨ b ∈ env.filterMap ownA
  | [], _, _, h => ⟨h, fun b hb => .inr hb⟩
  | t :: env, na, 0, h => by
    have h2 : (env.filterMap ownA).Nodup ∧ ∀ b ∈ env.filterMap ownA, b ∈ (t :: env).filterMap ownA := by
      rw [List.filterMap_cons] at h ⊢
      cases q : ownA t with
      | none => rw [q] at h; exact ⟨h, fun b hb => hb⟩
      | some c => rw [q] at h; exact ⟨(List.nodup_cons.mp h).2, fun b hb => List.mem_cons_of_mem _ hb⟩
    refine ⟨List.nodup_cons.mpr ⟨fun m => na (h2.2 _ m), h2.1⟩, fun b hb => ?_⟩
    rcases List.mem_cons.mp (show b ∈ a :: env.filterMap ownA from hb) with z | z
    · exact .inl z
    · exact .inr (h2.2 _ z)
  | t :: env, na, i + 1, h => by
    rw [List.set_cons_succ]
    rw [List.filterMap_cons] at h na ⊢
    rw [List.filterMap_cons]
    cases q : ownA t with
    | none =>
      rw [q] at h na
      exact nd_newOwn na i h
    | some c =>
      rw [q] at h na
      have na' : a ≠ c ∧ a ∉ env.filterMap ownA := by
        constructor
        · intro z; exact na (by rw [z]; exact List.mem_cons_self)
        · intro z; exact na (List.mem_cons_of_mem _ z)
      have r := nd_newOwn (ds := ds) na'.2 i (List.nodup_cons.mp h).2
      refine ⟨List.nodup_cons.mpr ⟨fun m => ?_, r.1⟩, fun b hb => ?_⟩
      · rcases r.2 _ m with z | z
        · exact na'.1 z.symm
        · exact (List.nodup_cons.mp h).1 z
      · rcases List.mem_cons.mp hb with z | z
        · exact .inr (by rw [z]; exact List.mem_cons_self)
        · rcases r.2 _ z with z | z
          · exact .inl z
          · exact .inr (List.mem_cons_of_mem _ z)
/-- a new list that is one's own -/
theorem Good.newOwn (g : Good K β σ env G H) {a : Addr} {ds : List D} {xs : List V} (i : Nat) (hn : H a = none) (hx : DatL K G xs ds) : Good K β (σ.set i (some (V.ref a))) (env.set i (.own a ds)) G (upd H a (.lst xs)) := by
  have hb : β.H a = none := by
    cases q : β.H a with
    | none => rfl
    | some o => exact absurd hn (g.hn (by rw [q]; exact (fun e => nomatch e)))
  have hG : G a = none := g.gh.back hn
  have hna : a ∉ env.filterMap ownA := fun m => by
    obtain ⟨s, hs, e⟩ := List.mem_filterMap.mp m
    obtain ⟨j, hj⟩ := List.mem_iff_getElem?.mp hs
    cases s with
    | un => cases e
    | val v d => cases e
    | own b ds' =>
      obtain rfl : b = a := Option.some.inj e
      obtain ⟨_, _, _, ys, h4, _⟩ := g.own hj
      rw [h4] at hn; cases hn
  refine ⟨g.gg, fun b o hb' ho => ?_, fun b o ho => ?_, g.ow, fun b hb' => ?_, ?_, ?_⟩
  · rw [upd_ne (fun z => by subst z; rw [hb] at ho; cases ho)]; exact g.hh b o hb' ho
  · rw [upd_ne (fun z => by subst z; rw [hG] at ho; cases ho)]; exact g.gh b o ho
  · by_cases z : b = a
    · subst z; rw [upd_same]; exact (fun e => nomatch e)
    · rw [upd_ne z]; exact g.bh b hb'
  · exact (g.sl.wr hna).set (s := .own a ds) ⟨rfl, .inl hb, hG, xs, upd_same, hx⟩ i
  · exact (nd_newOwn hna i g.nd).1
end
end DL

set_option Elab.async false
set_option linter.all false
set_option maxRecDepth 100000
set_option maxHeartbeats 2000000
namespace DL
open PySem PySem.Spec PyProof.Rows L2

/-! ### readings that give data -/
section
variable (K : PySem.W.Frag) (β : Bas)
def EV (te : TE) (env : Env') (d : D) : Prop := ∀ σ G H, Good K β σ env G H → ∀ Q : VK, (∀ v G' H', Stp G H G' H' → Dat K G' v d → Q v H') → te σ H Q
def EVv (te : TE) (env : Env') (v : V) (d : D) : Prop := ∀ σ G H, Good K β σ env G H → ∀ Q : VK, (∀ G' H', Stp G H G' H' → Dat K G' v d → Q v H') → te σ H Q
def EVT (tt : TT) (env : Env') (b : Bool) : Prop := ∀ σ G H, Good K β σ env G H → ∀ Q : Bool → Hp → Prop, (∀ G' H', Stp G H G' H' → Q b H') → tt σ H Q
def EVA (ta : TA) (env : Env') (ds : List D) : Prop := ∀ σ G H, Good K β σ env G H → ∀ Q : List V → Hp → Prop, (∀ vs G' H', Stp G H G' H' → DatL K G' vs ds → Q vs H') → ta σ H Q
def EVAv (ta : TA) (env : Env') (vs : List V) (ds : List D) : Prop := ∀ σ G H, Good K β σ env G H → ∀ Q : List V → Hp → Prop, (∀ G' H', Stp G H G' H' → DatL K G' vs ds → Q vs H') → ta σ H Q
def EVO (to : TO) (env : Env') (o : Option Int) : Prop := ∀ σ G H, Good K β σ env G H → ∀ Q : Option Int → Hp → Prop, (∀ G' H', Stp G H G' H' → Q o H') → to σ H Q
/-- an operation on data -/
def OpD (r : R2) (x y z : D) : Prop := ∀ G H v1 v2, Ex G H → Dat K G v1 x → Dat K G v2 y → ∀ Q : VK, (∀ v G' H', Stp G H G' H' → Dat K G' v z → Q v H') → r v1 v2 H Q
def UnD (r : V → Hp → VK → Prop) (x z : D) : Prop := ∀ G H v1, Ex G H → Dat K G v1 x → ∀ Q : VK, (∀ v G' H', Stp G H G' H' → Dat K G' v z → Q v H') → r v1 H Q
def CbD (r : List V → Hp → VK → Prop) (xs : List D) (z : D) : Prop := ∀ G H vs, Ex G H → DatL K G vs xs → ∀ Q : VK, (∀ v G' H', Stp G H G' H' → Dat K G' v z → Q v H') → r vs H Q
end
section
variable {K : PySem.W.Frag} {β : Bas} {env : Env'} {ta tb te tc : TE} {tt tu : TT} {x y z d : D} {v w : V}
theorem EVv.ev (h : EVv K β te env v d) : EV K β te env d := fun σ G H g Q q => h σ G H g Q fun G' H' => q v G' H'
theorem EVAv.ev {ta : TA} {vs ds} (h : EVAv K β ta env vs ds) : EVA K β ta env ds := fun σ G H g Q q => h σ G H g Q fun G' H' => q vs G' H'
theorem evv_var {i : Nat} (h : env[i]? = some (.val v d)) : EVv K β (tVar i) env v d := fun σ G H g Q q => by
  obtain ⟨o, h1, h2, h3⟩ := g.sl.get h
  exact ⟨v, by rw [h1, h2], q G H (.refl g.gh) h3⟩
theorem ev_var {i : Nat} (h : env[i]? = some (.val v d)) : EV K β (tVar i) env d := (evv_var h).ev
theorem ev_int {i : Int} : EV K β (tC (.int i)) env (.int i) := fun σ G H g Q q => q _ G H (.refl g.gh) (.int i)
theorem ev_str {i : Str} : EV K β (tC (.str i)) env (.str i) := fun σ G H g Q q => q _ G H (.refl g.gh) (.str i)
theorem ev_bl {i : Bool} : EV K β (tC (.bl i)) env (.bl i) := fun σ G H g Q q => q _ G H (.refl g.gh) (.bl i)
theorem ev_non : EV K β (tC .non) env .non := fun σ G H g Q q => q _ G H (.refl g.gh) .non
theorem evv_c {v : V} : EVv K β (tC v) env v (.op v) := fun σ G H g Q q => q G H (.refl g.gh) (.op v)
theorem ev_c {v : V} : EV K β (tC v) env (.op v) := evv_c.ev
theorem ev_op {r : R2} (ha : EV K β ta env x) (hb : EV K β tb env y) (hr : OpD K r x y z) : EV K β (tOp r ta tb) env z := fun σ G H g Q q =>
  ha σ G H g _ fun v1 G1 H1 t1 d1 => hb σ G1 H1 (g.up t1) _ fun v2 G2 H2 t2 d2 => hr G2 H2 v1 v2 t2.gh (d1.up t2.gg) d2 Q fun v G3 H3 t3 d3 => q v G3 H3 ((t1.trans t2).trans t3) d3
theorem ev_un {r : V → Hp → VK → Prop} (ha : EV K β ta env x) (hr : UnD K r x z) : EV K β (tUn r ta) env z := fun σ G H g Q q =>
  ha σ G H g _ fun v1 G1 H1 t1 d1 => hr G1 H1 v1 t1.gh d1 Q fun v G3 H3 t3 d3 => q v G3 H3 (t1.trans t3) d3
theorem ea_nil : EVA K β tNil env [] := fun σ G H g Q q => q _ G H (.refl g.gh) .nil
theorem ea_cons {tr : TA} {ds : List D} (h : EV K β te env d) (hr : EVA K β tr env ds) : EVA K β (tCons te tr) env (d :: ds) := fun σ G H g Q q =>
  h σ G H g _ fun v1 G1 H1 t1 d1 => hr σ G1 H1 (g.up t1) _ fun vs G2 H2 t2 d2 => q _ G2 H2 (t1.trans t2) (.cons (d1.up t2.gg) d2)
theorem eav_nil : EVAv K β tNil env [] [] := fun σ G H g Q q => q G H (.refl g.gh) .nil
theorem eav_cons {tr : TA} {ds : List D} {vs : List V} (h : EVv K β te env v d) (hr : EVAv K β tr env vs ds) : EVAv K β (tCons te tr) env (v :: vs) (d :: ds) := fun σ G H g Q q =>
  h σ G H g _ fun G1 H1 t1 d1 => hr σ G1 H1 (g.up t1) _ fun G2 H2 t2 d2 => q G2 H2 (t1.trans t2) (.cons (d1.up t2.gg) d2)
theorem ev_tup {ta : TA} {ds : List D} (h : EVA K β ta env ds) (hl : ds.length ≤ sizeLine) : EV K β (tTup ta) env (.tup ds) := fun σ G H g Q q =>
  h σ G H g _ fun vs G1 H1 t1 d1 => ⟨by rw [d1.length]; exact hl, fun p hp => q _ (upd G1 p (.tup vs)) _ (t1.trans (.new t1.gh hp)) (.tup (.of upd_same) (d1.up (.new (t1.gh.back hp))))⟩
theorem ev_lst {ta : TA} {ds : List D} (h : EVA K β ta env ds) (hl : ds.length ≤ sizeLine) : EV K β (tLst ta) env (.lst ds) := fun σ G H g Q q =>
  h σ G H g _ fun vs G1 H1 t1 d1 => ⟨by rw [d1.length]; exact hl, fun p hp => q _ (upd G1 p (.lst vs)) _ (t1.trans (.new t1.gh hp)) (.lst upd_same (d1.up (.new (t1.gh.back hp))))⟩
theorem ev_cb {r : List V → Hp → VK → Prop} {ta : TA} {ds : List D} (h : EVA K β ta env ds) (hr : CbD K r ds z) : EV K β (tCB r ta) env z := fun σ G H g Q q =>
  h σ G H g _ fun vs G1 H1 t1 d1 => hr G1 H1 vs t1.gh d1 Q fun v G3 H3 t3 d3 => q v G3 H3 (t1.trans t3) d3
theorem ev_then {k : V → Hp → VK → Prop} (h : EV K β ta env x) (hr : UnD K k x z) : EV K β (tThen ta k) env z := fun σ G H g Q q =>
  h σ G H g _ fun v1 G1 H1 t1 d1 => hr G1 H1 v1 t1.gh d1 Q fun v G3 H3 t3 d3 => q v G3 H3 (t1.trans t3) d3
/-! tests -/
theorem et_test {b : Bool} (h : EV K β te env (.bl b)) : EVT K β (tTest te) env b := fun σ G H g Q q => h σ G H g _ fun v G1 H1 t1 d1 => ⟨b, d1.blV, q G1 H1 t1⟩
theorem et_B {b : Bool} (h : EV K β te env (.bl b)) : EVT K β (tB te) env b := fun σ G H g Q q => h σ G H g _ fun v G1 H1 t1 d1 => ⟨b, d1.blV, q G1 H1 t1⟩
theorem et_and {a b : Bool} (h1 : EVT K β tt env a) (h2 : a = true → EVT K β tu env b) : EVT K β (tAnd tt tu) env (a && b) := fun σ G H g Q q => h1 σ G H g _ fun G1 H1 t1 => by
  cases a with
  | true => show tu σ H1 Q; exact h2 rfl σ G1 H1 (g.up t1) Q fun G2 H2 t2 => q G2 H2 (t1.trans t2)
  | false => show Q false H1; exact q G1 H1 t1
theorem et_or {a b : Bool} (h1 : EVT K β tt env a) (h2 : a = false → EVT K β tu env b) : EVT K β (tOr tt tu) env (a || b) := fun σ G H g Q q => h1 σ G H g _ fun G1 H1 t1 => by
  cases a with
  | true => show Q true H1; exact q G1 H1 t1
  | false => show tu σ H1 Q; exact h2 rfl σ G1 H1 (g.up t1) Q fun G2 H2 t2 => q G2 H2 (t1.trans t2)
theorem et_not {a : Bool} (h1 : EVT K β tt env a) : EVT K β (tNot tt) env (!a) := fun σ G H g Q q => h1 σ G H g _ fun G1 H1 t1 => q G1 H1 t1
theorem et_is {a b : Bool} (h : EVT K β tt env a) (e : a = b) : EVT K β tt env b := e ▸ h
theorem ev_is {w : D} (h : EV K β te env d) (e : d = w) : EV K β te env w := e ▸ h
theorem ev_and {a b : Bool} (h1 : EV K β ta env (.bl a)) (h2 : a = true → EV K β tb env (.bl b)) : EV K β (tAndV ta tb) env (.bl (a && b)) := fun σ G H g Q q => h1 σ G H g _ fun v1 G1 H1 t1 d1 => ⟨a, d1.blV, by
  cases a with
  | true => show tb σ H1 Q; exact h2 rfl σ G1 H1 (g.up t1) Q fun v G2 H2 t2 d2 => q v G2 H2 (t1.trans t2) d2
  | false => show Q (.bl false) H1; exact q _ G1 H1 t1 (.bl false)⟩
theorem ev_or {a b : Bool} (h1 : EV K β ta env (.bl a)) (h2 : a = false → EV K β tb env (.bl b)) : EV K β (tOrV ta tb) env (.bl (a || b)) := fun σ G H g Q q => h1 σ G H g _ fun v1 G1 H1 t1 d1 => ⟨a, d1.blV, by
  cases a with
  | true => show Q (.bl true) H1; exact q _ G1 H1 t1 (.bl true)
  | false => show tb σ H1 Q; exact h2 rfl σ G1 H1 (g.up t1) Q fun v G2 H2 t2 d2 => q v G2 H2 (t1.trans t2) d2⟩
theorem ev_not {a : Bool} (h1 : EV K β ta env (.bl a)) : EV K β (tNotV ta) env (.bl (!a)) := fun σ G H g Q q => h1 σ G H g _ fun v1 G1 H1 t1 d1 => ⟨a, d1.blV, q _ G1 H1 t1 (.bl _)⟩
theorem ev_if {b : Bool} (h : EVT K β tt env b) (h1 : b = true → EV K β ta env d) (h2 : b = false → EV K β tb env d) : EV K β (tIf tt ta tb) env d := fun σ G H g Q q => h σ G H g _ fun G1 H1 t1 => by
  cases b with
  | true => show ta σ H1 Q; exact h1 rfl σ G1 H1 (g.up t1) Q fun v G2 H2 t2 d2 => q v G2 H2 (t1.trans t2) d2
  | false => show tb σ H1 Q; exact h2 rfl σ G1 H1 (g.up t1) Q fun v G2 H2 t2 d2 => q v G2 H2 (t1.trans t2) d2
theorem evv_if {b : Bool} (h : EVT K β tt env b) (h1 : b = true → EVv K β ta env v d) (h2 : b = false → EVv K β tb env v d) : EVv K β (tIf tt ta tb) env v d := fun σ G H g Q q => h σ G H g _ fun G1 H1 t1 => by
  cases b with
  | true => show ta σ H1 Q; exact h1 rfl σ G1 H1 (g.up t1) Q fun G2 H2 t2 d2 => q G2 H2 (t1.trans t2) d2
  | false => show tb σ H1 Q; exact h2 rfl σ G1 H1 (g.up t1) Q fun G2 H2 t2 d2 => q G2 H2 (t1.trans t2) d2
theorem ev_chain {r r' : R2} {b b' : Bool} (ha : EV K β ta env x) (hb : EV K β tb env y) (hr : OpD K r x y (.bl b)) (hc : b = true → EV K β tc env z) (hr' : b = true → OpD K r' y z (.bl b')) : EV K β (tChain r r' ta tb tc) env (.bl (b && b')) := fun σ G H g Q q =>
  ha σ G H g _ fun v1 G1 H1 t1 d1 => hb σ G1 H1 (g.up t1) _ fun v2 G2 H2 t2 d2 => hr G2 H2 v1 v2 t2.gh (d1.up t2.gg) d2 _ fun v G3 H3 t3 d3 => ⟨b, d3.blV, by
    cases b with
    | true =>
      rw [if_pos rfl]
      exact hc rfl σ G3 H3 (((g.up t1).up t2).up t3) _ fun v4 G4 H4 t4 d4 => hr' rfl G4 H4 v2 v4 t4.gh (d2.up (t3.gg.trans t4.gg)) d4 Q fun v5 G5 H5 t5 d5 => q v5 G5 H5 ((((t1.trans t2).trans t3).trans t4).trans t5) d5
    | false => rw [if_neg Bool.false_ne_true]; exact q _ G3 H3 ((t1.trans t2).trans t3) (.bl false)⟩

/-! ### operations -/
theorem Dat.sq {G : Hp} {v : V} (h : Dat K G v d) : Dat K G v d := h
theorem op_I0 {g : Int → Int → V} {g' : Int → Int → D} (hg : ∀ i j G, Dat K G (g i j) (g' i j)) {i j : Int} : OpD K (rI0 g) (.int i) (.int j) (g' i j) := fun G H v1 v2 e d1 d2 Q q =>
  ⟨i, j, d1.intV, d2.intV, q _ G H (.refl e) (hg i j G)⟩
theorem op_addI {i j : Int} : OpD K (rI0 fun i j => .int (i + j)) (.int i) (.int j) (.int (i + j)) := op_I0 (g' := fun i j => .int (i + j)) fun _ _ _ => .int _
theorem op_subI {i j : Int} : OpD K (rI0 fun i j => .int (i - j)) (.int i) (.int j) (.int (i - j)) := op_I0 (g' := fun i j => .int (i - j)) fun _ _ _ => .int _
theorem op_ltI {i j : Int} : OpD K (rI0 fun i j => .bl (decide (i < j))) (.int i) (.int j) (.bl (decide (i < j))) := op_I0 (g' := fun i j => .bl (decide (i < j))) fun _ _ _ => .bl _
theorem op_leI {i j : Int} : OpD K (rI0 fun i j => .bl (decide (i ≤ j))) (.int i) (.int j) (.bl (decide (i ≤ j))) := op_I0 (g' := fun i j => .bl (decide (i ≤ j))) fun _ _ _ => .bl _
theorem op_gtI {i j : Int} : OpD K (rI0 fun i j => .bl (decide (j < i))) (.int i) (.int j) (.bl (decide (j < i))) := op_I0 (g' := fun i j => .bl (decide (j < i))) fun _ _ _ => .bl _
theorem op_geI {i j : Int} : OpD K (rI0 fun i j => .bl (decide (j ≤ i))) (.int i) (.int j) (.bl (decide (j ≤ i))) := op_I0 (g' := fun i j => .bl (decide (j ≤ i))) fun _ _ _ => .bl _
theorem op_IC {C : Int → Int → Prop} {g : Int → Int → V} {g' : Int → Int → D} (hg : ∀ i j G, Dat K G (g i j) (g' i j)) {i j : Int} (hc : C i j) : OpD K (rI C g) (.int i) (.int j) (g' i j) := fun G H v1 v2 e d1 d2 Q q =>
  ⟨i, j, d1.intV, d2.intV, hc, q _ G H (.refl e) (hg i j G)⟩
theorem op_mulI {i j : Int} (h : (-(2 ^ 64) < i ∧ i < 2 ^ 64) ∨ (-(2 ^ 64) < j ∧ j < 2 ^ 64)) : OpD K (rI CMul fun i j => .int (i * j)) (.int i) (.int j) (.int (i * j)) := op_IC (g' := fun i j => .int (i * j)) (fun _ _ _ => .int _) h
theorem op_fdivI {i j : Int} (h : 0 < j ∧ j < 1073741824) : OpD K (rI CDiv fun i j => .int (i / j)) (.int i) (.int j) (.int (i / j)) := op_IC (g' := fun i j => .int (i / j)) (fun _ _ _ => .int _) h
theorem op_modI {i j : Int} (h : 0 < j) : OpD K (rI (fun _ j => 0 < j) fun i j => .int (i % j)) (.int i) (.int j) (.int (i % j)) := op_IC (g' := fun i j => .int (i % j)) (fun _ _ _ => .int _) h
/-- scalars: == -/
def scalD : D → Option V
  | .non => some .non | .bl b => some (.bl b) | .int i => some (.int i) | .str x => some (.str x) | _ => none
theorem Dat.scal {G : Hp} {u : V} (h : Dat K G v d) (e : scalD d = some u) : v = u := by
  cases h <;> first | exact Option.some.inj e | cases e
theorem op_eqS {u1 u2 : V} (h1 : scalD x = some u1) (h2 : scalD y = some u2) (h : L2.scal u1 u2 = true) : OpD K rEq x y (.bl (decide (u1 = u2))) := fun G H v1 v2 e d1 d2 Q q => by
  rw [d1.scal h1, d2.scal h2]
  exact ⟨h, q _ G H (.refl e) (.bl _)⟩
theorem op_neS {u1 u2 : V} (h1 : scalD x = some u1) (h2 : scalD y = some u2) (h : L2.scal u1 u2 = true) : OpD K rNe x y (.bl (!decide (u1 = u2))) := fun G H v1 v2 e d1 d2 Q q => by
  rw [d1.scal h1, d2.scal h2]
  exact ⟨h, q _ G H (.refl e) (.bl _)⟩
theorem op_eqI {i j : Int} : OpD K rEq (.int i) (.int j) (.bl (decide (i = j))) := fun G H v1 v2 e d1 d2 Q q => by
  rw [d1.intV, d2.intV]
  refine ⟨rfl, ?_⟩
  rw [show (decide (V.int i = V.int j)) = decide (i = j) by simp]
  exact q _ G H (.refl e) (.bl _)
theorem op_neI {i j : Int} : OpD K rNe (.int i) (.int j) (.bl (!decide (i = j))) := fun G H v1 v2 e d1 d2 Q q => by
  rw [d1.intV, d2.intV]
  refine ⟨rfl, ?_⟩
  rw [show (decide (V.int i = V.int j)) = decide (i = j) by simp]
  exact q _ G H (.refl e) (.bl _)
theorem op_eqB {i j : Bool} : OpD K rEq (.bl i) (.bl j) (.bl (i == j)) := fun G H v1 v2 e d1 d2 Q q => by
  rw [d1.blV, d2.blV]
  refine ⟨rfl, ?_⟩
  rw [show (decide (V.bl i = V.bl j)) = (i == j) by cases i <;> cases j <;> rfl]
  exact q _ G H (.refl e) (.bl _)
theorem op_neB {i j : Bool} : OpD K rNe (.bl i) (.bl j) (.bl (i != j)) := fun G H v1 v2 e d1 d2 Q q => by
  rw [d1.blV, d2.blV]
  refine ⟨rfl, ?_⟩
  rw [show (!decide (V.bl i = V.bl j)) = (i != j) by cases i <;> cases j <;> rfl]
  exact q _ G H (.refl e) (.bl _)
theorem op_eqStr {i j : Str} : OpD K rEq (.str i) (.str j) (.bl (decide (i = j))) := fun G H v1 v2 e d1 d2 Q q => by
  rw [d1.strV, d2.strV]
  refine ⟨rfl, ?_⟩
  rw [show (decide (V.str i = V.str j)) = decide (i = j) by simp]
  exact q _ G H (.refl e) (.bl _)
theorem op_neStr {i j : Str} : OpD K rNe (.str i) (.str j) (.bl (!decide (i = j))) := fun G H v1 v2 e d1 d2 Q q => by
  rw [d1.strV, d2.strV]
  refine ⟨rfl, ?_⟩
  rw [show (decide (V.str i = V.str j)) = decide (i = j) by simp]
  exact q _ G H (.refl e) (.bl _)
theorem op_isBD {i j : Bool} : OpD K rIsB (.bl i) (.bl j) (.bl (decide (i = j))) := fun G H v1 v2 e d1 d2 Q q => ⟨i, j, d1.blV, d2.blV, q _ G H (.refl e) (.bl _)⟩
/-- a[i] of a tuple, a list -/
theorem atI_of {xs : List V} {ds : List D} {G : Hp} (h : DatL K G xs ds) {i : Int} (e : atI ds i = some d) : ∃ u, atI xs i = some u ∧ Dat K G u d := by
  unfold atI at e ⊢
  rw [h.length]
  cases q : ixN ds.length i with
  | none => rw [q] at e; cases e
  | some j =>
    rw [q] at e
    exact h.get e
theorem op_ixT {ds : List D} {i : Int} (e : atI ds i = some d) : OpD K (rIxT K) (.tup ds) (.int i) d := fun G H v1 v2 e0 d1 d2 Q q => by
  obtain ⟨a, xs, rfl, ht, hl⟩ := d1.tupV
  obtain ⟨u, hu, du⟩ := atI_of hl e
  exact ⟨a, xs, i, u, rfl, d2.intV, ex_t e0 ht, hu, q u G H (.refl e0) du⟩
theorem op_ixL {ds : List D} {i : Int} (e : atI ds i = some d) : OpD K (rIxL K) (.lst ds) (.int i) d := fun G H v1 v2 e0 d1 d2 Q q => by
  obtain ⟨a, xs, rfl, ht, hl⟩ := d1.lstV
  obtain ⟨u, hu, du⟩ := atI_of hl e
  exact ⟨a, xs, i, u, rfl, d2.intV, ex_l e0 (.of ht), hu, q u G H (.refl e0) du⟩
theorem ixN_nat {n j : Nat} (hj : j < n) : ixN n (j : Int) = some j := by
  unfold ixN
  rw [if_pos (by omega), if_pos (by omega)]
  simp
theorem atI_natD {α : Type} {xs : List α} {j : Nat} {a : α} (h : xs[j]? = some a) : atI xs (j : Int) = some a := by
  unfold atI
  rw [ixN_nat (by obtain ⟨h, _⟩ := List.getElem?_eq_some_iff.mp h; exact h)]
  exact h
theorem atI_int {α : Type} {xs : List α} {i : Int} {a : α} (h0 : 0 ≤ i) (h : xs[i.toNat]? = some a) : atI xs i = some a := by
  have e : ((i.toNat : Nat) : Int) = i := Int.toNat_of_nonneg h0
  rw [← e]
  exact atI_natD h
/-- any of the two -/
theorem op_ix {ds : List D} {i : Int} (h : x = .tup ds ∨ x = .lst ds) (e : atI ds i = some d) : OpD K (rIx K) x (.int i) d := fun G H v1 v2 e0 d1 d2 Q q => by
  rcases h with rfl | rfl
  · exact Or.inr (Or.inl (op_ixT e G H v1 v2 e0 d1 d2 Q q))
  · exact Or.inl (op_ixL e G H v1 v2 e0 d1 d2 Q q)
/-- xs + ys of lists, of tuples -/
theorem op_catTD {ds es : List D} (hl : ds.length + es.length ≤ sizeLine) (h1 : ds ≠ []) (h2 : es ≠ []) : OpD K (rCatT K) (.tup ds) (.tup es) (.tup (ds ++ es)) := fun G H v1 v2 e0 d1 d2 Q q => by
  obtain ⟨a, xs, rfl, ht, hd⟩ := d1.tupV
  obtain ⟨b, ys, rfl, ht', hd'⟩ := d2.tupV
  refine ⟨a, b, xs, ys, rfl, rfl, ex_t e0 ht, ex_t e0 ht', fun z => h1 (List.eq_nil_of_length_eq_zero (by rw [← hd.length, z]; rfl)), by rw [hd.length, hd'.length]; exact hl, ?_⟩
  refine ⟨fun z => absurd (List.eq_nil_of_length_eq_zero (by rw [← hd'.length, z]; rfl)) h2, fun _ p hp => ?_⟩
  exact q _ (upd G p (.tup (xs ++ ys))) _ (.new e0 hp) (.tup (.of upd_same) ((hd.append hd').up (.new (e0.back hp))))
end
end DL

set_option Elab.async false
set_option linter.all false
set_option maxRecDepth 100000
set_option maxHeartbeats 2000000
namespace DL
open PySem PySem.Spec PyProof.Rows L2

/-! ### t * k of tuples, k from 1 on -/
theorem tuple_mul1 (l : Addr) (items : Array Value) (n : Nat) (dd : Option Addr) (sl : Array (Option Value)) (u : Tok) :
    Meets (Builtin.«tuple.__mul__» ⟨[.ref l, .int 1 u], []⟩) (fun _ R s => s.heap.get? l = some { cls := .type "tuple", dict := dd, data := .seq items n, slots := sl } ∧ R (.ok (.ret (Value.ref l))) s) :=
  .of_wp fun prog w A R s h => by
    obtain ⟨hp, g, d, tk, os⟩ := s
    obtain ⟨hl, h⟩ := h
    have f1 := AutoSeq1.idx_int
    wp_walk using wpAny_loadPart' hl
    repeat (first
      | (refine wpAny_ite_false (decide_eq_false (by decide)) ?_; wp_walk using wpAny_loadPart' hl)
      | (refine wpAny_ite_true (decide_eq_true (by simp)) ?_; wp_walk using wpAny_loadPart' hl))
    exact ⟨_, rfl, h⟩
def rRepT2 (K : PySem.W.Frag) : R2 := fun x y H Q => ∃ l k xs, x = .ref l ∧ y = .int k ∧ SqT K H l xs ∧ xs ≠ [] ∧ xs.length ≤ 1000 ∧ k ≤ 1000 ∧ ((k = 1 ∧ Q (.ref l) H) ∨ (2 ≤ k ∧ ∀ p, H p = none → Q (.ref p) (upd H p (.tup (List.replicate k.toNat xs).flatten))))
theorem op_repT2 {X : Cx} : OpR X (binaryOp .Mult) (rRepT2 X.K) := by
  intro pins s σ H x y v u Q I rx ry h
  obtain ⟨l, k, xs, rfl, rfl, hT, hne, hz, hk, h | ⟨h2, q⟩⟩ := h
  · obtain ⟨rfl, q⟩ := h
    cases rx
    obtain ⟨t, rfl⟩ := ry
    obtain ⟨its, r, ⟨⟨cls, dd, data, sl⟩, ho, hc, n, hd⟩, hs⟩ := I.tuple hT
    simp only at hc hd
    subst hc hd
    exact wpAny_binaryOp_repeat_ref (T := "tuple") (U := "int") (by decide) ⟨_, ho, rfl⟩ (fun s' => typeIs_int s' 1 t) noFill_tuple_mul F.fills_int_mul F.slot_int_rmul repeat_tuple F.slot_int_index.lookup
      (call_meets F.slot_int_rmul (typeIs_int s 1 t) F.entry_int_rmul (F.args_int_rmul_2 _ _) (int_rmul_tuple 1 t l its.toArray n dd sl)
        ⟨ho, rfl, ⟨_, ho, rfl⟩, call_meets F.slot_tuple_mul ⟨_, ho, rfl⟩ F.entry_tuple_mul (F.args_tuple_mul_2 _ _) (tuple_mul1 l its.toArray n dd sl t) ⟨ho, ⟨.ref l, H, I, rfl, q⟩⟩⟩)
  · exact op_repT pins s σ H _ _ v u Q I rx ry ⟨l, k, xs, rfl, rfl, hT, hne, h2, hk, hz, q⟩
section
variable {K : PySem.W.Frag} {β : Bas} {env : Env'} {ta tb te tc : TE} {tt tu : TT} {x y z d : D} {v w : V}
theorem op_repT2K {X : Cx} {K : PySem.W.Frag} (h : X.K = K := by rfl) : OpR X (binaryOp .Mult) (rRepT2 K) := h ▸ op_repT2
theorem op_repTD {ds : List D} {k : Int} (h1 : 1 ≤ k) (h2 : k ≤ 1000) (hn : ds ≠ []) (hl : ds.length ≤ 1000) : OpD K (rRepT2 K) (.tup ds) (.int k) (.tup (List.replicate k.toNat ds).flatten) := fun G H v1 v2 e0 d1 d2 Q q => by
  obtain ⟨a, xs, rfl, ht, hd⟩ := d1.tupV
  refine ⟨a, k, xs, rfl, d2.intV, ex_t e0 ht, fun z => hn (List.eq_nil_of_length_eq_zero (by rw [← hd.length, z]; rfl)), by rw [hd.length]; exact hl, h2, ?_⟩
  by_cases hk : k = 1
  · subst hk
    refine .inl ⟨rfl, q _ G H (.refl e0) ?_⟩
    rw [show (List.replicate (1 : Int).toNat ds).flatten = ds by simp]
    exact .tup ht hd
  · refine .inr ⟨by omega, fun p hp => q _ (upd G p _) _ (.new e0 hp) (.tup (.of upd_same) ((DatL.flatten _ hd).up (.new (e0.back hp))))⟩
theorem op_catLD {ds es : List D} (hl : ds.length + es.length ≤ sizeLine) : OpD K rCat (.lst ds) (.lst es) (.lst (ds ++ es)) := fun G H v1 v2 e0 d1 d2 Q q => by
  obtain ⟨a, xs, rfl, ht, hd⟩ := d1.lstV
  obtain ⟨b, ys, rfl, ht', hd'⟩ := d2.lstV
  exact ⟨a, b, xs, ys, rfl, rfl, e0 _ _ ht, e0 _ _ ht', by rw [hd.length, hd'.length]; exact hl, fun p hp => q _ (upd G p (.lst (xs ++ ys))) _ (.new e0 hp) (.lst upd_same ((hd.append hd').up (.new (e0.back hp))))⟩
theorem op_repLD {ds : List D} {k : Int} (h1 : -(2 ^ 63) ≤ k) (h2 : k < 2 ^ 63) (hl : ds.length * k.toNat ≤ sizeLine) : OpD K rRep (.lst ds) (.int k) (.lst (List.replicate k.toNat ds).flatten) := fun G H v1 v2 e0 d1 d2 Q q => by
  obtain ⟨a, xs, rfl, ht, hd⟩ := d1.lstV
  exact ⟨a, k, xs, rfl, d2.intV, e0 _ _ ht, h1, h2, by rw [hd.length]; exact hl, fun p hp => q _ (upd G p _) _ (.new e0 hp) (.lst upd_same ((DatL.flatten _ hd).up (.new (e0.back hp))))⟩
/-! ### built-ins -/
theorem cb_abs {i : Int} : CbD K (fun xs H Q => ∃ i, xs = [V.int i] ∧ Q (.int (if i < 0 then -i else i)) H) [.int i] (.int (if i < 0 then -i else i)) := fun G H vs e dl Q q => by
  cases dl with | cons a t => cases t; cases a; exact ⟨i, rfl, q _ G H (.refl e) (.int _)⟩
theorem cb_int {i : Int} : CbD K (fun xs H Q => (∃ i, xs = [V.int i] ∧ Q (.int i) H) ∨ ∃ k, xs = [V.bl k] ∧ Q (.int (if k then 1 else 0)) H) [.int i] (.int i) := fun G H vs e dl Q q => by
  cases dl with | cons a t => cases t; cases a; exact .inl ⟨i, rfl, q _ G H (.refl e) (.int _)⟩
theorem cb_max2 {i j : Int} : CbD K (fun xs H Q => ∃ i j, xs = [V.int i, V.int j] ∧ Q (.int (if j > i then j else i)) H) [.int i, .int j] (.int (if j > i then j else i)) := fun G H vs e dl Q q => by
  cases dl with | cons a t => cases t with | cons b t => cases t; cases a; cases b; exact ⟨i, j, rfl, q _ G H (.refl e) (.int _)⟩
theorem cb_min2 {i j : Int} : CbD K (fun xs H Q => ∃ i j, xs = [V.int i, V.int j] ∧ Q (.int (if j < i then j else i)) H) [.int i, .int j] (.int (if j < i then j else i)) := fun G H vs e dl Q q => by
  cases dl with | cons a t => cases t with | cons b t => cases t; cases a; cases b; exact ⟨i, j, rfl, q _ G H (.refl e) (.int _)⟩
/-- len -/
def rLen (K : PySem.W.Frag) : List V → Hp → VK → Prop := fun xs H Q => ∃ x n, xs = [x] ∧ LenV K x H n ∧ Q (.int n) H
theorem cb_lenT {ds : List D} : CbD K (rLen K) [.tup ds] (.int ds.length) := fun G H vs e dl Q q => by
  cases dl with | cons a t =>
  cases t
  obtain ⟨a, xs, rfl, ht, hd⟩ := a.tupV
  exact ⟨_, xs.length, rfl, .inr ⟨xs, ex_t e ht, rfl⟩, by rw [hd.length]; exact q _ G H (.refl e) (.int _)⟩
theorem cb_lenL {ds : List D} : CbD K (rLen K) [.lst ds] (.int ds.length) := fun G H vs e dl Q q => by
  cases dl with | cons a t =>
  cases t
  obtain ⟨a, xs, rfl, ht, hd⟩ := a.lstV
  exact ⟨_, xs.length, rfl, .inl ⟨xs, .of (e _ _ ht), rfl⟩, by rw [hd.length]; exact q _ G H (.refl e) (.int _)⟩
/-- tuple(xs) -/
theorem un_tupL {ds : List D} : UnD K (kTup K) (.lst ds) (.tup ds) := fun G H v e d1 Q q => by
  obtain ⟨a, xs, rfl, ht, hd⟩ := d1.lstV
  exact .inl ⟨a, xs, rfl, .of (e _ _ ht), fun p hp => q _ (upd G p (.tup xs)) _ (.new e hp) (.tup (.of upd_same) (hd.up (.new (e.back hp))))⟩
theorem un_tupT {ds : List D} : UnD K (kTup K) (.tup ds) (.tup ds) := fun G H v e d1 Q q => by
  obtain ⟨a, xs, rfl, ht, hd⟩ := d1.tupV
  exact .inr ⟨a, xs, rfl, ex_t e ht, q _ G H (.refl e) (.tup ht hd)⟩
/-- the ints lo, lo + 1, .. as data -/
def rgD (lo : Int) (n : Nat) : List D := (List.range n).map fun i => D.int (lo + (i : Nat))
theorem DatL.rg {G : Hp} (lo : Int) (n : Nat) : DatL K G ((List.range n).map fun i => V.int (lo + (i : Nat))) (rgD lo n) := by
  have h := DatL.ints (K := K) (G := G) ((List.range n).map fun i => lo + (i : Nat))
  rw [List.map_map, List.map_map] at h
  exact h
theorem rgD_length (lo : Int) (n : Nat) : (rgD lo n).length = n := by unfold rgD; rw [List.length_map, List.length_range]
theorem rgD_get {lo : Int} {n i : Nat} (h : i < n) : (rgD lo n)[i]? = some (.int (lo + (i : Nat))) := by
  unfold rgD
  rw [List.getElem?_map, List.getElem?_range h]
  rfl
theorem ev_tupRg1 {n : Int} (h : EV K β ta env (.int n)) (h1 : n ≤ 16777216) (h0 : 0 ≤ n) : EV K β (tTupRg (tRg1 ta)) env (.tup (rgD 0 n.toNat)) := fun σ G H g Q q =>
  h σ G H g _ fun v1 G1 H1 t1 d1 => ⟨n, d1.intV, .of_le (by omega) h1 (by omega) h0, fun p hp => by
    have e : rgV 0 n = ((List.range n.toNat).map fun i => V.int (0 + (i : Nat))) := by unfold rgV; rw [Int.sub_zero]
    rw [e]
    exact q _ (upd G1 p _) _ (t1.trans (.new t1.gh hp)) (.tup (.of upd_same) (DatL.rg 0 _))⟩
theorem ev_lstRg1 {n : Int} (h : EV K β ta env (.int n)) (h1 : n ≤ 16777216) (h0 : 0 ≤ n) : EV K β (tLstRg (tRg1 ta)) env (.lst (rgD 0 n.toNat)) := fun σ G H g Q q =>
  h σ G H g _ fun v1 G1 H1 t1 d1 => ⟨n, d1.intV, .of_le (by omega) h1 (by omega) h0, fun p hp => by
    have e : rgV 0 n = ((List.range n.toNat).map fun i => V.int (0 + (i : Nat))) := by unfold rgV; rw [Int.sub_zero]
    rw [e]
    exact q _ (upd G1 p _) _ (t1.trans (.new t1.gh hp)) (.lst upd_same (DatL.rg 0 _))⟩
theorem ev_tupRg2 {m n : Int} (h : EV K β ta env (.int m)) (h' : EV K β tb env (.int n)) (h0 : 0 ≤ m ∧ m ≤ 16777216 ∧ 0 ≤ n ∧ n ≤ 16777216) : EV K β (tTupRg (tRg2 ta tb)) env (.tup (rgD m (n - m).toNat)) := fun σ G H g Q q =>
  h σ G H g _ fun v1 G1 H1 t1 d1 => h' σ G1 H1 (g.up t1) _ fun v2 G2 H2 t2 d2 => ⟨m, n, d1.intV, d2.intV, .of_le h0.1 h0.2.2.2 h0.2.1 h0.2.2.1, fun p hp => q _ (upd G2 p _) _ ((t1.trans t2).trans (.new t2.gh hp)) (.tup (.of upd_same) (DatL.rg m _))⟩
theorem ev_lstRg2 {m n : Int} (h : EV K β ta env (.int m)) (h' : EV K β tb env (.int n)) (h0 : 0 ≤ m ∧ m ≤ 16777216 ∧ 0 ≤ n ∧ n ≤ 16777216) : EV K β (tLstRg (tRg2 ta tb)) env (.lst (rgD m (n - m).toNat)) := fun σ G H g Q q =>
  h σ G H g _ fun v1 G1 H1 t1 d1 => h' σ G1 H1 (g.up t1) _ fun v2 G2 H2 t2 d2 => ⟨m, n, d1.intV, d2.intV, .of_le h0.1 h0.2.2.2 h0.2.1 h0.2.2.1, fun p hp => q _ (upd G2 p _) _ ((t1.trans t2).trans (.new t2.gh hp)) (.lst upd_same (DatL.rg m _))⟩
/-! ### isinstance -/
/-- the type of data -/
def tyD : D → Option String
  | .non => some "NoneType" | .bl _ => some "bool" | .int _ => some "int" | .str _ => some "str" | .tup _ => some "tuple" | .lst _ => some "list" | .dct _ => some "dict" | .op _ => none | .idn _ d => tyD d
theorem Dat.ty {G H : Hp} (x : Ex G H) : ∀ {d : D} {v : V} {t : String}, Dat K G v d → tyD d = some t → TyX K H v (.type t)
  | .non, _, _, h, e => by cases h; cases e; exact .base .non
  | .bl b, _, _, h, e => by cases h; cases e; exact .base (.bl b)
  | .int b, _, _, h, e => by cases h; cases e; exact .base (.int b)
  | .str b, _, _, h, e => by cases h; cases e; exact .base (.str b)
  | .tup b, _, _, h, e => by
    cases e
    cases h with | tup a b =>
    rcases ex_t x a with a | ⟨o, its, n, h1, h2, _⟩
    · rcases a with a | ⟨o, a⟩
      · exact .base (.tup a)
      · exact .fTuple a
    · exact .kTuple h1 h2
  | .lst b, _, _, h, e => by cases e; cases h with | lst a b => exact .base (.lst (x _ _ a))
  | .dct b, _, _, h, e => by cases e; cases h with | dct a b => exact .base (.dK (x _ _ a))
  | .op v, _, _, h, e => by cases e
  | .idn v d, _, _, h, e => by cases h with | idn a => exact Dat.ty x a e
/-- isinstance(x, T) -/
theorem cb_isi {t T : String} {b : Bool} (e : tyD d = some t) (h : kitB t T = some b) : CbD K (rIsi K) [d, .op (.ty T)] (.bl b) := fun G H vs x dl Q q => by
  cases dl with | cons a t => cases t with | cons c t =>
  cases t
  cases c
  exact ⟨_, _, _, _, b, rfl, .ty T, a.ty x e, kit_ty h, q _ G H (.refl x) (.bl b)⟩
/-- isinstance(x, (S, T)) -/
theorem ev_isi2 {t S T : String} {b c : Bool} (hx : EV K β te env d) (e : tyD d = some t) (h : kitB t S = some b) (h' : kitB t T = some c) :
    EV K β (tCB (rIsiT K) (tCons te (tCons (tTup (tCons (tC (.ty S)) (tCons (tC (.ty T)) tNil))) tNil))) env (.bl (b || c)) := fun σ G H g Q q =>
  hx σ G H g _ fun v1 G1 H1 t1 d1 => ⟨by show 2 ≤ sizeLine; decide, fun p hp => by
    have t2 := t1.trans (Stp.new (o := .tup [V.ty S, V.ty T]) t1.gh hp)
    refine ⟨_, _, _, _, _, b || c, rfl, upd_same, .cons (.ty S) (.cons (.ty T) .nil), d1.ty (t1.gh.trans (.new hp)) e, ?_, q _ _ _ t2 (.bl _)⟩
    refine kitAny_cons (kit_ty h) (fun hb => ?_) (fun hb => by rw [hb]; rfl)
    exact kitAny_cons (kit_ty h') (fun hc => by rw [hb, hc]; exact kitAny_nil) (fun hc => by rw [hc, Bool.or_true])⟩

/-! ### what is walked -/
variable (K β) in
/-- the iterator gives the values vs, one after another, and makes nothing -/
def ItV (J : It) (G : Hp) (vs : List V) : Prop := ∀ i H, Ex G H → (i = vs.length → J.stop i H) ∧ ∀ x, vs[i]? = some x → J.go i H ∧ ∀ y H3, J.yld i H y H3 → y = x ∧ H3 = H
variable (K β) in
def EVI (wi : TI) (env : Env') (ds : List D) : Prop := ∀ σ G H, Good K β σ env G H → ∀ R : It → Hp → Prop, (∀ J vs G' H', Stp G H G' H' → DatL K G' vs ds → ItV J G' vs → R J H') → wi σ H R
theorem itv_list {a : Addr} {vs : List V} {G : Hp} (h : G a = some (.lst vs)) : ItV (Itl K a) G vs := fun i H e =>
  ⟨fun hi => ⟨vs, .of (e _ _ h), by omega⟩, fun x hx => ⟨⟨vs, x, .of (e _ _ h), hx⟩, fun y H3 hy => by
    obtain ⟨e3, f⟩ := hy
    exact ⟨Option.some.inj ((f vs (.of (e _ _ h))).symm.trans hx), e3⟩⟩⟩
theorem itv_tup {a : Addr} {vs : List V} {G : Hp} (h : SqT K G a vs) : ItV (Itt K a) G vs := fun i H e =>
  ⟨fun hi => ⟨vs, ex_t e h, by omega⟩, fun x hx => ⟨⟨vs, x, ex_t e h, hx⟩, fun y H3 hy => by
    obtain ⟨e3, f⟩ := hy
    exact ⟨Option.some.inj ((f vs (ex_t e h)).symm.trans hx), e3⟩⟩⟩
theorem itv_rng {lo : Int} {n : Nat} {G : Hp} : ItV (Itr lo n) G ((List.range n).map fun i => V.int (lo + (i : Nat))) := fun i H e =>
  ⟨fun hi => by
    rw [List.length_map, List.length_range] at hi
    exact Nat.le_of_eq hi.symm, fun x hx => by
    rw [List.getElem?_map] at hx
    by_cases hi : i < n
    · rw [List.getElem?_range hi] at hx
      refine ⟨hi, fun y H3 hy => ?_⟩
      obtain ⟨e3, f⟩ := hy
      refine ⟨?_, ?_⟩
      · first | exact f.trans (Option.some.inj hx) | exact e3.trans (Option.some.inj hx)
      · first | exact e3 | exact f
    · rw [List.getElem?_eq_none (by rw [List.length_range]; omega)] at hx
      cases hx⟩
theorem ei_list {tl : TE} {ds : List D} (h : EV K β tl env (.lst ds)) : EVI K β (iList K tl) env ds := fun σ G H g R q =>
  h σ G H g _ fun v G1 H1 t1 d1 => by
    obtain ⟨a, xs, rfl, ht, hd⟩ := d1.lstV
    exact ⟨a, rfl, ⟨xs, .of (t1.gh _ _ ht)⟩, q _ xs G1 H1 t1 hd (itv_list ht)⟩
theorem ei_tup {tl : TE} {ds : List D} (h : EV K β tl env (.tup ds)) : EVI K β (iTup K tl) env ds := fun σ G H g R q =>
  h σ G H g _ fun v G1 H1 t1 d1 => by
    obtain ⟨a, xs, rfl, ht, hd⟩ := d1.tupV
    exact ⟨a, rfl, ⟨xs, ex_t t1.gh ht⟩, q _ xs G1 H1 t1 hd (itv_tup ht)⟩
theorem ei_rng1 {ta : TA} {n : Int} (h : EVA K β ta env [.int n]) (h0 : -(2 ^ 62) ≤ n) (h1 : n < 2 ^ 62) : EVI K β (iRng1 ta) env (rgD 0 n.toNat) := fun σ G H g R q =>
  h σ G H g _ fun vs G1 H1 t1 d1 => by
    cases d1 with | cons a t => cases t; cases a; exact ⟨n, rfl, h0, h1, q _ _ G1 H1 t1 (DatL.rg 0 _) itv_rng⟩
theorem ei_rng2 {ta : TA} {m n : Int} (h : EVA K β ta env [.int m, .int n]) (h0 : -(2 ^ 62) ≤ m ∧ m < 2 ^ 62 ∧ -(2 ^ 62) ≤ n ∧ n < 2 ^ 62) : EVI K β (iRng2 ta) env (rgD m (n - m).toNat) := fun σ G H g R q =>
  h σ G H g _ fun vs G1 H1 t1 d1 => by
    cases d1 with | cons a t => cases t with | cons b t => cases t; cases a; cases b; exact ⟨m, n, rfl, h0, q _ _ G1 H1 t1 (DatL.rg m _) itv_rng⟩
variable (K β) in
/-- a target -/
def EG (g : TG) (env : Env') (v : V) (d : D) (P : Env' → Prop) : Prop := ∀ σ G H, Good K β σ env G H → Dat K G v d → ∀ Q : Sg → Hp → Prop, (∀ σ' env', Good K β σ' env' G H → P env' → Q σ' H) → g v σ H Q
theorem eg_name {i : Nat} : EG K β (gName i) env v d (fun e => e = env.set i (.val v d)) := fun σ G H g dv Q q => q _ _ (g.set i dv) rfl
theorem eg_tup {gs : TGs} {n : Nat} {ds : List D} {P : Env' → Prop} (hn : ds.length = n) (h : ∀ vs σ G H, Good K β σ env G H → DatL K G vs ds → ∀ Q : Sg → Hp → Prop, (∀ σ' env', Good K β σ' env' G H → P env' → Q σ' H) → gs vs σ H Q) : EG K β (gTup K n gs) env v (.tup ds) P := fun σ G H g dv Q q => by
  obtain ⟨a, xs, rfl, ht, hd⟩ := dv.tupV
  exact ⟨a, xs, rfl, ex_t g.gh ht, by rw [hd.length, hn], h xs σ G H g hd Q q⟩
theorem eg_two {i j : Nat} {a b : D} : EG K β (gTup K 2 (gCons (gName i) (gCons (gName j) gNil))) env v (.tup [a, b]) (fun e => ∃ v1 v2, e = (env.set i (.val v1 a)).set j (.val v2 b)) :=
  eg_tup rfl fun vs σ G H g dl Q q => by
    cases dl with | cons d1 t => cases t with | cons d2 t =>
    cases t
    exact ⟨_, _, rfl, _, _, rfl, rfl, q _ _ ((g.set i d1).set j d2) ⟨_, _, rfl⟩⟩
/-! ### comprehensions -/
theorem Stp.side {G H G' H' : Hp} {p : Addr} {o : HO} (t : Stp G H G' H') (h1 : H p = none) (h2 : G' p = none) : Stp G H G' (upd H' p o) :=
  ⟨t.gg, fun a u e => by rw [upd_ne (ne_of_none e h1)]; exact t.hh a u e, fun a u e => by rw [upd_ne (ne_of_none e h2)]; exact t.gh a u e, t.ow⟩
theorem Stp.take {G H G' H' : Hp} {p : Addr} {o : HO} (t : Stp G H G' H') (h1 : H p = none) (h2 : G' p = none) (h3 : H' p = some o) : Stp G H (upd G' p o) H' :=
  ⟨t.gg.trans (.new h2), t.hh, fun a u e => by
    by_cases ha : a = p
    · subst ha; rw [upd_same] at e; rw [h3]; exact e
    · rw [upd_ne ha] at e; exact t.gh a u e, fun a h4 h5 => by
    have : a ≠ p := fun e => h5 (e ▸ h1)
    rw [upd_ne this]; exact t.ow a h4 h5⟩
theorem wipe_set (σ : Sg) : ∀ (vs : List Nat) (j : Nat) (x : Option V), j ∈ vs → L2.wipe ((L2.wipe σ vs).set j x) vs = L2.wipe σ vs := by
  intro vs j x hj
  refine List.ext_getElem? fun i => ?_
  have key : ∀ (ws : List Nat) (τ : Sg) (i : Nat), i ∈ ws → i < τ.length → (L2.wipe τ ws)[i]? = some none := by
    intro ws
    induction ws with
    | nil => intro τ i h; cases h
    | cons w ws ih =>
      intro τ i h hl
      unfold L2.wipe
      by_cases e : w = i
      · subst e
        rw [List.getElem?_set_self (by rw [L2.wipe_length]; exact hl)]
      · rw [List.getElem?_set_ne e]
        exact ih τ i (by
          rcases List.mem_cons.mp h with z | z
          · exact absurd z.symm e
          · exact z) hl
  by_cases hi : i ∈ vs
  · by_cases hl : i < σ.length
    · rw [key vs _ i hi (by rw [List.length_set, L2.wipe_length]; exact hl), key vs _ i hi hl]
    · rw [List.getElem?_eq_none (by rw [L2.wipe_length, List.length_set, L2.wipe_length]; omega), List.getElem?_eq_none (by rw [L2.wipe_length]; omega)]
  · rw [L2.wipe_out hi, List.getElem?_set_ne (fun e => hi (by rw [← e]; exact hj))]
/-- [e for j in .. if ..]: f says which turns give, F what -/
def keep (f : Nat → Bool) (F : Nat → D) (n : Nat) : List D := ((List.range n).filter f).map F
theorem keep_yes {f : Nat → Bool} {F : Nat → D} {n : Nat} (h : f n = true) : keep f F (n + 1) = keep f F n ++ [F n] := by
  unfold keep
  rw [List.range_succ, List.filter_append, List.map_append, List.filter_cons, if_pos h] <;> rfl
theorem keep_no {f : Nat → Bool} {F : Nat → D} {n : Nat} (h : f n = false) : keep f F (n + 1) = keep f F n := by
  unfold keep
  rw [List.range_succ, List.filter_append, List.map_append, List.filter_cons, if_neg (by rw [h]; decide)]
  exact List.append_nil _
theorem keep_len (f : Nat → Bool) (F : Nat → D) (n : Nat) : (keep f F n).length ≤ n := by
  unfold keep
  rw [List.length_map]
  have h := List.length_filter_le f (List.range n)
  rw [List.length_range] at h
  exact h
theorem keep_all {F : Nat → D} {n : Nat} : keep (fun _ => true) F n = (List.range n).map F := by
  unfold keep
  rw [List.filter_eq_self.mpr (fun _ _ => rfl)]
theorem ev_lc {wi : TI} {g : TG} {vs : List Nat} {ds : List D} {f : Nat → Bool} {F : Nat → D} (hI : EVI K β wi env ds) (hn : ds.length < sizeLine)
    (hg : ∀ i v d, ds[i]? = some d → ∃ P, EG K β g (wipeE env vs) v d P ∧ (∀ σ' env' G H, Good K β σ' env' G H → P env' → True) ∧
      ∀ env', P env' → EVT K β tt env' (f i) ∧ (f i = true → EV K β te env' (F i)))
    (hw : ∀ x σ H (Q : Sg → Hp → Prop), g x (L2.wipe σ vs) H Q → g x (L2.wipe σ vs) H fun σ2 H2 => L2.wipe σ2 vs = L2.wipe σ vs ∧ Q σ2 H2) :
    EV K β (tLc wi g tt te vs) env (.lst (keep f F ds.length)) := fun σ G H g0 Q q =>
  hI σ G H g0 _ fun J us G1 H1 t1 hd hJ Dl hD => by
    refine ⟨fun i m H' => m = us.length - i ∧ i ≤ us.length ∧ ∃ G' acc, Stp G1 H1 G' H' ∧ G' Dl = none ∧ H' Dl = some (.lst acc) ∧ DatL K G' acc (keep f F i),
      ⟨us.length, by simp, Nat.zero_le _, G1, [], (Stp.refl t1.gh).side hD (t1.gh.back hD), t1.gh.back hD, upd_same, .nil⟩, ?_⟩
    rintro i m H' ⟨rfl, hi, G', acc, t2, hG, hacc, hda⟩
    by_cases hlt : i < us.length
    · have hx : us[i]? = some us[i] := List.getElem?_eq_getElem hlt
      obtain ⟨d, hdi, dx⟩ := hd.getV hx
      obtain ⟨P, hgP, _, hP⟩ := hg i us[i] d hdi
      obtain ⟨hgo, hyl⟩ := (hJ i H' (t2.gg.trans t2.gh)).2 _ hx
      refine .inr ⟨hgo, fun H'' => ∃ G' acc, Stp G1 H1 G' H'' ∧ G' Dl = none ∧ H'' Dl = some (.lst acc) ∧ DatL K G' acc (keep f F (i + 1)), fun H'' z => ⟨us.length - (i + 1), by omega, rfl, hlt, z⟩, fun x H'' hy => ?_⟩
      obtain ⟨rfl, rfl⟩ := hyl _ _ hy
      have gB := ((g0.up t1).up t2).wipe vs
      refine hw _ _ _ _ (hgP _ _ _ gB (dx.up t2.gg) _ fun σ2 env2 g2 hp2 => ?_)
      obtain ⟨hT, hE⟩ := hP env2 hp2
      refine hT _ _ _ g2 _ fun G3 H3 t3 => ?_
      have a3 : G3 Dl = none := t3.ow _ hG (by rw [hacc]; exact (fun e => nomatch e))
      cases hf : f i with
      | false =>
        rw [if_neg Bool.false_ne_true]
        exact ⟨G3, acc, t2.trans t3, a3, t3.hh _ _ hacc, by rw [keep_no hf]; exact hda.up t3.gg⟩
      | true =>
        rw [if_pos rfl]
        refine hE hf _ _ _ (g2.up t3) _ fun y G4 H4 t4 dy => ?_
        have a4 : G4 Dl = none := t4.ow _ a3 (by rw [t3.hh _ _ hacc]; exact (fun e => nomatch e))
        refine ⟨acc, t4.hh _ _ (t3.hh _ _ hacc), ?_, G4, acc ++ [y], ((t2.trans t3).trans t4).side hD a4, a4, upd_same, ?_⟩
        · rw [hda.length]
          have := keep_len f F i
          have := hd.length
          omega
        · rw [keep_yes hf]
          exact (hda.up (t3.gg.trans t4.gg)).append (.one dy)
    · have hil : i = us.length := by omega
      refine .inl ⟨(hJ i H' (t2.gg.trans t2.gh)).1 hil, ?_⟩
      refine q _ (upd G' Dl (.lst acc)) H' (t1.trans (t2.take hD hG hacc)) (.lst upd_same (.up ?_ (.new hG)))
      rw [hil, hd.length] at hda
      exact hda
/-- the usual form: the target a name -/
theorem ev_lcN {wi : TI} {j : Nat} {vs : List Nat} {ds : List D} {f : Nat → Bool} {F : Nat → D} (hI : EVI K β wi env ds) (hn : ds.length < sizeLine) (hj : j ∈ vs)
    (hs : ∀ i v d, ds[i]? = some d → EVT K β tt ((wipeE env vs).set j (.val v d)) (f i) ∧ (f i = true → EV K β te ((wipeE env vs).set j (.val v d)) (F i))) :
    EV K β (tLc wi (gName j) tt te vs) env (.lst (keep f F ds.length)) :=
  ev_lc hI hn (fun i v d hd => ⟨_, eg_name, fun _ _ _ _ _ _ => trivial, fun env' e => by subst e; exact hs i v d hd⟩)
    fun x σ H Q h => ⟨wipe_set σ vs j (some x) hj, h⟩
theorem et_yes : EVT K β tYes env true := fun σ G H g Q q => q G H (.refl g.gh)
/-- without a test -/
theorem ev_lcA {wi : TI} {j : Nat} {vs : List Nat} {ds : List D} {F : Nat → D} (hI : EVI K β wi env ds) (hn : ds.length < sizeLine) (hj : j ∈ vs)
    (hs : ∀ i v d, ds[i]? = some d → EV K β te ((wipeE env vs).set j (.val v d)) (F i)) :
    EV K β (tLc wi (gName j) tYes te vs) env (.lst ((List.range ds.length).map F)) := by
  rw [← keep_all]
  exact ev_lcN hI hn hj fun i v d hd => ⟨et_yes, fun _ => hs i v d hd⟩
end
end DL

set_option Elab.async false
set_option linter.all false
set_option maxRecDepth 100000
set_option maxHeartbeats 2000000
namespace DL
open PySem PySem.Spec PyProof.Rows L2
/-! ### rules whose reading names K: K given ahead, for what stands in a comprehension -/
section
variable {X : Cx} (K : PySem.W.Frag)
theorem call_isiK (h : X.K = K := by rfl) : CallR X (.builtin "isinstance") (rIsi K) := h ▸ call_isi
theorem call_isiTK (h : X.K = K := by rfl) : CallR X (.builtin "isinstance") (rIsiT K) := h ▸ call_isiT
theorem call_lenK (h : X.K = K := by rfl) : CallR X (.builtin "len") (rLen K) := by subst h; exact call_len
theorem ix_seqK (h : X.K = K := by rfl) : IxR X (rIx K) := h ▸ ix_seq
theorem ix_listK (h : X.K = K := by rfl) : IxR X (rIxL K) := h ▸ ix_list
theorem ix_tupK (h : X.K = K := by rfl) : IxR X (rIxT K) := h ▸ ix_tup
theorem op_catTK (h : X.K = K := by rfl) : OpR X (binaryOp .Add) (rCatT K) := h ▸ op_catT
theorem op_inK (h : X.K = K := by rfl) : OpR X (compareOp .In) (rIn K false) := h ▸ op_in_seq
theorem op_notInK (h : X.K = K := by rfl) : OpR X (compareOp .NotIn) (rIn K true) := h ▸ op_notIn_seq
theorem sl_listK (h : X.K = K := by rfl) : SlR X (rSlL K) := h ▸ sl_list
theorem pi_listK {tg l : Expr} {tl : TE} (hl : PE X l tl) (h : X.K = K := by rfl) : PI X tg l (iList K tl) := h ▸ pi_list hl
theorem pi_tupK {tg l : Expr} {tl : TE} (hl : PE X l tl) (h : X.K = K := by rfl) : PI X tg l (iTup K tl) := h ▸ pi_tup hl
theorem pe_tupleOfK {a : Expr} {ta : TE} {p pos : Pos} (hg : Gl X "tuple") (hm : X.mg "tuple" = none) (ha : PE X a ta) (na : starEach [a] X.env = (false, eval a X.env) :: starEach [] X.env := by rfl) (h : X.K = K := by rfl) :
    PE X (.Call (.Name "tuple" p) [a] [] pos) (tThen ta (kTup K)) := h ▸ pe_tupleOf hg hm ha na
def rListOf (K : PySem.W.Frag) : List V → Hp → VK → Prop := fun xs H Q => ∃ p ys, xs = [.ref p] ∧ (SqL K H p ys ∨ SqT K H p ys) ∧ ∀ l, H l = none → Q (.ref l) (upd H l (.lst ys))
theorem call_list_ofK (h : X.K = K := by rfl) : CallR X (.type "list") (rListOf K) := by subst h; exact call_list_of
theorem pg_tupK {es : List Expr} {k : Nat} {t : TGs} {n : Nat} {pos : Pos} (hc : X.calm = true) (hp : PGs X es t)
    (hn : (assignEach es X.env).length = n := by rfl) (hst : (assignEach es X.env).findIdx? (·.1) = none := by rfl) (h : X.K = K := by rfl) : PG X (.Tuple es k pos) (gTup K n t) := h ▸ pg_tup hc hp hn hst
theorem pe_bmK {o e : Expr} {es : List Expr} {to : TE} {t : TA} {name : Str} {apos cpos : Pos} {T id : String} {r : V → List V → Hp → VK → Prop} (pa : PlainAttrs T) (slot : Slot T name id) (hty : typeOf (.builtin id) = pure (.type "method_descriptor")) (hm : MtR X id r) (ho : PE X o to) (ha : PA X (e :: es) t)
    (hbase : attributeBase o name X.env (eval o X.env) = eval o X.env := by rfl)
    (hfew : ((backTo cpos (starEach (e :: es) X.env)).all (fun x => !x.1) && (backToKw cpos (keywordEach [] X.env)).all (fun x => x.1.isSome)
      && decide ((e :: es).length + ([] : List Keyword).length + (if ([] : List Keyword).isEmpty then 0 else 1) < 30)) = true := by rfl)
    (hline : (apos.endLine == cpos.line) = true := by rfl) (hs : starEach (e :: es) X.env = (false, eval e X.env) :: starEach es X.env := by rfl) (hplain : (backTo cpos (starEach es X.env)).any (·.1) = false := by rfl) (h : X.K = K := by rfl) :
    PE X (.Call (.Attribute o name apos) (e :: es) [] cpos) (tBM K T r to t) := h ▸ pe_bm pa slot hty hm ho ha hbase hfew hline hs hplain
end
end DL

set_option Elab.async false
set_option linter.all false
set_option maxRecDepth 100000
set_option maxHeartbeats 2000000
namespace DL
open PySem PySem.Spec PyProof.Rows L2

/-! ### statements -/
/-- what is wanted behind a statement: of the slots where it goes on, of what it hands back, of what it raises (class, the error's field and its value) -/
structure Post where
  nx : Env' → Prop := fun _ => False
  rt : V → D → Env' → Prop := fun _ _ _ => False
  bk : Env' → Prop := fun _ => False
  ct : Env' → Prop := fun _ => False
  ex : Value → Str → V → Env' → Prop := fun _ _ _ _ => False
section
variable (K : PySem.W.Frag) (β : Bas)
/-- the wish W takes what P says may be raised -/
def ExOk (W : WX) (P : Post) (G : Hp) : Prop := ∀ σ' env' G' H' cls f v dx, Good K β σ' env' G' H' → Ex G G' → H' dx = some (.xd [(f, v)]) → G' dx = none → P.ex cls f v env' → W cls (some dx) σ' H'
structure Cont (Dn : Ends) (P : Post) (G : Hp) : Prop where
  nx : ∀ σ' env' G' H', Good K β σ' env' G' H' → Ex G G' → P.nx env' → Dn.nx σ' H'
  rt : ∀ σ' env' G' H' v d, Good K β σ' env' G' H' → Ex G G' → Dat K G' v d → P.rt v d env' → Dn.rt v H'
  bk : ∀ σ' env' G' H', Good K β σ' env' G' H' → Ex G G' → P.bk env' → Dn.bk σ' H'
  ct : ∀ σ' env' G' H', Good K β σ' env' G' H' → Ex G G' → P.ct env' → Dn.ct σ' H'
def EX (W : WX) (ts : TS) (env : Env') (P : Post) : Prop := ∀ σ G H, Good K β σ env G H → ∀ Dn : Ends, Cont K β Dn P G → ExOk K β W P G → ts Dn σ H
end
section
variable {K : PySem.W.Frag} {β : Bas} {env : Env'} {ta tb te tc : TE} {tt tu : TT} {x y z d : D} {v w : V} {P : Post} {W : WX} {ts tr : TS}
theorem ExOk.up {G G' : Hp} (h : ExOk K β W P G) (e : Ex G G') : ExOk K β W P G' := fun σ' env' G2 H2 cls f v dx g e2 => h σ' env' G2 H2 cls f v dx g (e.trans e2)
theorem Cont.up {Dn : Ends} {G G' : Hp} (h : Cont K β Dn P G) (e : Ex G G') : Cont K β Dn P G' :=
  ⟨fun σ' env' G2 H2 g e2 => h.nx σ' env' G2 H2 g (e.trans e2), fun σ' env' G2 H2 v d g e2 => h.rt σ' env' G2 H2 v d g (e.trans e2), fun σ' env' G2 H2 g e2 => h.bk σ' env' G2 H2 g (e.trans e2), fun σ' env' G2 H2 g e2 => h.ct σ' env' G2 H2 g (e.trans e2)⟩
/-- one statement, then the rest -/
theorem ex_seq {N : Env' → Prop} (h1 : EX K β W ts env { P with nx := N }) (h2 : ∀ env', N env' → EX K β W tr env' P) : EX K β W (tSeq ts tr) env P := fun σ G H g Dn c x =>
  h1 σ G H g _ ⟨fun σ' env' G' H' g' e n => h2 env' n σ' G' H' g' Dn (c.up e) (x.up e), c.rt, c.bk, c.ct⟩ x
/-- .. one that leaves one state of the slots -/
theorem ex_cons {env1 : Env'} (h1 : EX K β W ts env { P with nx := fun e => e = env1 }) (h2 : EX K β W tr env1 P) : EX K β W (tSeq ts tr) env P := ex_seq h1 fun env' e => e ▸ h2
theorem ex_next (h : P.nx env) : EX K β W tNext env P := fun σ G H g Dn c x => c.nx σ env G H g (.refl _) h
theorem ex_asg {i : Nat} (he : EV K β te env d) (h : ∀ v, P.nx (env.set i (.val v d))) : EX K β W (tAsg te (gName i)) env P := fun σ G H g Dn c x =>
  he σ G H g _ fun v G1 H1 t1 d1 => c.nx _ _ G1 H1 ((g.up t1).set i d1) t1.gg (h v)
theorem ex_asgV {i : Nat} (he : EVv K β te env v d) (h : P.nx (env.set i (.val v d))) : EX K β W (tAsg te (gName i)) env P := fun σ G H g Dn c x =>
  he σ G H g _ fun G1 H1 t1 d1 => c.nx _ _ G1 H1 ((g.up t1).set i d1) t1.gg h
/-- x = e, then the rest: a fresh value -/
theorem ex_let {i : Nat} (he : EV K β te env d) (h : ∀ v, EX K β W tr (env.set i (.val v d)) P) : EX K β W (tSeq (tAsg te (gName i)) tr) env P :=
  ex_seq (N := fun e => ∃ v, e = env.set i (.val v d)) (ex_asg he fun v => ⟨v, rfl⟩) fun env' ⟨v, e⟩ => e ▸ h v
theorem ex_ret (he : EV K β te env d) (h : ∀ v, P.rt v d env) : EX K β W (tRet te) env P := fun σ G H g Dn c x =>
  he σ G H g _ fun v G1 H1 t1 d1 => c.rt _ _ G1 H1 v d (g.up t1) t1.gg d1 (h v)
theorem ex_retV (he : EVv K β te env v d) (h : P.rt v d env) : EX K β W (tRet te) env P := fun σ G H g Dn c x =>
  he σ G H g _ fun G1 H1 t1 d1 => c.rt _ _ G1 H1 v d (g.up t1) t1.gg d1 h
theorem ex_drop (he : EV K β te env d) (h : P.nx env) : EX K β W (tDrop te) env P := fun σ G H g Dn c x =>
  he σ G H g _ fun v G1 H1 t1 d1 => c.nx _ _ G1 H1 (g.up t1) t1.gg h
theorem ex_if {b : Bool} (ht : EVT K β tt env b) (h1 : b = true → EX K β W ts env P) (h2 : b = false → EX K β W tr env P) : EX K β W (tIfS tt ts tr) env P := fun σ G H g Dn c x =>
  ht σ G H g _ fun G1 H1 t1 => by
    cases b with
    | true => rw [if_pos rfl]; exact h1 rfl σ G1 H1 (g.up t1) Dn (c.up t1.gg) (x.up t1.gg)
    | false => rw [if_neg Bool.false_ne_true]; exact h2 rfl σ G1 H1 (g.up t1) Dn (c.up t1.gg) (x.up t1.gg)
/-- if without else, then the rest -/
theorem ex_when {b : Bool} (ht : EVT K β tt env b) (h1 : b = true → EX K β W ts env { P with nx := fun _ => False }) (h2 : b = false → EX K β W tr env P) : EX K β W (tSeq (tIfS tt ts tNext) tr) env P := by
  cases b with
  | true => exact ex_seq (N := fun _ => False) (ex_if ht h1 fun h => nomatch h) fun env' n => False.elim n
  | false => exact ex_seq (N := fun e => e = env) (ex_if ht (fun h => nomatch h) fun _ => ex_next rfl) fun env' n => n ▸ h2 rfl
theorem ex_break (h : P.bk env) : EX K β W tBreak env P := fun σ G H g Dn c x => c.bk σ env G H g (.refl _) h
theorem ex_cont (h : P.ct env) : EX K β W tCont env P := fun σ G H g Dn c x => c.ct σ env G H g (.refl _) h
/-- a weaker wish -/
theorem EX.imp {Q : Post} (h : EX K β W ts env Q) (h1 : ∀ e, Q.nx e → P.nx e) (h2 : ∀ v d e, Q.rt v d e → P.rt v d e) (h3 : ∀ e, Q.bk e → P.bk e) (h4 : ∀ e, Q.ct e → P.ct e) (h5 : ∀ c f v e, Q.ex c f v e → P.ex c f v e) : EX K β W ts env P := fun σ G H g Dn c x =>
  h σ G H g Dn ⟨fun σ' env' G' H' g' e n => c.nx σ' env' G' H' g' e (h1 _ n), fun σ' env' G' H' v d g' e dv n => c.rt σ' env' G' H' v d g' e dv (h2 _ _ _ n), fun σ' env' G' H' g' e n => c.bk σ' env' G' H' g' e (h3 _ n), fun σ' env' G' H' g' e n => c.ct σ' env' G' H' g' e (h4 _ n)⟩
    fun σ' env' G' H' cls f v dx g' e q1 q2 n => x σ' env' G' H' cls f v dx g' e q1 q2 (h5 _ _ _ _ n)
/-! ### loops -/
theorem ex_for {wi : TI} {g : TG} {ds : List D} (I : Nat → Env' → Prop) (hI : EVI K β wi env ds) (h0 : I 0 env)
    (hs : ∀ i env' v d, ds[i]? = some d → I i env' → ∃ Pg, EG K β g env' v d Pg ∧ ∀ env2, Pg env2 → EX K β W ts env2 { P with nx := I (i + 1), ct := I (i + 1), bk := P.nx })
    (hd : ∀ env', I ds.length env' → P.nx env') : EX K β W (tFor wi g ts) env P := fun σ G H g0 Dn c x =>
  hI σ G H g0 _ fun J us G1 H1 t1 hdl hJ => by
    refine ⟨fun i m σ' H' => m = us.length - i ∧ i ≤ us.length ∧ ∃ env' G', Good K β σ' env' G' H' ∧ Ex G1 G' ∧ I i env', ⟨us.length, by simp, Nat.zero_le _, env, G1, g0.up t1, .refl _, h0⟩, ?_⟩
    rintro i m σ' H' ⟨rfl, hi, env', G', g', e', hIi⟩
    by_cases hlt : i < us.length
    · have hx : us[i]? = some us[i] := List.getElem?_eq_getElem hlt
      obtain ⟨d, hdi, dx⟩ := hdl.getV hx
      obtain ⟨Pg, hg, hb⟩ := hs i env' us[i] d hdi hIi
      obtain ⟨hgo, hyl⟩ := (hJ i H' (e'.trans g'.gh)).2 _ hx
      refine .inr ⟨hgo, fun σ2 H2 => ∃ env2 G2, Good K β σ2 env2 G2 H2 ∧ Ex G1 G2 ∧ I (i + 1) env2, fun σ2 H2 z => ⟨us.length - (i + 1), by omega, rfl, hlt, z⟩, fun x0 H'' hy => ?_⟩
      obtain ⟨rfl, rfl⟩ := hyl _ _ hy
      refine hg _ _ _ g' (dx.up e') _ fun σ2 env2 g2 hp => ?_
      refine hb env2 hp σ2 G' _ g2 _ ⟨fun σ3 env3 G3 H3 g3 e3 n => ⟨env3, G3, g3, e'.trans e3, n⟩, fun σ3 env3 G3 H3 v d g3 e3 => c.rt σ3 env3 G3 H3 v d g3 (t1.gg.trans (e'.trans e3)), fun σ3 env3 G3 H3 g3 e3 => c.nx σ3 env3 G3 H3 g3 (t1.gg.trans (e'.trans e3)),
        fun σ3 env3 G3 H3 g3 e3 n => ⟨env3, G3, g3, e'.trans e3, n⟩⟩ (x.up (t1.gg.trans e'))
    · have hil : i = us.length := by omega
      refine .inl ⟨(hJ i H' (e'.trans g'.gh)).1 hil, ?_⟩
      refine c.nx σ' env' G' H' g' (t1.gg.trans e') (hd env' ?_)
      rw [hil, hdl.length] at hIi
      exact hIi
/-- the target a name -/
theorem ex_forN {wi : TI} {j : Nat} {ds : List D} (I : Nat → Env' → Prop) (hI : EVI K β wi env ds) (h0 : I 0 env)
    (hs : ∀ i env' v d, ds[i]? = some d → I i env' → EX K β W ts (env'.set j (.val v d)) { P with nx := I (i + 1), ct := I (i + 1), bk := P.nx })
    (hd : ∀ env', I ds.length env' → P.nx env') : EX K β W (tFor wi (gName j) ts) env P :=
  ex_for I hI h0 (fun i env' v d hd' hi => ⟨_, eg_name, fun env2 e => by subst e; exact hs i env' v d hd' hi⟩) hd
theorem ex_while {tt : Env' → Bool} {ttr : TT} (I : Env' → Prop) (μ : Env' → Nat) (h0 : I env) (ht : ∀ env', I env' → EVT K β ttr env' (tt env'))
    (hs : ∀ env', I env' → tt env' = true → EX K β W ts env' { P with nx := fun e => I e ∧ μ e < μ env', ct := fun e => I e ∧ μ e < μ env', bk := P.nx })
    (hd : ∀ env', I env' → tt env' = false → P.nx env') : EX K β W (tWhile ttr ts) env P := fun σ G H g0 Dn c x => by
  refine ⟨fun m σ' H' => ∃ env' G', m = μ env' ∧ Good K β σ' env' G' H' ∧ Ex G G' ∧ I env', ⟨_, env, G, rfl, g0, .refl _, h0⟩, ?_⟩
  rintro m σ' H' ⟨env', G', rfl, g', e', hi⟩
  refine ht env' hi σ' G' H' g' _ fun G1 H1 t1 => ?_
  cases hb : tt env' with
  | true =>
    rw [if_pos rfl]
    refine ⟨fun σ2 H2 => ∃ env2 G2, Good K β σ2 env2 G2 H2 ∧ Ex G G2 ∧ I env2 ∧ μ env2 < μ env', fun σ2 H2 ⟨env2, G2, g2, e2, i2, l⟩ => ⟨_, l, env2, G2, rfl, g2, e2, i2⟩, ?_⟩
    exact hs env' hi hb σ' G1 H1 (g'.up t1) _ ⟨fun σ3 env3 G3 H3 g3 e3 n => ⟨env3, G3, g3, (e'.trans t1.gg).trans e3, n.1, n.2⟩, fun σ3 env3 G3 H3 v d g3 e3 => c.rt σ3 env3 G3 H3 v d g3 ((e'.trans t1.gg).trans e3),
      fun σ3 env3 G3 H3 g3 e3 => c.nx σ3 env3 G3 H3 g3 ((e'.trans t1.gg).trans e3), fun σ3 env3 G3 H3 g3 e3 n => ⟨env3, G3, g3, (e'.trans t1.gg).trans e3, n.1, n.2⟩⟩ (x.up (e'.trans t1.gg))
  | false =>
    rw [if_neg Bool.false_ne_true]
    exact c.nx σ' env' G1 H1 (g'.up t1) (e'.trans t1.gg) (hd env' hi hb)
/-! ### lists of one's own -/
/-- x = [] (or any display whose items are data) that is one's own from here on -/
theorem ex_new {i : Nat} {ta : TA} {ds : List D} (he : EVA K β ta env ds) (hl : ds.length ≤ sizeLine) (h : ∀ a, P.nx (env.set i (.own a ds))) : EX K β W (tAsg (tLst ta) (gName i)) env P := fun σ G H g Dn c x =>
  he σ G H g _ fun vs G1 H1 t1 d1 => ⟨by rw [d1.length]; exact hl, fun p hp => c.nx _ _ G1 _ ((g.up t1).newOwn i hp d1) t1.gg (h p)⟩
theorem ex_app {i : Nat} {a : Addr} {ds : List D} (hi : env[i]? = some (.own a ds)) (he : EV K β te env d) (hl : ds.length < sizeLine) (h : P.nx (env.set i (.own a (ds ++ [d])))) :
    EX K β W (tDrop (tBM K "list" rAppend (tVar i) (tCons te tNil))) env P := fun σ G H g Dn c x => by
  obtain ⟨h1, h2, h3, xs, h4, h5⟩ := g.own hi
  refine ⟨.ref a, h1, .inl ⟨rfl, xs, .of h4⟩, he σ G H g _ fun v G1 H1 t1 d1 => ?_⟩
  refine ⟨a, xs, v, rfl, rfl, t1.hh _ _ h4, by rw [h5.length]; exact hl, ?_⟩
  exact c.nx _ _ G1 _ ((g.up t1).write hi ((h5.up t1.gg).append (.one d1))) t1.gg h
/-- return x, x a list of one's own: it is handed over -/
theorem ex_retOwn {i : Nat} {a : Addr} {ds : List D} (hi : env[i]? = some (.own a ds)) (hb : ∀ σ G H, Good K β σ env G H → β.bx ≠ some a) (h : ∀ v, P.rt v (.lst ds) (env.set i .un)) : EX K β W (tRet (tVar i)) env P := fun σ G H g Dn c x => by
  obtain ⟨h1, h2, h3, xs, h4, h5⟩ := g.own hi
  have hb' := hb σ G H g
  have h6 : β.H a = none := h2.resolve_right hb'
  have g1 := g.forget i
  have hna : a ∉ (env.set i .un).filterMap ownA := by
    have nd := g.nd
    clear h hb hb' g1 h1 h2 h3 h4 h5 h6 g c x
    induction env generalizing i with
    | nil => simp at hi
    | cons t env ih =>
      cases i with
      | zero =>
        simp at hi
        subst hi
        exact (List.nodup_cons.mp (show (a :: env.filterMap ownA).Nodup from nd)).1
      | succ i =>
        have hi' : env[i]? = some (.own a ds) := by simpa using hi
        rw [List.set_cons_succ, List.filterMap_cons]
        rw [List.filterMap_cons] at nd
        have hm : a ∈ env.filterMap ownA := List.mem_filterMap.mpr ⟨_, List.mem_of_getElem? hi', rfl⟩
        cases q : ownA t with
        | none => rw [q] at nd; exact ih hi' nd
        | some b =>
          rw [q] at nd
          intro m
          rcases List.mem_cons.mp m with z | z
          · exact (List.nodup_cons.mp nd).1 (z ▸ hm)
          · exact ih hi' (List.nodup_cons.mp nd).2 z
  refine ⟨.ref a, h1, c.rt σ (env.set i .un) (upd G a (.lst xs)) H (.ref a) (.lst ds) ?_ (.new h3) (.lst upd_same (h5.up (.new h3))) (h _)⟩
  have sl : ∀ {σ : Sg} {env : Env'}, SlsOk K β G H σ env → a ∉ env.filterMap ownA → SlsOk K β (upd G a (.lst xs)) H σ env := by
    intro σ env s
    induction s with
    | nil => intro _; exact .nil
    | @cons o s σ env x r ih =>
      intro m
      rw [List.filterMap_cons] at m
      cases s with
      | un => exact .cons trivial (ih m)
      | val v d => exact .cons ⟨x.1, x.2.up (.new h3)⟩ (ih m)
      | own b es =>
        have m' : a ∉ b :: env.filterMap ownA := m
        obtain ⟨y1, y2, y3, ys, y4, y5⟩ := x
        have hne : b ≠ a := fun z => m' (by rw [← z]; exact List.mem_cons_self)
        exact .cons ⟨y1, y2, by rw [upd_ne hne]; exact y3, ys, y4, y5.up (.new h3)⟩ (ih fun z => m' (List.mem_cons_of_mem _ z))
  exact ⟨g.gg.trans (.new h3), g.hh, fun b u e => by
    by_cases hb : b = a
    · subst hb; rw [upd_same] at e; rw [h4]; exact e
    · rw [upd_ne hb] at e; exact g.gh b u e, fun b e1 e2 => by
    have hne : b ≠ a := fun z => e2 (z ▸ h6)
    rw [upd_ne hne]; exact g.ow b e1 e2, g.bh, sl g1.sl hna, g1.nd⟩
/-- found[k], len(found) of one's own -/
theorem ev_ixOwn {i : Nat} {a : Addr} {ds : List D} {k : Int} (hi : env[i]? = some (.own a ds)) (hk : EV K β tb env (.int k)) (e : atI ds k = some d) : EV K β (tOp (rIxL K) (tVar i) tb) env d := fun σ G H g Q q => by
  obtain ⟨h1, h2, h3, xs, h4, h5⟩ := g.own hi
  refine ⟨.ref a, h1, hk σ G H g _ fun v G1 H1 t1 d1 => ?_⟩
  obtain ⟨u, hu, du⟩ := atI_of (h5.up t1.gg) e
  exact ⟨a, xs, k, u, rfl, d1.intV, .of (t1.hh _ _ h4), hu, q u G1 H1 t1 du⟩
theorem ev_lenOwn {i : Nat} {a : Addr} {ds : List D} (hi : env[i]? = some (.own a ds)) : EV K β (tCB (rLen K) (tCons (tVar i) tNil)) env (.int ds.length) := fun σ G H g Q q => by
  obtain ⟨h1, h2, h3, xs, h4, h5⟩ := g.own hi
  exact ⟨.ref a, h1, .ref a, xs.length, rfl, .inl ⟨xs, .of h4, rfl⟩, by rw [h5.length]; exact q _ G H (.refl g.gh) (.int _)⟩
/-! ### promises -/
variable (K) in
/-- a def that hands back data by data and does nothing else -/
def spD (R : List D → D → Prop) : Sp := fun vs H Q _ => ∃ G ds d, Ex G H ∧ DatL K G vs ds ∧ R ds d ∧ ∀ v G' H', Stp G H G' H' → Dat K G' v d → Q v H'
theorem ev_call {R : List D → D → Prop} {ta : TA} {ds : List D} {E : XK} (he : EVA K β ta env ds) (h : R ds d) : EV K β (tCall (spD K R) [] E ta) env d := fun σ G H g Q q =>
  he σ G H g _ fun vs G1 H1 t1 d1 => ⟨G1, ds, d, t1.gh, by rw [List.append_nil]; exact d1, h, fun v G2 H2 t2 d2 => q v G2 H2 (t1.trans t2) d2⟩
/-- a def's entry: nothing lent -/
theorem EX.fin {G H : Hp} {Q : VK} {d : D} {t : TS} {σ : Sg} (g : Good K ⟨G, H, none⟩ σ env G H) (q : ∀ v G' H', Stp G H G' H' → Dat K G' v d → Q v H') (h : EX K ⟨G, H, none⟩ W t env { rt := fun _ d' _ => d' = d, nx := fun _ => d = .non }) :
    t { nx := fun _ H' => Q .non H', rt := Q } σ H := by
  have st : ∀ {σ' env' G' H'}, Good K ⟨G, H, none⟩ σ' env' G' H' → Stp G H G' H' := fun g' => ⟨g'.gg, fun a o e => g'.hh a o (fun z => nomatch z) e, g'.gh, g'.ow⟩
  refine h σ G H g _ ⟨fun σ' env' G' H' g' e n => q _ G' H' (st g') (n ▸ .non), fun σ' env' G' H' v d' g' e dv n => q v G' H' (st g') (n ▸ dv), fun _ _ _ _ _ _ n => False.elim n, fun _ _ _ _ _ _ n => False.elim n⟩ fun _ _ _ _ _ _ _ _ _ _ _ _ n => False.elim n
theorem SlsOk.vals {G H : Hp} : ∀ {vs : List V} {ds : List D}, DatL K G vs ds → SlsOk K β G H (vs.map some) (List.zipWith Sl.val vs ds)
  | _, _, .nil => .nil
  | _, _, .cons a t => .cons ⟨rfl, a⟩ (SlsOk.vals t)
theorem SlsOk.uns {G H : Hp} : ∀ m : Nat, SlsOk K β G H (List.replicate m none) (List.replicate m Sl.un)
  | 0 => .nil
  | m + 1 => .cons (s := .un) trivial (SlsOk.uns m)
theorem SlsOk.app {G H : Hp} : ∀ {σ τ : Sg} {env env' : Env'}, SlsOk K β G H σ env → SlsOk K β G H τ env' → SlsOk K β G H (σ ++ τ) (env ++ env')
  | _, _, _, _, .nil, h => h
  | _, _, _, _, .cons a r, h => .cons a (SlsOk.app r h)
theorem own_vals : ∀ (vs : List V) (ds : List D), (List.zipWith Sl.val vs ds).filterMap ownA = []
  | [], _ => by simp
  | _ :: _, [] => rfl
  | v :: vs, d :: ds => by
    rw [List.zipWith_cons_cons, List.filterMap_cons]
    exact own_vals vs ds
theorem own_uns : ∀ m : Nat, (List.replicate m Sl.un).filterMap ownA = []
  | 0 => rfl
  | m + 1 => by
    rw [List.replicate_succ, List.filterMap_cons]
    exact own_uns m
/-- the slots at a def's entry: the parameters' data, then nothing -/
def entry (N : List Str) (vs : List V) (ds : List D) : Env' := List.zipWith Sl.val vs ds ++ List.replicate (N.length - vs.length) Sl.un
theorem good_start {G H : Hp} (e : Ex G H) {vs : List V} {ds : List D} (h : DatL K G vs ds) (N : List Str) : Good K ⟨G, H, none⟩ (start N vs) (entry N vs ds) G H :=
  ⟨.refl _, fun _ _ _ e => e, e, fun _ h _ => h, (fun _ h => by cases h), (SlsOk.vals h).app (.uns _), by
    unfold entry
    rw [List.filterMap_append, own_vals, own_uns]
    exact List.nodup_nil⟩
end
end DL

set_option Elab.async false
set_option linter.all false
set_option maxRecDepth 100000
set_option maxHeartbeats 2000000
namespace DL
open PySem PySem.Spec PyProof.Rows L2

/-! ### an error class of the program: directly below SemigroupError, which is a ValueError -/
/-- what the written part says of SemigroupError -/
structure SemC (K : PySem.W.Frag) (mg : Str → Option Value) (C0 : Addr) : Prop where
  gC : mg "SemigroupError" = some (.ref C0)
  sp : PySem.W.specialIn K (.ref C0) "__getattribute__" = some (some (.builtin "type.__getattribute__"))
  rd : PySem.W.readsIn K C0 (.type "type") = true
  fi : PySem.W.findCls K (.ref C0) (.type "type") "__init__" = some (.val (.builtin "ValueError.__init__"))
  exC : PySem.W.subIn K (.ref C0) (.type "BaseException") = some true
  tyC : PySem.W.typeIn K (.ref C0) = some (.type "type")
  ic : PySem.W.isClsIn K C0 = true
/-- .. of a class x with one field f, set by its __init__ at fI -/
structure ErrC (K : PySem.W.Frag) (mg : Str → Option Value) (x f : Str) (C fI : Addr) : Prop where
  gC : mg x = some (.ref C)
  oe : OexC K C
  iC : PySem.W.findIn K (.ref C) "__init__" = some (some (.ref fI))
  tI : PySem.W.typeIn K (.ref fI) = some (.type "function")
  xf : XfC K C
  nf : PySem.W.findIn K (.ref C) f = some none
  ic : PySem.W.isClsIn K C = true
  ha : PySem.W.findIn K (.ref C) "__class__" = some (some (.builtin "object.__class__"))
  hn : PySem.W.specialIn K (.builtin "object.__class__") "__get__" = some (some (.builtin "getset_descriptor.__get__"))
  ht : PySem.W.takesIn K (.builtin "object.__class__") = some true
  hm : PySem.W.mroIn K C (.type "object") = some true
section
variable {X : Cx} {o e : Expr} {es : List Expr} {to te : TE} {ta : TA} {f : Str} {p p' p1 p2 pos : Pos}
theorem pe_seinit {pl : Sem Bool} {C0 : Addr} (S : SemC X.K X.mg C0) (hg : Gl X "SemigroupError") (ha : PA X (e :: es) ta)
    (hc : eval (.Call (.Attribute (.Name "SemigroupError" p1) "__init__" p2) (e :: es) [] pos) X.env = (do
      let ov ← eval (.Name "SemigroupError" p1) X.env
      standAt p2.atName
      let (f, first) ← holding [ov] (getMethod ov "__init__" pl)
      callWith pos f first (backTo pos (starEach (e :: es) X.env)) (backToKw pos (keywordEach [] X.env))) := by rfl)
    (he : starEach (e :: es) X.env = (false, eval e X.env) :: starEach es X.env := by rfl) (hpl : (backTo pos (starEach es X.env)).any (·.1) = false := by rfl) :
    PE X (.Call (.Attribute (.Name "SemigroupError" p1) "__init__" p2) (e :: es) [] pos) (tVeI X.K ta) := by
  refine ⟨fun pins s σ H Q I h => ?_⟩
  refine PySem.W.methodCall_KW (ld_glob I hg S.gC ?_ (by decide)) hc
  refine PySem.W.method_cls I.kIn S.sp (PySem.W.cls_value I.kIn S.rd S.fi (by decide +kernel) ?_)
  show wpAny _ _ (callWith pos (Value.builtin "ValueError.__init__") [] (backTo pos (starEach (e :: es) X.env)) []) _ _ _
  refine PyProof.Rows.callWith_method1 (thn (ha.run pos pins _ σ H _ (I.tok _) h) fun us s1 ⟨vs, H1, I1, r1, a, C, ws, ev, hl, T, ea, q⟩ => ?_) he hpl
  subst ev
  cases r1 with
  | @cons _ u0 _ ur ra rw' =>
    obtain rfl : u0 = Value.ref a := ra
    have hlen : ur.length ≤ sizeLine := by
      rw [← Paired.length rw', sizeLine_eq]
      omega
    exact oinit_ok T I1 ea hlen fun s' J => ⟨.non, H1, J, rfl, q⟩
end
/-- what __init__ of such a class does -/
def spErr (K : PySem.W.Frag) (f : Str) : Sp := fun vs H Q _ => ∃ (a C : Addr) (v : V), vs = [.ref a, v] ∧ OexC K C ∧ PySem.W.findIn K (.ref C) f = some none ∧ H a = some (exo a C none) ∧
  ∀ dx, H dx = none → dx ≠ a → Q .non (upd (upd H dx (exd dx [(f, v)])) a (exo a C (some dx)))
section
variable {K : PySem.W.Frag} {β : Bas} {env : Env'} {ta tb te tc : TE} {tt tu : TT} {x y z d : D} {v w : V} {P : Post} {W : WX} {ts tr : TS} {C : Addr} {f : Str}
/-- raise X(e) -/
theorem ex_raise {ta : TA} (he : EVAv K β ta env [v] [d]) (T : OexC K C) (nf : PySem.W.findIn K (.ref C) f = some none) (h : P.ex (.ref C) f v env) :
    EX K β W (fun _ σ H => tMkO C (spErr K f) [] ta σ H fun cls dd H' => W cls dd σ H') env P := fun σ G H g Dn c x =>
  he σ G H g _ fun G1 H1 t1 d1 => ⟨by show 1 ≤ 1000; decide, fun a ha => ⟨a, C, v, rfl, T, nf, upd_same, fun dx h1 h2 => by
    rw [upd_ne h2] at h1
    have e2 : ∀ b, b ≠ a → b ≠ dx → (upd (upd (upd H1 a (exo a C none)) dx (exd dx [(f, v)])) a (exo a C (some dx))) b = H1 b := fun b hb hd => by rw [upd_ne hb, upd_ne hd, upd_ne hb]
    refine ⟨rfl, dx, [(f, v)], upd_same, by rw [upd_ne h2, upd_same], h1, ?_⟩
    have g1 : G1 dx = none := t1.gh.back h1
    have eq : upd (del (upd (upd (upd H1 a (exo a C none)) dx (exd dx [(f, v)])) a (exo a C (some dx))) a) dx (.xd [(f, v)]) = upd H1 dx (.xd [(f, v)]) := by
      funext b
      by_cases hd : b = dx
      · subst hd; rw [upd_same, upd_same]
      · rw [upd_ne hd, upd_ne hd]
        by_cases hb : b = a
        · subst hb; rw [del_same, ha]
        · rw [del_ne hb, e2 b hb hd]
    rw [eq]
    exact x σ env G1 _ (.ref C) f v dx ((g.up t1).up ((Stp.refl t1.gh).side h1 g1)) t1.gg upd_same g1 h⟩⟩
/-! ### promises of defs that may raise -/
variable (K) in
/-- data by data, or an error of the class C with the field f that is the value v -/
def spX (R : List D → D → Prop) (E' : List V → List D → Value → Str → V → Prop) : Sp := fun vs H Q E => ∃ G ds, Ex G H ∧ DatL K G vs ds ∧
  ((∃ d, R ds d ∧ ∀ v G' H', Stp G H G' H' → Dat K G' v d → Q v H') ∨ (∃ cls f v, E' vs ds cls f v ∧ ∀ G' H' dx, Stp G H G' H' → H' dx = some (.xd [(f, v)]) → G' dx = none → E cls (some dx) H'))
/-- a call, on the way on which it hands back -/
theorem ev_callX {R : List D → D → Prop} {E' : List V → List D → Value → Str → V → Prop} {ta : TA} {ds : List D} {E : Sg → XK} (he : EVA K β ta env ds) (h : R ds d) : EV K β (tCallS (spX K R E') E ta) env d := fun σ G H g Q q =>
  he σ G H g _ fun vs G1 H1 t1 d1 => ⟨G1, ds, t1.gh, d1, .inl ⟨d, h, fun v G2 H2 t2 d2 => q v G2 H2 (t1.trans t2) d2⟩⟩
/-- .. on the way on which it raises: whatever the statement does with its value is never reached -/
def Raises' (K : PySem.W.Frag) (β : Bas) (W : WX) (te : TE) (env : Env') (cls : Value) (f : Str) (v : V) : Prop :=
  ∀ σ G H, Good K β σ env G H → ∀ Q : VK, (∀ G' H' dx, Stp G H G' H' → H' dx = some (.xd [(f, v)]) → G' dx = none → W cls (some dx) σ H') → te σ H Q
theorem rs_call {R : List D → D → Prop} {E' : List V → List D → Value → Str → V → Prop} {ta : TA} {ds : List D} {vs : List V} {cls : Value} (he : EVAv K β ta env vs ds) (h : E' vs ds cls f v) : Raises' K β W (tCallS (spX K R E') (WE W) ta) env cls f v := fun σ G H g Q q =>
  he σ G H g _ fun G1 H1 t1 d1 => ⟨G1, ds, t1.gh, d1, .inr ⟨cls, f, v, h, fun G2 H2 dx t2 => q G2 H2 dx (t1.trans t2)⟩⟩
theorem ex_rs {cls : Value} (h : Raises' K β W te env cls f v) (hp : P.ex cls f v env) {k : Ends → Sg → VK} : EX K β W (fun D σ H => te σ H (k D σ)) env P := fun σ G H g Dn c x =>
  h σ G H g _ fun G1 H1 dx t1 e1 e2 => x σ env G1 H1 cls f v dx (g.up t1) t1.gg e1 e2 hp
theorem ex_rsDrop {cls : Value} (h : Raises' K β W te env cls f v) (hp : P.ex cls f v env) : EX K β W (tSeq (tDrop te) tr) env P :=
  ex_seq (N := fun _ => False) (show EX K β W (fun D σ H => te σ H (fun _ H' => D.nx σ H')) env { P with nx := fun _ => False } from ex_rs (P := { P with nx := fun _ => False }) (k := fun D σ _ H' => D.nx σ H') h hp) fun _ n => n.elim
theorem ex_rsRet {cls : Value} (h : Raises' K β W te env cls f v) (hp : P.ex cls f v env) : EX K β W (tRet te) env P := ex_rs (k := fun D _ => D.rt) h hp
/-- a def's end, where it may raise -/
theorem EX.finX {G H : Hp} {Q : VK} {E : XK} {t : TS} {σ : Sg} (g : Good K ⟨G, H, none⟩ σ env G H)
    (q : (∃ d, (∀ v G' H', Stp G H G' H' → Dat K G' v d → Q v H') ∧ EX K ⟨G, H, none⟩ (fun cls d _ H => E cls d H) t env { rt := fun _ d' _ => d' = d, nx := fun _ => d = .non }) ∨
      (∃ cls f v, (∀ G' H' dx, Stp G H G' H' → H' dx = some (.xd [(f, v)]) → G' dx = none → E cls (some dx) H') ∧ EX K ⟨G, H, none⟩ (fun cls d _ H => E cls d H) t env { ex := fun c f' v' _ => c = cls ∧ f' = f ∧ v' = v })) :
    t { nx := fun _ H' => Q .non H', rt := Q } σ H := by
  have st : ∀ {σ' env' G' H'}, Good K ⟨G, H, none⟩ σ' env' G' H' → Stp G H G' H' := fun g' => ⟨g'.gg, fun a o e => g'.hh a o (fun z => nomatch z) e, g'.gh, g'.ow⟩
  rcases q with ⟨d, q, h⟩ | ⟨cls, f, v, q, h⟩
  · exact h σ G H g _ ⟨fun σ' env' G' H' g' e n => q _ G' H' (st g') (n ▸ .non), fun σ' env' G' H' v d' g' e dv n => q v G' H' (st g') (n ▸ dv), fun _ _ _ _ _ _ n => False.elim n, fun _ _ _ _ _ _ n => False.elim n⟩ fun _ _ _ _ _ _ _ _ _ _ _ _ n => False.elim n
  · refine h σ G H g _ ⟨fun _ _ _ _ _ _ n => False.elim n, fun _ _ _ _ _ _ _ _ _ n => False.elim n, fun _ _ _ _ _ _ n => False.elim n, fun _ _ _ _ _ _ n => False.elim n⟩ fun σ' env' G' H' c f' v' dx g' e e1 e2 n => ?_
    obtain ⟨rfl, rfl, rfl⟩ := n
    exact q G' H' dx (st g') e1 e2
end
/-! ### several except clauses, with names or without -/
/-- what the clauses wish: (class, the slot of the name if there is one, the suite) -/
def wManyA (K : PySem.W.Frag) (Wout : WX) (D : Ends) : List (Value × Option Nat × (Addr → Value → Option Addr → TS)) → WX
  | [] => Wout
  | (c, none, ts) :: r => fun cls d σ H => ∃ b, PySem.W.exmOne K cls c = some b ∧ (b = true → ∀ a, H a = none → ts a cls d D σ H) ∧ (b = false → wManyA K Wout D r cls d σ H)
  | (c, some i, ts) :: r => fun cls d σ H => ∃ b, PySem.W.exmOne K cls c = some b ∧
      (b = true → ∀ a, H a = none → ts a cls d { nx := fun σ' H' => D.nx (σ'.set i none) H', rt := D.rt, bk := fun σ' H' => D.bk (σ'.set i none) H', ct := fun σ' H' => D.ct (σ'.set i none) H' } (σ.set i (some (.ref a))) H) ∧ (b = false → wManyA K Wout D r cls d σ H)
inductive HdsA (X : Cx) : List ExceptHandler → List (Value × Option Nat × (Addr → Value → Option Addr → TS)) → Prop
  | nil : HdsA X [] []
  | cons {x : Str} {c : Value} {ts : Addr → Value → Option Addr → TS} {b₀ : Stmt} {suite : List Stmt} {np pos' : Pos} {hds : List ExceptHandler} {l} (hc : Names X x c)
      (hsu : ∀ (a : Addr) (oe : Obj) (cls : Value) (d : Option Addr) (pn : List (Addr × Obj)), Zc cls d oe → (∃ vs, oe.data = .fields vs) → PSs (X.suite a ((a, oe) :: pn)) (b₀ :: suite) (ts a cls d)) (r : HdsA X hds l) :
      HdsA X (.ExceptHandler (some (.Name x np)) none (b₀ :: suite) pos' :: hds) ((c, none, ts) :: l)
  | consA {x n : Str} {i : Nat} {c : Value} {ts : Addr → Value → Option Addr → TS} {b₀ : Stmt} {suite : List Stmt} {np pos' : Pos} {hds : List ExceptHandler} {l} (hc : Names X x c) (hN : X.N.Nodup) (hi : X.N[i]? = some n) (hln : X.env.kindOf n = some .local)
      (hsu : ∀ (a : Addr) (oe : Obj) (cls : Value) (d : Option Addr) (pn : List (Addr × Obj)), Zc cls d oe → (∃ vs, oe.data = .fields vs) → PSs (X.suite a ((a, oe) :: pn)) (b₀ :: suite) (ts a cls d)) (r : HdsA X hds l) :
      HdsA X (.ExceptHandler (some (.Name x np)) (some n) (b₀ :: suite) pos' :: hds) ((c, some i, ts) :: l)
section
variable {X : Cx} {body : List Stmt} {h₀ : ExceptHandler} {hds : List ExceptHandler} {l : List (Value × Option Nat × (Addr → Value → Option Addr → TS))} {pos : Pos} {tb : WX → TS} {Wout : WX}
theorem ps_try_manyA (hs : X.stack = X.env :: X.outer) (hf : X.env.frame = some X.env.locals) (tk : Takes X Wout)
    (hb : ∀ (W : WX) (pn : List (Addr × Obj)) (xe : Value → Shared → Prop), Takes (X.tr pn xe) W → PassesOwn (model X.prog X.w) X.A X.env xe → PSs (X.tr pn xe) body (tb W))
    (hh : HdsA X (h₀ :: hds) l) : PS X (.Try body (h₀ :: hds) [] [] pos) (fun D σ H => tb (wManyA X.K Wout D l) D σ H) := by
  refine ⟨fun pins s σ H D I h => ?_⟩
  have ok := I.ok
  have hfr : X.A.frames = some (X.env :: X.outer) := by rw [ok.frames, hs]
  refine wpAny_Try_except ?_
  refine wpAny_mono ((hb (wManyA X.K Wout D l) (X.pn ++ pins) (fun e s₁ => wpAny (model X.prog X.w) X.A (noteFrame e X.env) (fun _ s₂ => wpAny (model X.prog X.w) X.A (setFlight e none) (fun _ s₃ =>
    wpAny (model X.prog X.w) X.A (handleBy e X.env (h₀ :: hds)) (SP X pins D) X.xe s₃) X.xe s₂) X.xe s₁) (fun u s' xx => ?_) PassesOwn.looking).run [] s σ H D (I.toTry _) h) (fun f s1 hsp => ?_) (fun e s1 he => he)
  · obtain ⟨a, B, sI, pins', σ', H', cls, d, rfl, J', nb, up, sky, na, os, ag, w⟩ := xx
    have J : Inv X pins σ' H' sI := J'.ofTry ok
    have sky' : Sky B (X.env :: X.outer) a (Zc cls d) X.env.locals s'.heap := by rw [← hs]; exact sky
    show wpAny (model X.prog X.w) X.A (noteFrame (.ref a) X.env) _ _ _
    refine Sky.land Zc.steady hfr hf sky' fun h3 fl3 up3 => ?_
    have J3 : Inv X pins σ' H' { s' with heap := h3 } := J.landed nb fl3.1 (up.trans up3) os ag
    obtain ⟨oe3, vs3, he3, hz3, hd3⟩ := fl3.there
    have notFr : ∀ {h : Heap} {o : Obj} {vs : Array Value}, h.FunFrames B (X.env :: X.outer) → h.get? a = some o → o.data = .fields vs → a ∉ frs (X.env :: X.outer) := fun {h o vs} ff e dd hm => by
      obtain ⟨_, o', e', hnf⟩ := ff.mem hm
      rw [e] at e'; cases e'
      exact hnf _ dd
    have nfr := notFr fl3.2.2.1 he3 hd3
    have nL : a ≠ X.env.locals := fun z => nfr (List.mem_filterMap.mpr ⟨X.env, List.mem_cons_self, by rw [hf, z]⟩)
    have nF : a ∉ X.fs := fun hm => by
      obtain ⟨e, he, q⟩ := List.mem_filterMap.mp hm
      exact nfr (List.mem_filterMap.mpr ⟨e, List.mem_cons_of_mem _ he, q⟩)
    have S3 := J3.suite he3 hd3 na nL nF
    have LT : PySem.W.Looks (model X.prog X.w) h3 (typeOf (.ref a)) cls := fun A Q E s k q => wpAny_typeOf_ref (k _ _ he3) (by rw [hz3.1]; exact q)
    have test : ∀ {x : Str} {c : Value} {np : Pos} {Q : Value → Shared → Prop} {E : Value → Shared → Prop}, Names X x c → Q c { s' with heap := h3 } → wpAny (model X.prog X.w) (X.A.mark (some (.ref a))) (eval (.Name x np) X.env) Q E { s' with heap := h3 } := fun {x c np Q E} hc q => by
      obtain ⟨hg, hdbg, hm | ⟨hm, hv, hnn⟩⟩ := hc
      · exact ld_glob (X := X.suite a ((a, oe3) :: (X.pn ++ pins))) S3 hg hm q hdbg
      · exact ld_blt (X := X.suite a ((a, oe3) :: (X.pn ++ pins))) S3 hg hm hv q hnn hdbg
    have go : ∀ {hds' : List ExceptHandler} {l'}, HdsA X hds' l' → wManyA X.K Wout D l' cls d σ' H' →
        wpAny (model X.prog X.w) X.A (handleBy (.ref a) X.env hds') (SP X pins D) X.xe { s' with heap := h3 } := by
      intro hds' l' hk
      induction hk with
      | nil =>
        intro w
        refine wpAny_handleBy_nil ?_
        obtain ⟨k1, k2, k3, oe, vs, T, oT, ts', he, hz, hd, h1, hr⟩ := id fl3
        unfold PySem.passOn
        refine wpAny_bind (wpAny_field he hd h1 ?_)
        rw [if_neg (show ¬ ((Value.ref T == Value.none) = true) from by simp)]
        have fin : wpAny (model X.prog X.w) X.A (setFlight (.ref a) X.env.frame) (fun _ s4 => wpAny (model X.prog X.w) X.A (throw (.ref a) : Sem Flow) (SP X pins D) X.xe s4) X.xe { s' with heap := h3 } := by
          rw [hf]
          refine HandSPX.setFlight_upZ fl3 fun h4 hh4 up4 => wpAny_throw (tk _ _ ?_)
          exact ⟨a, B, sI, pins, σ', H', cls, d, rfl, J, nb, (up.trans up3).trans up4, .inr (.inr (by rw [hs]; exact hh4)), na, os, ag, w⟩
        first
          | exact wpAny_bind (wpAny_pure (wpAny_bind fin))
          | exact wpAny_bind fin
      | @cons x c ts b₀ suite np pos' hds2 l2 hc hsu r ih =>
        intro w
        obtain ⟨b, hb1, hyes, hno⟩ := w
        refine wpAny_handleBy_cons (codeAny_handlers_test ?_) (by intro q; cases q)
        have LM := PySem.W.exm_one (M := model X.prog X.w) (J3.kIn) LT hb1
        refine test hc (LM.here ?_)
        cases b with
        | true =>
          refine codeAny_handlers_suite ?_
          refine HandSPX.lands_againZ fl3 fun h4 fl4 up4 => ?_
          have J4 : Inv X pins σ' H' { s' with heap := h4 } := J.landed nb fl4.1 ((up.trans up3).trans up4) os ag
          obtain ⟨oe4, vs4, he4, hz4, hd4⟩ := fl4.there
          have S4 := J4.suite he4 hd4 na nL nF
          refine wpAny_mono ((hsu a oe4 cls d (X.pn ++ pins) hz4 ⟨_, hd4⟩).run [] _ _ H' _ S4 (hyes rfl a na)) (fun f s6 hsp => ?_) (fun _ _ z => False.elim z)
          cases f with
          | next =>
            obtain ⟨σ6, H6, S6, q6⟩ := hsp
            exact ⟨_, _, S6.unsuite ok, q6⟩
          | brk =>
            obtain ⟨σ6, H6, S6, q6⟩ := hsp
            exact ⟨_, _, S6.unsuite ok, q6⟩
          | cont =>
            obtain ⟨σ6, H6, S6, q6⟩ := hsp
            exact ⟨_, _, S6.unsuite ok, q6⟩
          | ret u =>
            obtain ⟨v6, σ6, H6, S6, r6, q6⟩ := hsp
            exact ⟨_, _, _, S6.unsuite ok, r6, q6⟩
        | false =>
          show wpAny _ X.A (handleBy (.ref a) X.env hds2) _ _ _
          exact ih (hno rfl)
      | @consA x n i c ts b₀ suite np pos' hds2 l2 hc hN hi hln hsu r ih =>
        intro w
        obtain ⟨b, hb1, hyes, hno⟩ := w
        have hloc : Loc X.env.scope n := .inl hln
        refine wpAny_handleBy_cons (codeAny_handlers_test ?_) (by intro q; cases q)
        have LM := PySem.W.exm_one (M := model X.prog X.w) (J3.kIn) LT hb1
        refine test hc (LM.here ?_)
        cases b with
        | true =>
          refine codeAny_handlers_suite_as ?_
          refine HandSPX.lands_againZ fl3 fun h4 fl4 up4 => ?_
          have J4 : Inv X pins σ' H' { s' with heap := h4 } := J.landed nb fl4.1 ((up.trans up3).trans up4) os ag
          obtain ⟨oe4, vs4, he4, hz4, hd4⟩ := fl4.there
          have S4 := J4.suite he4 hd4 na nL nF
          refine store_ok (X := X.suite a ((a, oe4) :: (X.pn ++ pins))) (v := .ref a) S4 hN hi hloc rfl (fun s5 S5 => ?_) (.inr hln)
          refine wpAny_mono ((hsu a oe4 cls d (X.pn ++ pins) hz4 ⟨_, hd4⟩).run [] s5 _ H' _ S5 (hyes rfl a na)) (fun f s6 hsp => ?_) (fun _ _ z => False.elim z)
          have end_ : ∀ {σ6 : Sg} {H6 : Hp} {Q : Shared → Prop}, Inv (X.suite a ((a, oe4) :: (X.pn ++ pins))) [] σ6 H6 s6 → (∀ s7, Inv X pins (σ6.set i none) H6 s7 → Q s7) →
              wpAny (model X.prog X.w) X.A (do bindName X.env n .none; unbindBehindTheSuite X.env n pos') (fun _ s7 => Q s7) X.xe s6 := fun {σ6 H6 Q} S6 hq => gone_ok (S6.unsuite ok) hN hi hln hq
          cases f with
          | next =>
            obtain ⟨σ6, H6, S6, q6⟩ := hsp
            exact end_ S6 fun s7 J7 => ⟨_, _, J7, q6⟩
          | brk =>
            obtain ⟨σ6, H6, S6, q6⟩ := hsp
            exact end_ S6 fun s7 J7 => ⟨_, _, J7, q6⟩
          | cont =>
            obtain ⟨σ6, H6, S6, q6⟩ := hsp
            exact end_ S6 fun s7 J7 => ⟨_, _, J7, q6⟩
          | ret u =>
            obtain ⟨v6, σ6, H6, S6, r6, q6⟩ := hsp
            exact end_ S6 fun s7 J7 => ⟨_, _, _, J7, r6, q6⟩
        | false =>
          show wpAny _ X.A (handleBy (.ref a) X.env hds2) _ _ _
          exact ih (hno rfl)
    exact go hh w
  · cases f with
    | next =>
      obtain ⟨σ', H', J', q⟩ := hsp
      exact wpAny_execs_nil ⟨σ', H', J'.ofTry ok, q⟩
    | brk =>
      obtain ⟨σ', H', J', q⟩ := hsp
      exact ⟨σ', H', J'.ofTry ok, q⟩
    | cont =>
      obtain ⟨σ', H', J', q⟩ := hsp
      exact ⟨σ', H', J'.ofTry ok, q⟩
    | ret u =>
      obtain ⟨v, σ', H', J', r, q⟩ := hsp
      exact ⟨v, σ', H', J'.ofTry ok, r, q⟩
/-- isinstance(e, c), e the caught error of the class D with its dict -/
def rIsX (K : PySem.W.Frag) (D a : Addr) (d : Option Addr) : List V → Hp → VK → Prop := fun xs H Q => ∃ (c : V) (cv : Value) (b : Bool) (dd : Addr) (fs : List (Str × V)), xs = [.ref a, c] ∧ (∀ u, RelV c u → u = cv) ∧ d = some dd ∧ H dd = some (.xd fs) ∧ PySem.W.kitOne K (.ref D) cv = some b ∧ Q (.bl b) H
theorem call_isX {a D : Addr} {d : Option Addr} {oe : Obj} {mg : Str → Option Value} {x f : Str} {fI : Addr} {cls : Value} {pn : List (Addr × Obj)} (C : ErrC X.K mg x f D fI) (hz : Zc cls d oe) (hf : ∃ vs, oe.data = .fields vs) :
    CallR (X.suite a ((a, oe) :: pn)) (.builtin "isinstance") (fun xs H Q => cls = .ref D ∧ rIsX X.K D a d xs H Q) := by
  intro pins s σ H xs us Q I r h
  obtain ⟨rfl, c, cv, b, dd, fs, rfl, hcv, rfl, hxd, e, q⟩ := h
  cases r with
  | cons rx rr =>
    cases rr with
    | cons rt rr =>
      cases rr
      cases rx
      have ec := hcv _ rt
      subst ec
      obtain ⟨hget, _⟩ := I.pin (a, oe) (List.mem_append.mpr (.inl List.mem_cons_self))
      obtain ⟨vs, hv⟩ := hf
      have hx : ObjOk X.prog X.w H s.heap dd (.xd fs) := I.hok dd _ hxd
      obtain ⟨mA, ⟨od, es, ep, ho, hr⟩, _⟩ := hx
      have J : PySem.W.InstAt s.heap a oe D (some od) := ⟨hget, hz.1, by unfold PySem.W.notCls; rw [hv] <;> rfl, by rw [hz.2]; exact ho⟩
      have hcl : (PySem.W.clsIn X.K D).isSome = true := C.ic
      exact PySem.W.kia_one (PySem.W.kitx_exc (od := some od) hcl C.xf.ga C.xf.gg C.xf.exC C.ha C.hn C.ht C.hm) I.kIn J e (fun z => nomatch z) fun tk => ⟨.bl b, H, I.kept (t' := tk) fun _ _ z => z, rfl, q⟩
end
end DL

set_option Elab.async false
set_option linter.all false
set_option maxRecDepth 100000
set_option maxHeartbeats 2000000
namespace DL
open PySem PySem.Spec PyProof.Rows L2

/-! ### calls by keywords alone -/
def tCallK0 (sp : Sp) (gV : List V → List V → List V) (E : Sg → XK) (tk : TA) : TE := fun σ H Q => tk σ H fun zs H2 => sp (gV [] zs) H2 Q (E σ)
section
variable {X : Cx} {CX : CXT} {k n : Nat} {f C : Addr} {fd : FuncData} {ps ks : List Str} {sp : Sp} {E : XK} {ES : Sg → XK} {x : Str} {p pos : Pos} {kws : List Keyword} {t tk : TA} {g : List Value → List Value → List Value} {gV : List V → List V → List V}
theorem pe_callK0 (F : FnOk X.prog X.w X.K X.mg X.base CX k f fd ps sp) (hr : Room k X.A) (hg : Gl X x) (hm : X.mg x = some (.ref f)) (hk : PySem.W.keepIn X.K (.ref f) = true) (hb : KBinds X.K fd ps ks g gV) (hx : Passes CX X E)
    (hkw : PK X kws tk) (hall : (backToKw pos (keywordEach kws X.env)).all (·.1.isSome) = true := by rfl) (hks : (backToKw pos (keywordEach kws X.env)).filterMap (·.1) = ks := by rfl)
    (hdb : (x == ("__debug__" : Str)) = false := by decide) (hpl : ((backTo pos (starEach [] X.env)).any (·.1) || (backToKw pos (keywordEach kws X.env)).any (·.1.isNone)) = false := by rfl) :
    PE X (.Call (.Name x p) [] kws pos) (tCallK0 sp gV (fun _ => E) tk) := by
  refine ⟨fun pins s σ H Q I h => ?_⟩
  refine wpAny_Call_Name_kw (ld_glob I hg hm ?_ hdb)
  refine PySem.W.callWith_KW0 (h₀ := X.base) I.ok.mod.kin hk hall ?_ hpl
  refine thn (hkw.run pos pins s σ H _ I h) fun ws s2 ⟨zs, H2, I2, rz, q2⟩ => ⟨I2.kIn, ?_⟩
  rw [hks]
  exact run_fnk F hr hb hx I2 .nil rz q2
theorem run_fnkS {pins : List (Addr × Obj)} {σ : Sg} {H : Hp} {s : Shared} {Q : VK} {us ws : List Value} {vs zs : List V} (F : FnOk X.prog X.w X.K X.mg X.base CX k f fd ps sp) (hr : Room k X.A) (hb : KBinds X.K fd ps ks g gV) (hx : PassesAt CX X σ (ES σ))
    (I : Inv X pins σ H s) (r : Vals vs us) (rz : Vals zs ws) (h : sp (gV vs zs) H Q (ES σ)) : wpAny (model X.prog X.w) X.A (call (.ref f) us (ks.zip ws)) (EP X pins σ Q) X.xe s := by
  have r2 := hb.rel r rz
  have hl : (g us ws).length = ps.length := by rw [← r2.length]; exact F.len _ _ _ _ h
  refine wpAny_call (codeAny_mono (F.run X.A X.stack s H ⟨us, ks.zip ws⟩ (g us ws) (gV vs zs) Q (ES σ) hr I.env0 (hb.to s us ws I.kIn hl) r2 h) fun r s' hq => ?_)
  cases r with
  | error e => exact hx pins H s e s' I hq
  | ok fl =>
    cases fl with
    | ret u => exact I.after hq
    | next => exact False.elim hq
    | brk => exact False.elim hq
    | cont => exact False.elim hq
theorem pe_callK0S (F : FnOk X.prog X.w X.K X.mg X.base CX k f fd ps sp) (hr : Room k X.A) (hg : Gl X x) (hm : X.mg x = some (.ref f)) (hk : PySem.W.keepIn X.K (.ref f) = true) (hb : KBinds X.K fd ps ks g gV) (hx : ∀ σ, PassesAt CX X σ (ES σ))
    (hkw : PK X kws tk) (hall : (backToKw pos (keywordEach kws X.env)).all (·.1.isSome) = true := by rfl) (hks : (backToKw pos (keywordEach kws X.env)).filterMap (·.1) = ks := by rfl)
    (hdb : (x == ("__debug__" : Str)) = false := by decide) (hpl : ((backTo pos (starEach [] X.env)).any (·.1) || (backToKw pos (keywordEach kws X.env)).any (·.1.isNone)) = false := by rfl) :
    PE X (.Call (.Name x p) [] kws pos) (tCallK0 sp gV ES tk) := by
  refine ⟨fun pins s σ H Q I h => ?_⟩
  refine wpAny_Call_Name_kw (ld_glob I hg hm ?_ hdb)
  refine PySem.W.callWith_KW0 (h₀ := X.base) I.ok.mod.kin hk hall ?_ hpl
  refine thn (hkw.run pos pins s σ H _ I h) fun ws s2 ⟨zs, H2, I2, rz, q2⟩ => ⟨I2.kIn, ?_⟩
  rw [hks]
  exact run_fnkS F hr hb (hx σ) I2 .nil rz q2
end
theorem fun_kbinds {K : PySem.W.Frag} {x qual : Str} {st : Stmt} {f : Addr} {fd : FuncData} {ps ks : List Str} {g : List Value → List Value → List Value} {gV : List V → List V → List V} (F : Fun K x qual st f fd)
    (h : ∀ (kV doc pm : Value) (an : Option Addr) (cdv ct : Value) (us ws : List Value), (g us ws).length = ps.length → bindArgs (PySem.W.fnOf x qual (defArgs st) (defBody st) (defScope st) .none kV doc pm an cdv ct) ⟨us, ks.zip ws⟩ = pure (ps.zip (g us ws)))
    (hr : ∀ {vs : List V} {us : List Value} {zs : List V} {ws : List Value}, Vals vs us → Vals zs ws → Vals (gV vs zs) (g us ws)) : KBinds K fd ps ks g gV := by
  obtain ⟨oc, od, kV, doc, pm, an, cdv, ct, osl, rfl, lk, hcd⟩ := F.ex
  exact ⟨fun s us ws _ hl => .of_eq (h kV doc pm an cdv ct us ws hl), hr⟩
/-- the error classes' __init__ -/
theorem ok_err0 {P : Program} {w : World} {K : PySem.W.Frag} {mg : Str → Option Value} {base : Heap} {f : Str} {fI : Addr} {fd : FuncData} {q : Str} {st : Stmt} {C0 : Addr} (F : Fun K "__init__" q st fI fd) (S : SemC K mg C0)
    (sc : FnScope ["self", f] ["self", f] (defScope st))
    (tm : ∀ (A : Around) (outer : List Env) (s : Shared) (H : Hp) (E : XK) (cdv : Value), PSs (cxOf CX0 P w K mg base ["self", f] q (defScope st) fI cdv A outer s H E).nox (defBody st) (tSeq (tDrop (tVeI K (tCons (tVar 0) (tCons (tC (.str q)) tNil)))) (tOst K f (tVar 0) (tVar 1)))) :
    True := trivial

/-! ### expressions that may change what is one's own -/
structure StpE (own : List Addr) (G H G' H' : Hp) : Prop where
  gg : Ex G G'
  gh : Ex G' H'
  hh : ∀ a o, a ∉ own → H a = some o → H' a = some o
  ow : ∀ a, G a = none → H a ≠ none → G' a = none
abbrev owns (env : Env') : List Addr := env.filterMap ownA
section
variable (K : PySem.W.Frag) (β : Bas)
def XE (te : TE) (env : Env') (P : V → D → Env' → Prop) : Prop := ∀ σ G H, Good K β σ env G H → ∀ Q : VK, (∀ v d env' G' H', Good K β σ env' G' H' → StpE (owns env) G H G' H' → owns env' = owns env → Dat K G' v d → P v d env' → Q v H') → te σ H Q
def XT (tt : TT) (env : Env') (P : Bool → Env' → Prop) : Prop := ∀ σ G H, Good K β σ env G H → ∀ Q : Bool → Hp → Prop, (∀ b env' G' H', Good K β σ env' G' H' → StpE (owns env) G H G' H' → owns env' = owns env → P b env' → Q b H') → tt σ H Q
def XA (ta : TA) (env : Env') (P : List V → List D → Env' → Prop) : Prop := ∀ σ G H, Good K β σ env G H → ∀ Q : List V → Hp → Prop, (∀ vs ds env' G' H', Good K β σ env' G' H' → StpE (owns env) G H G' H' → owns env' = owns env → DatL K G' vs ds → P vs ds env' → Q vs H') → ta σ H Q
end
section
variable {K : PySem.W.Frag} {β : Bas} {env : Env'} {ta tb te tc : TE} {tt tu : TT} {x y z d : D} {v w : V} {P : V → D → Env' → Prop}
theorem StpE.refl {own : List Addr} {G H : Hp} (h : Ex G H) : StpE own G H G H := ⟨.refl _, h, fun _ _ _ h => h, fun _ h _ => h⟩
theorem StpE.of {own : List Addr} {G H G' H' : Hp} (t : Stp G H G' H') : StpE own G H G' H' := ⟨t.gg, t.gh, fun a o _ h => t.hh a o h, t.ow⟩
theorem StpE.trans {own : List Addr} {G H G1 H1 G2 H2 : Hp} (hn : ∀ a ∈ own, H a ≠ none → H1 a ≠ none) (a : StpE own G H G1 H1) (b : StpE own G1 H1 G2 H2) : StpE own G H G2 H2 :=
  ⟨a.gg.trans b.gg, b.gh, fun x o hx h => b.hh x o hx (a.hh x o hx h), fun x h1 h2 => b.ow x (a.ow x h1 h2) (by
    by_cases hx : x ∈ own
    · exact hn x hx h2
    · cases q : H x with
      | none => exact absurd q h2
      | some o => rw [a.hh x o hx q]; exact (fun e => nomatch e))⟩
/-- what is one's own stands in the heap -/
theorem Good.there {σ : Sg} {G H : Hp} (g : Good K β σ env G H) {a : Addr} (h : a ∈ owns env) : H a ≠ none := by
  obtain ⟨s, hs, e⟩ := List.mem_filterMap.mp h
  obtain ⟨j, hj⟩ := List.mem_iff_getElem?.mp hs
  cases s with
  | un => cases e
  | val v d => cases e
  | own b ds =>
    obtain rfl : b = a := Option.some.inj e
    obtain ⟨_, _, _, ys, h4, _⟩ := g.own hj
    rw [h4]; exact (fun e => nomatch e)
theorem StpE.tr {G H G1 H1 G2 H2 : Hp} {σ : Sg} {env1 : Env'} (g1 : Good K β σ env1 G1 H1) (e : owns env1 = owns env) (a : StpE (owns env) G H G1 H1) (b : StpE (owns env1) G1 H1 G2 H2) : StpE (owns env) G H G2 H2 :=
  StpE.trans (fun x hx _ => g1.there (by rw [e]; exact hx)) a (by rw [← e]; exact b)
theorem EV.xe (h : EV K β te env d) : XE K β te env (fun _ d' env' => d' = d ∧ env' = env) := fun σ G H g Q q => h σ G H g Q fun v G' H' t dv => q v d env G' H' (g.up t) (.of t) rfl dv ⟨rfl, rfl⟩
theorem EVv.xe (h : EVv K β te env v d) : XE K β te env (fun v' d' env' => v' = v ∧ d' = d ∧ env' = env) := fun σ G H g Q q => h σ G H g Q fun G' H' t dv => q v d env G' H' (g.up t) (.of t) rfl dv ⟨rfl, rfl, rfl⟩
theorem EVT.xt {b : Bool} (h : EVT K β tt env b) : XT K β tt env (fun b' env' => b' = b ∧ env' = env) := fun σ G H g Q q => h σ G H g Q fun G' H' t => q b env G' H' (g.up t) (.of t) rfl ⟨rfl, rfl⟩
theorem EVA.xa {ta : TA} {ds : List D} (h : EVA K β ta env ds) : XA K β ta env (fun _ d' env' => d' = ds ∧ env' = env) := fun σ G H g Q q => h σ G H g Q fun v G' H' t dv => q v ds env G' H' (g.up t) (.of t) rfl dv ⟨rfl, rfl⟩
theorem XE.imp {P' : V → D → Env' → Prop} (h : XE K β te env P) (i : ∀ v d e, P v d e → P' v d e) : XE K β te env P' := fun σ G H g Q q => h σ G H g Q fun v d env' G' H' g' t e dv p => q v d env' G' H' g' t e dv (i _ _ _ p)
theorem xe_op {r : R2} {P1 : V → D → Env' → Prop} {P2 : D → V → D → Env' → Prop} (ha : XE K β ta env P1) (hb : ∀ v1 d1 env1, P1 v1 d1 env1 → XE K β tb env1 (P2 d1)) (hr : ∀ v1 d1 env1 v2 d2 env2, P1 v1 d1 env1 → P2 d1 v2 d2 env2 → ∃ z, OpD K r d1 d2 z ∧ ∀ v, P v z env2) : XE K β (tOp r ta tb) env P := fun σ G H g Q q =>
  ha σ G H g _ fun v1 d1 env1 G1 H1 g1 t1 e1 dv1 p1 => hb v1 d1 env1 p1 σ G1 H1 g1 _ fun v2 d2 env2 G2 H2 g2 t2 e2 dv2 p2 => by
    obtain ⟨z, ho, hp⟩ := hr v1 d1 env1 v2 d2 env2 p1 p2
    exact ho G2 H2 v1 v2 g2.gh (dv1.up t2.gg) dv2 Q fun v G3 H3 t3 dz => q v z env2 G3 H3 (g2.up t3) (StpE.tr g2 (e2.trans e1) (StpE.tr g1 e1 t1 t2) (.of t3)) (e2.trans e1) dz (hp v)
theorem xa_nil : XA K β tNil env (fun vs ds env' => vs = [] ∧ ds = [] ∧ env' = env) := fun σ G H g Q q => q [] [] env G H g (.refl g.gh) rfl .nil ⟨rfl, rfl, rfl⟩
theorem xa_cons {tr : TA} {P1 : V → D → Env' → Prop} {P2 : V → D → List V → List D → Env' → Prop} {P3 : List V → List D → Env' → Prop} (ha : XE K β te env P1) (hb : ∀ v1 d1 env1, P1 v1 d1 env1 → XA K β tr env1 (P2 v1 d1))
    (hp : ∀ v1 d1 env1 vs ds env2, P1 v1 d1 env1 → P2 v1 d1 vs ds env2 → P3 (v1 :: vs) (d1 :: ds) env2) : XA K β (tCons te tr) env P3 := fun σ G H g Q q =>
  ha σ G H g _ fun v1 d1 env1 G1 H1 g1 t1 e1 dv1 p1 => hb v1 d1 env1 p1 σ G1 H1 g1 _ fun vs ds env2 G2 H2 g2 t2 e2 dvs p2 => q (v1 :: vs) (d1 :: ds) env2 G2 H2 g2 (StpE.tr g1 e1 t1 t2) (e2.trans e1) (.cons (dv1.up t2.gg) dvs) (hp _ _ _ _ _ _ p1 p2)
theorem xe_lst {ta : TA} {P1 : List V → List D → Env' → Prop} (ha : XA K β ta env P1) (hp : ∀ vs ds env1, P1 vs ds env1 → ds.length ≤ sizeLine ∧ ∀ v, P v (.lst ds) env1) : XE K β (tLst ta) env P := fun σ G H g Q q =>
  ha σ G H g _ fun vs ds env1 G1 H1 g1 t1 e1 dvs p1 => ⟨by rw [dvs.length]; exact (hp _ _ _ p1).1, fun p hp' => q _ _ env1 (upd G1 p (.lst vs)) _ (g1.up (.new g1.gh hp')) (StpE.tr g1 e1 t1 (.of (.new g1.gh hp'))) e1 (.lst upd_same (dvs.up (.new (g1.gh.back hp')))) ((hp _ _ _ p1).2 _)⟩
theorem xe_tup {ta : TA} {P1 : List V → List D → Env' → Prop} (ha : XA K β ta env P1) (hp : ∀ vs ds env1, P1 vs ds env1 → ds.length ≤ sizeLine ∧ ∀ v, P v (.tup ds) env1) : XE K β (tTup ta) env P := fun σ G H g Q q =>
  ha σ G H g _ fun vs ds env1 G1 H1 g1 t1 e1 dvs p1 => ⟨by rw [dvs.length]; exact (hp _ _ _ p1).1, fun p hp' => q _ _ env1 (upd G1 p (.tup vs)) _ (g1.up (.new g1.gh hp')) (StpE.tr g1 e1 t1 (.of (.new g1.gh hp'))) e1 (.tup (.of upd_same) (dvs.up (.new (g1.gh.back hp')))) ((hp _ _ _ p1).2 _)⟩
theorem xt_test {P1 : V → D → Env' → Prop} {P2 : Bool → Env' → Prop} (h : XE K β te env P1) (hp : ∀ v d env1, P1 v d env1 → ∃ b, d = .bl b ∧ P2 b env1) : XT K β (tTest te) env P2 := fun σ G H g Q q =>
  h σ G H g _ fun v d env1 G1 H1 g1 t1 e1 dv p1 => by
    obtain ⟨b, rfl, p⟩ := hp _ _ _ p1
    exact ⟨b, dv.blV, q b env1 G1 H1 g1 t1 e1 p⟩
theorem xt_B {P1 : V → D → Env' → Prop} {P2 : Bool → Env' → Prop} (h : XE K β te env P1) (hp : ∀ v d env1, P1 v d env1 → ∃ b, d = .bl b ∧ P2 b env1) : XT K β (tB te) env P2 := fun σ G H g Q q =>
  h σ G H g _ fun v d env1 G1 H1 g1 t1 e1 dv p1 => by
    obtain ⟨b, rfl, p⟩ := hp _ _ _ p1
    exact ⟨b, dv.blV, q b env1 G1 H1 g1 t1 e1 p⟩
theorem xt_not {P1 P2 : Bool → Env' → Prop} (h : XT K β tt env P1) (hp : ∀ b e, P1 b e → P2 (!b) e) : XT K β (tNot tt) env P2 := fun σ G H g Q q => h σ G H g _ fun b env1 G1 H1 g1 t1 e1 p => q (!b) env1 G1 H1 g1 t1 e1 (hp _ _ p)
theorem xe_if {P1 : Bool → Env' → Prop} (h : XT K β tt env P1) (h1 : ∀ e, P1 true e → XE K β ta e P) (h2 : ∀ e, P1 false e → XE K β tb e P) : XE K β (tIf tt ta tb) env P := fun σ G H g Q q =>
  h σ G H g _ fun b env1 G1 H1 g1 t1 e1 p1 => by
    cases b with
    | true => rw [if_pos rfl]; exact h1 env1 p1 σ G1 H1 g1 Q fun v d env2 G2 H2 g2 t2 e2 => q v d env2 G2 H2 g2 (StpE.tr g1 e1 t1 t2) (e2.trans e1)
    | false => rw [if_neg Bool.false_ne_true]; exact h2 env1 p1 σ G1 H1 g1 Q fun v d env2 G2 H2 g2 t2 e2 => q v d env2 G2 H2 g2 (StpE.tr g1 e1 t1 t2) (e2.trans e1)
theorem xe_call {R : List D → D → Prop} {ta : TA} {E : XK} {P1 : List V → List D → Env' → Prop} (ha : XA K β ta env P1) (hp : ∀ vs ds env1, P1 vs ds env1 → ∃ d, R ds d ∧ ∀ v, P v d env1) : XE K β (tCall (spD K R) [] E ta) env P := fun σ G H g Q q =>
  ha σ G H g _ fun vs ds env1 G1 H1 g1 t1 e1 dvs p1 => by
    obtain ⟨d, hR, hd⟩ := hp _ _ _ p1
    exact ⟨G1, ds, d, g1.gh, by rw [List.append_nil]; exact dvs, hR, fun v G2 H2 t2 dv => q v d env1 G2 H2 (g1.up t2) (StpE.tr g1 e1 t1 (.of t2)) e1 dv (hd v)⟩
theorem xe_then {k : V → Hp → VK → Prop} {P1 : V → D → Env' → Prop} (h : XE K β te env P1) (hp : ∀ v d env1, P1 v d env1 → ∃ z, UnD K k d z ∧ ∀ v, P v z env1) : XE K β (tThen te k) env P := fun σ G H g Q q =>
  h σ G H g _ fun v d env1 G1 H1 g1 t1 e1 dv p1 => by
    obtain ⟨z, hz, hd⟩ := hp _ _ _ p1
    exact hz G1 H1 v g1.gh dv Q fun u G2 H2 t2 dz => q u z env1 G2 H2 (g1.up t2) (StpE.tr g1 e1 t1 (.of t2)) e1 dz (hd u)
theorem xe_cb {r : List V → Hp → VK → Prop} {ta : TA} {P1 : List V → List D → Env' → Prop} (ha : XA K β ta env P1) (hp : ∀ vs ds env1, P1 vs ds env1 → ∃ z, CbD K r ds z ∧ ∀ v, P v z env1) : XE K β (tCB r ta) env P := fun σ G H g Q q =>
  ha σ G H g _ fun vs ds env1 G1 H1 g1 t1 e1 dvs p1 => by
    obtain ⟨z, hz, hd⟩ := hp _ _ _ p1
    exact hz G1 H1 vs g1.gh dvs Q fun u G2 H2 t2 dz => q u z env1 G2 H2 (g1.up t2) (StpE.tr g1 e1 t1 (.of t2)) e1 dz (hd u)
/-! statements over such expressions -/
variable {Po : Post} {W : WX} {ts tr : TS}
theorem ex_asgX {i : Nat} (h : XE K β te env P) (k : ∀ v d e, P v d e → Po.nx (e.set i (.val v d))) : EX K β W (tAsg te (gName i)) env Po := fun σ G H g Dn c x =>
  h σ G H g _ fun v d env1 G1 H1 g1 t1 e1 dv p => c.nx _ _ G1 H1 (g1.set i dv) t1.gg (k _ _ _ p)
theorem ex_letX {i : Nat} (h : XE K β te env P) (k : ∀ v d e, P v d e → EX K β W tr (e.set i (.val v d)) Po) : EX K β W (tSeq (tAsg te (gName i)) tr) env Po :=
  ex_seq (N := fun e' => ∃ v d e, P v d e ∧ e' = e.set i (.val v d)) (ex_asgX h fun v d e p => ⟨v, d, e, p, rfl⟩) fun env' ⟨v, d, e, p, q⟩ => q ▸ k v d e p
theorem ex_retX (h : XE K β te env P) (k : ∀ v d e, P v d e → Po.rt v d e) : EX K β W (tRet te) env Po := fun σ G H g Dn c x =>
  h σ G H g _ fun v d env1 G1 H1 g1 t1 e1 dv p => c.rt _ _ G1 H1 v d g1 t1.gg dv (k _ _ _ p)
theorem ex_dropX (h : XE K β te env P) (k : ∀ v d e, P v d e → Po.nx e) : EX K β W (tDrop te) env Po := fun σ G H g Dn c x =>
  h σ G H g _ fun v d env1 G1 H1 g1 t1 e1 dv p => c.nx _ _ G1 H1 g1 t1.gg (k _ _ _ p)
theorem ex_ifX {P1 : Bool → Env' → Prop} (h : XT K β tt env P1) (h1 : ∀ e, P1 true e → EX K β W ts e Po) (h2 : ∀ e, P1 false e → EX K β W tr e Po) : EX K β W (tIfS tt ts tr) env Po := fun σ G H g Dn c x =>
  h σ G H g _ fun b env1 G1 H1 g1 t1 e1 p => by
    cases b with
    | true => rw [if_pos rfl]; exact h1 env1 p σ G1 H1 g1 Dn (c.up t1.gg) (x.up t1.gg)
    | false => rw [if_neg Bool.false_ne_true]; exact h2 env1 p σ G1 H1 g1 Dn (c.up t1.gg) (x.up t1.gg)
/-- a, b = x, y -/
theorem ex_parX {i j : Nat} {ta : TA} {PA' : List V → List D → Env' → Prop} (h : XA K β ta env PA') (k : ∀ vs ds e, PA' vs ds e → ∃ d1 d2, ds = [d1, d2] ∧ ∀ v1 v2, vs = [v1, v2] → Po.nx ((e.set i (.val v1 d1)).set j (.val v2 d2))) : EX K β W (tPar i j ta) env Po := fun σ G H g Dn c x =>
  h σ G H g _ fun vs ds env1 G1 H1 g1 t1 e1 dvs p => by
    obtain ⟨d1, d2, rfl, hk⟩ := k _ _ _ p
    cases dvs with | cons a t => cases t with | cons b t =>
    cases t
    exact ⟨_, _, rfl, c.nx _ _ G1 H1 ((g1.set i a).set j b) t1.gg (hk _ _ rfl)⟩
/-- xs[k] = e, xs one's own -/
theorem ex_setOwn {i : Nat} {a : Addr} {ds : List D} {kk : Int} {j : Nat} (hi : env[i]? = some (.own a ds)) (he : EV K β te env d) (hk : EV K β tb env (.int kk)) (hj : ixN ds.length kk = some j) (k : Po.nx (env.set i (.own a (ds.set j d)))) :
    EX K β W (tAsg te (gSub (tVar i) tb rSetL)) env Po := fun σ G H g Dn c x =>
  he σ G H g _ fun v G1 H1 t1 dv => by
    obtain ⟨h1, h2, h3, xs, h4, h5⟩ := g.own hi
    refine ⟨.ref a, h1, hk σ G1 H1 (g.up t1) _ fun u G2 H2 t2 du => ?_⟩
    refine ⟨a, xs, kk, j, rfl, du.intV, t2.hh _ _ (t1.hh _ _ h4), by rw [h5.length]; exact hj, ?_⟩
    exact c.nx _ _ G2 _ (((g.up t1).up t2).write hi ((h5.up (t1.gg.trans t2.gg)).set j (dv.up t2.gg))) (t1.gg.trans t2.gg) k
/-! ### a box that is lent -/
/-- the box of draws: how much it holds (a number, whether it is great, its rest, how often it was asked, at most n times) -/
def BoxD (n : Nat) (ds : List D) : Prop := ∃ (g : Int) (f : Bool) (s c : Int), ds = [.int g, .bl f, .int s, .int c] ∧ 0 ≤ g ∧ 0 ≤ s ∧ s < 2147483648 ∧ 0 ≤ c ∧ c ≤ n
theorem BoxD.mono {n m : Nat} {ds : List D} (h : BoxD n ds) (l : n ≤ m) : BoxD m ds := by
  obtain ⟨g, f, s, c, e, h1, h2, h3, h4, h5⟩ := h
  exact ⟨g, f, s, c, e, h1, h2, h3, h4, by omega⟩
variable (K) in
/-- a def whose first argument is a box, which it asks at most k times; R: what is known of the answer's data -/
def spB (k : Nat) (R : List D → (D → Prop) → Prop) : Sp := fun vs H Q _ => ∃ (G : Hp) (b : Addr) (n : Nat) (xs : List V) (bs : List D) (ws : List V) (ds : List D) (Pd : D → Prop),
  vs = .ref b :: ws ∧ G b = none ∧ H b = some (.lst xs) ∧ DatL K G xs bs ∧ BoxD n bs ∧ n + k ≤ 1000000000 ∧ Ex G H ∧ DatL K G ws ds ∧ R ds Pd ∧
  ∀ v d G' H' xs' bs', Pd d → StpE [b] G H G' H' → H' b = some (.lst xs') → G' b = none → DatL K G' xs' bs' → BoxD (n + k) bs' → Dat K G' v d → Q v H'
theorem xe_callB {R : List D → (D → Prop) → Prop} {i k n : Nat} {b : Addr} {bs : List D} {tr : TA} {E : XK} {Pd : D → Prop} {ds : List D} (hi : env[i]? = some (.own b bs)) (hb : BoxD n bs) (hn : n + k ≤ 1000000000) (ha : EVA K β tr env ds) (hR : R ds Pd) :
    XE K β (tCall (spB K k R) [] E (tCons (tVar i) tr)) env (fun _ d e => Pd d ∧ ∃ bs', BoxD (n + k) bs' ∧ e = env.set i (.own b bs')) := fun σ G H g Q q => by
  obtain ⟨h1, h2, h3, xs, h4, h5⟩ := g.own hi
  refine ⟨.ref b, h1, ha σ G H g _ fun ws G1 H1 t1 dws => ?_⟩
  have g1 := g.up t1
  obtain ⟨_, _, h3', ys, h4', h5'⟩ := g1.own hi
  refine ⟨G1, b, n, ys, bs, ws, ds, Pd, by rw [List.append_nil], h3', h4', h5', hb, hn, t1.gh, dws, hR, fun v d G2 H2 xs' bs' pd t2 e1 e2 dx hbx dv => ?_⟩
  have hm : b ∈ owns env := List.mem_filterMap.mpr ⟨_, List.mem_of_getElem? hi, rfl⟩
  -- the step, as a step that leaves the box, then the box's own write
  have t3 : StpE (owns env) G H G2 H2 := ⟨t1.gg.trans t2.gg, t2.gh, fun a o hx h => t2.hh a o (fun z => hx (by rw [List.mem_singleton.mp z]; exact hm)) (t1.hh a o h), fun a h5 h6 => t2.ow a (t1.ow a h5 h6) (by
    cases q' : H a with
    | none => exact absurd q' h6
    | some o => rw [t1.hh a o q']; exact (fun e => nomatch e))⟩
  have g2 : Good K β σ (env.set i (.own b bs')) G2 H2 := by
    have gw := g1.write hi (xs := ys) (ds' := bs) h5'
    refine ⟨g1.gg.trans t2.gg, fun a o h5 h6 => ?_, t2.gh, fun a h5 h6 => t2.ow a (g1.ow a h5 h6) (g1.hn h6), fun a h5 => ?_, ?_, by rw [nd_own hi]; exact g.nd⟩
    · by_cases hab : a = b
      · subst hab
        rcases h2 with z | z
        · rw [z] at h6; cases h6
        · exact absurd z h5
      · exact t2.hh a o (fun z => hab (List.mem_singleton.mp z)) (g1.hh a o h5 h6)
    · by_cases hab : a = b
      · subst hab; rw [e1]; exact (fun e => nomatch e)
      · cases q' : H1 a with
        | none => exact absurd q' (g1.bh a h5)
        | some o => rw [t2.hh a o (fun z => hab (List.mem_singleton.mp z)) q']; exact (fun e => nomatch e)
    · have key : ∀ {σ : Sg} {env : Env'} {i : Nat}, SlsOk K β G1 H1 σ env → env[i]? = some (.own b bs) → (env.filterMap ownA).Nodup → SlsOk K β G2 H2 σ (env.set i (.own b bs')) := by
        have other : ∀ {σ : Sg} {env : Env'}, SlsOk K β G1 H1 σ env → b ∉ env.filterMap ownA → SlsOk K β G2 H2 σ env := by
          intro σ env s
          induction s with
          | nil => intro _; exact .nil
          | @cons o s σ env x r ih =>
            intro m
            rw [List.filterMap_cons] at m
            cases s with
            | un => exact .cons trivial (ih m)
            | val v d => exact .cons ⟨x.1, x.2.up t2.gg⟩ (ih m)
            | own c es =>
              have m' : b ∉ c :: env.filterMap ownA := m
              obtain ⟨y1, y2, y3, zs, y4, y5⟩ := x
              have hne : c ≠ b := fun z => m' (by rw [← z]; exact List.mem_cons_self)
              exact .cons ⟨y1, y2, t2.ow c y3 (by rw [y4]; exact (fun e => nomatch e)), zs, t2.hh c _ (fun z => hne (List.mem_singleton.mp z)) y4, y5.up t2.gg⟩ (ih fun z => m' (List.mem_cons_of_mem _ z))
        intro σ env i s
        induction s generalizing i with
        | nil => intro e; simp at e
        | @cons o s σ env x r ih =>
          intro e nd
          cases i with
          | zero =>
            simp at e
            subst e
            obtain ⟨y1, y2, y3, zs, y4, y5⟩ := x
            exact .cons ⟨y1, y2, e2, xs', e1, dx⟩ (other r (List.nodup_cons.mp (show (b :: env.filterMap ownA).Nodup from nd)).1)
          | succ i =>
            have e' : env[i]? = some (.own b bs) := by simpa using e
            have hm' : b ∈ env.filterMap ownA := List.mem_filterMap.mpr ⟨_, List.mem_of_getElem? e', rfl⟩
            rw [List.filterMap_cons] at nd
            cases s with
            | un => exact .cons trivial (ih e' nd)
            | val v d => exact .cons ⟨x.1, x.2.up t2.gg⟩ (ih e' nd)
            | own c es =>
              have nd' : (c :: env.filterMap ownA).Nodup := nd
              have hne : c ≠ b := fun z => (List.nodup_cons.mp nd').1 (by rw [z]; exact hm')
              obtain ⟨y1, y2, y3, zs, y4, y5⟩ := x
              exact .cons ⟨y1, y2, t2.ow c y3 (by rw [y4]; exact (fun e => nomatch e)), zs, t2.hh c _ (fun z => hne (List.mem_singleton.mp z)) y4, y5.up t2.gg⟩ (ih e' (List.nodup_cons.mp nd').2)
      exact key g1.sl hi g.nd
  exact q v d _ G2 H2 g2 t3 (nd_own hi) dv ⟨pd, bs', hbx, rfl⟩
/-- a def with a box: its entry and its end -/
theorem good_box {G H : Hp} (e : Ex G H) {b : Addr} {xs : List V} {bs : List D} {ws : List V} {ds : List D} (hG : G b = none) (hH : H b = some (.lst xs)) (hx : DatL K G xs bs) (h : DatL K G ws ds) (N : List Str) :
    Good K ⟨G, H, some b⟩ (start N (.ref b :: ws)) (.own b bs :: (List.zipWith Sl.val ws ds ++ List.replicate (N.length - (ws.length + 1)) Sl.un)) G H := by
  refine ⟨.refl _, fun _ _ _ e => e, e, fun _ h _ => h, fun a h => ?_, .cons (s := .own b bs) ⟨rfl, .inr rfl, hG, xs, hH, hx⟩ ((SlsOk.vals h).app (.uns _)), ?_⟩
  · obtain rfl : b = a := Option.some.inj h
    rw [hH]; exact (fun e => nomatch e)
  · show (b :: _).Nodup
    rw [List.filterMap_append, own_vals, own_uns]
    simp
theorem EX.finB {G H : Hp} {Q : VK} {b : Addr} {n k : Nat} {Pd : D → Prop} {t : TS} {σ : Sg} {bs0 : List D} (hi : env[0]? = some (.own b bs0)) (g : Good K ⟨G, H, some b⟩ σ env G H)
    (q : ∀ v d G' H' xs' bs', Pd d → StpE [b] G H G' H' → H' b = some (.lst xs') → G' b = none → DatL K G' xs' bs' → BoxD (n + k) bs' → Dat K G' v d → Q v H')
    (h : EX K ⟨G, H, some b⟩ W t env { rt := fun _ d e => Pd d ∧ ∃ bs, BoxD (n + k) bs ∧ e[0]? = some (.own b bs) }) :
    t { nx := fun _ H' => Q .non H', rt := Q } σ H := by
  refine h σ G H g _ ⟨fun _ _ _ _ _ _ n => False.elim n, fun σ' env' G' H' v d g' e dv p => ?_, fun _ _ _ _ _ _ n => False.elim n, fun _ _ _ _ _ _ n => False.elim n⟩ fun _ _ _ _ _ _ _ _ _ _ _ _ n => False.elim n
  obtain ⟨pd, bs, hb, e0⟩ := p
  obtain ⟨h1, h2, h3, xs, h4, h5⟩ := g'.own e0
  exact q v d G' H' xs bs pd ⟨g'.gg, g'.gh, fun a o hx ho => g'.hh a o (fun z => hx (by rw [Option.some.inj z]; exact List.mem_singleton.mpr rfl)) ho, fun a h5 h6 => g'.ow a h5 h6⟩ h4 h3 h5 hb dv
end
end DL

set_option Elab.async false
set_option linter.all false
set_option maxRecDepth 100000
set_option maxHeartbeats 2000000
namespace DL
open PySem PySem.Spec PyProof.Rows L2
/-- data without the mark of its value -/
def D.top : D → D
  | .idn _ d => D.top d
  | d => d
theorem Dat.top {K : PySem.W.Frag} {G : Hp} : ∀ {d : D} {v : V}, Dat K G v d → Dat K G v d.top
  | .non, _, h => h | .bl _, _, h => h | .int _, _, h => h | .str _, _, h => h | .tup _, _, h => h | .lst _, _, h => h | .dct _, _, h => h | .op _, _, h => h
  | .idn _ d, _, h => by cases h with | idn a => exact Dat.top (d := d) a
theorem top_no : ∀ {d : D} (v : V) (x : D), d.top ≠ .idn v x
  | .non, _, _, h => by cases h | .bl _, _, _, h => by cases h | .int _, _, _, h => by cases h | .str _, _, _, h => by cases h | .tup _, _, _, h => by cases h | .lst _, _, _, h => by cases h | .dct _, _, _, h => by cases h | .op _, _, _, h => by cases h
  | .idn _ d, v, x, h => top_no (d := d) v x h
theorem tyD_top : ∀ {d : D}, tyD d.top = tyD d
  | .non => rfl | .bl _ => rfl | .int _ => rfl | .str _ => rfl | .tup _ => rfl | .lst _ => rfl | .dct _ => rfl | .op _ => rfl
  | .idn _ d => tyD_top (d := d)
theorem Dat.idnV {K : PySem.W.Frag} {G : Hp} {u v : V} {d : D} (h : Dat K G u (.idn v d)) : u = v ∧ Dat K G v d := by cases h with | idn a => exact ⟨rfl, a⟩
theorem Dat.strip {K : PySem.W.Frag} {G : Hp} {u v : V} {d : D} (h : Dat K G u (.idn v d)) : Dat K G u d := by cases h with | idn a => exact a
theorem sz (n : Nat) (h : n ≤ 16777216 := by decide) : n ≤ sizeLine := by rw [sizeLine_eq]; exact h
section
variable {K : PySem.W.Frag} {β : Bas} {env : Env'} {ta tb te tc : TE} {tt tu : TT} {x y z d : D} {v w : V} {P : Post} {W : WX} {ts tr : TS}
theorem ev_up {d' : D} (h : EV K β te env d) (f : ∀ G v, Dat K G v d → Dat K G v d') : EV K β te env d' := fun σ G H g Q q => h σ G H g Q fun v G' H' t dv => q v G' H' t (f _ _ dv)
theorem ev_top (h : EV K β te env d) : EV K β te env d.top := ev_up h fun _ _ => Dat.top
theorem ev_tp (h : EV K β te env d) (e : d.top = x) : EV K β te env x := e ▸ ev_top h
theorem evv_idn (h : EV K β te env (.idn v d)) : EVv K β te env v d := fun σ G H g Q q => h σ G H g _ fun u G' H' t du => by
  obtain ⟨rfl, dv⟩ := du.idnV
  exact q G' H' t dv
theorem ev_idn (h : EVv K β te env v d) : EV K β te env (.idn v d) := fun σ G H g Q q => h σ G H g _ fun G' H' t dv => q v G' H' t (.idn dv)
theorem ev_strip (h : EV K β te env (.idn v d)) : EV K β te env d := fun σ G H g Q q => h σ G H g _ fun u G' H' t du => q u G' H' t du.strip
theorem evv_as (h : EVv K β te env v d) : EVv K β te env v (.idn v d) := fun σ G H g Q q => h σ G H g _ fun G' H' t dv => q G' H' t (.idn dv)
theorem evv_var2 {i : Nat} (h : env[i]? = some (.val w (.idn v d))) : EVv K β (tVar i) env v (.idn v d) := evv_as (evv_idn (ev_var h))
/-- [e for j in range(n)] -/
theorem ev_lcR {tn : TE} {n : Nat} {j : Nat} {vs : List Nat} {F : Nat → D} (hn : EV K β tn env (.int n)) (hl : n < 16777216) (hj : j ∈ vs)
    (hs : ∀ (i : Nat) v, i < n → EV K β te ((wipeE env vs).set j (.val v (.int i))) (F i)) : EV K β (tLc (iRng1 (tCons tn tNil)) (gName j) tYes te vs) env (.lst ((List.range n).map F)) := by
  have h := ev_lcA (K := K) (β := β) (te := te) (F := F) (ei_rng1 (ea_cons hn ea_nil) (by omega) (by omega)) (by rw [rgD_length, sizeLine_eq]; omega) hj (fun i v d hd => by
    have hi : i < n := by
      have := (List.getElem?_eq_some_iff.mp hd).1
      rw [rgD_length] at this
      omega
    have e : d = .int (i : Nat) := by
      have := rgD_get (lo := 0) (n := (n : Int).toNat) (i := i) (by omega)
      rw [this] at hd
      rw [← Option.some.inj hd, Int.zero_add]
    rw [e]
    exact hs i v hi)
  rw [rgD_length] at h
  exact h
theorem ev_lcRf {tn : TE} {n : Nat} {j : Nat} {vs : List Nat} {f : Nat → Bool} {F : Nat → D} (hn : EV K β tn env (.int n)) (hl : n < 16777216) (hj : j ∈ vs)
    (hs : ∀ (i : Nat) v, i < n → EVT K β tt ((wipeE env vs).set j (.val v (.int i))) (f i) ∧ (f i = true → EV K β te ((wipeE env vs).set j (.val v (.int i))) (F i))) : EV K β (tLc (iRng1 (tCons tn tNil)) (gName j) tt te vs) env (.lst (keep f F n)) := by
  have h := ev_lcN (K := K) (β := β) (te := te) (tt := tt) (F := F) (f := f) (ei_rng1 (ea_cons hn ea_nil) (by omega) (by omega)) (by rw [rgD_length, sizeLine_eq]; omega) hj (fun i v d hd => by
    have hi : i < n := by
      have := (List.getElem?_eq_some_iff.mp hd).1
      rw [rgD_length] at this
      omega
    have e : d = .int (i : Nat) := by
      have := rgD_get (lo := 0) (n := (n : Int).toNat) (i := i) (by omega)
      rw [this] at hd
      rw [← Option.some.inj hd, Int.zero_add]
    rw [e]
    exact hs i v hi)
  rw [rgD_length] at h
  exact h
end
/-- tables as data -/
def rowD (n : Nat) (f : Nat → Nat) : D := .tup ((List.range n).map fun y => .int (f y : Nat))
def tblD (n : Nat) (f : Nat → Nat → Nat) : D := .tup ((List.range n).map fun x => rowD n (f x))
theorem tblD_congr {n : Nat} {f g : Nat → Nat → Nat} (h : ∀ x y, x < n → y < n → f x y = g x y) : tblD n f = tblD n g := by
  unfold tblD rowD
  congr 1
  refine List.map_congr_left fun x hx => ?_
  congr 1
  refine List.map_congr_left fun y hy => ?_
  rw [h x y (List.mem_range.mp hx) (List.mem_range.mp hy)]
theorem rep_map {α : Type} (a : α) : ∀ n : Nat, (List.replicate n [a]).flatten = (List.range n).map fun _ => a
  | 0 => rfl
  | n + 1 => by
    rw [List.replicate_succ', List.range_succ, List.flatten_append, List.map_append, rep_map a n]
    rfl
theorem map_tbl {n : Nat} {f : Nat → Nat → Nat} {F : Nat → D} (h : ∀ x, x < n → F x = rowD n (f x)) : D.tup ((List.range n).map F) = tblD n f := by
  unfold tblD
  congr 1
  exact List.map_congr_left fun x hx => h x (List.mem_range.mp hx)
theorem map_row {n : Nat} {f : Nat → Nat} {F : Nat → D} (h : ∀ x, x < n → F x = .int (f x : Nat)) : D.tup ((List.range n).map F) = rowD n f := by
  unfold rowD
  congr 1
  exact List.map_congr_left fun x hx => h x (List.mem_range.mp hx)
/-- a number between low and high, and no bool -/
def inRg (x : D) (l h : Int) : Bool := match x.top with
  | .int i => decide (l ≤ i) && decide (i ≤ h)
  | _ => false
theorem inRg_iff {x : D} {l h : Int} (e : inRg x l h = true) : ∃ i : Int, x.top = .int i ∧ l ≤ i ∧ i ≤ h := by
  unfold inRg at e
  cases q : x.top with
  | int i =>
    rw [q] at e
    obtain ⟨a, b⟩ := Bool.and_eq_true_iff.mp e
    exact ⟨i, rfl, of_decide_eq_true a, of_decide_eq_true b⟩
  | _ => rw [q] at e; cases e
end DL

set_option Elab.async false
set_option linter.all false
set_option maxRecDepth 100000
set_option maxHeartbeats 2000000
namespace DL
open PySem PySem.Spec PyProof.Rows L2
section
variable {K : PySem.W.Frag} {β : Bas} {env : Env'} {ta tb te tc : TE} {tt tu : TT} {x y z d : D} {v w : V} {P : Post} {W : WX} {ts tr : TS}
theorem op_powI {i j : Int} (h : CPow i j) : OpD K (rI CPow fun i j => .int (i ^ j.toNat)) (.int i) (.int j) (.int (i ^ j.toNat)) := op_IC (g' := fun i j => .int (i ^ j.toNat)) (fun _ _ _ => .int _) h
/-- == [] -/
theorem Dp.nil {H : Hp} {a : Addr} (h : H a = some (.lst [])) : Dp K H (.ref a) (.list []) := .lst (.inl (.inl h)) .nil
theorem op_eqNil : OpD K (rEqD K) (.lst []) (.lst []) (.bl true) := fun G H v1 v2 e d1 d2 Q q => by
  cases d1 with | lst a1 b1 =>
  cases d2 with | lst a2 b2 =>
  cases b1; cases b2
  exact ⟨_, _, Dp.nil (e _ _ a1), Dp.nil (e _ _ a2), rfl, rfl, q _ G H (.refl e) (.bl _)⟩
theorem op_neNil : OpD K (rNeD K) (.lst []) (.lst []) (.bl false) := fun G H v1 v2 e d1 d2 Q q => by
  cases d1 with | lst a1 b1 =>
  cases d2 with | lst a2 b2 =>
  cases b1; cases b2
  exact ⟨_, _, Dp.nil (e _ _ a1), Dp.nil (e _ _ a2), rfl, rfl, q _ G H (.refl e) (.bl _)⟩
/-- a call with a promise of its own kind, the arguments' values known -/
theorem ev_callR {sp : Sp} {ta : TA} {vs : List V} {ds : List D} {E : XK} (he : EVAv K β ta env vs ds)
    (h : ∀ σ G H, Good K β σ env G H → DatL K G vs ds → ∀ Q : VK, (∀ v G' H', Stp G H G' H' → Dat K G' v d → Q v H') → sp vs H Q E) : EV K β (tCall sp [] E ta) env d := fun σ G H g Q q =>
  he σ G H g _ fun G1 H1 t1 d1 => by
    show sp (vs ++ []) H1 Q E
    rw [List.append_nil]
    exact h σ G1 H1 (g.up t1) d1 Q fun v G2 H2 t2 dv => q v G2 H2 (t1.trans t2) dv
/-- a, b = .. -/
theorem ex_asgG {g : TG} {Pg : Env' → Prop} (he : EV K β te env d) (hg : ∀ v, EG K β g env v d Pg) (k : ∀ e, Pg e → P.nx e) : EX K β W (tAsg te g) env P := fun σ G H gd Dn c x =>
  he σ G H gd _ fun v G1 H1 t1 d1 => hg v σ G1 H1 (gd.up t1) d1 _ fun σ' env' g' p => c.nx σ' env' G1 H1 g' t1.gg (k _ p)
theorem ex_let2 {i j : Nat} {ta : TA} {d1 d2 : D} (he : EVA K β ta env [d1, d2]) (k : ∀ v1 v2, EX K β W tr ((env.set i (.val v1 d1)).set j (.val v2 d2)) P) : EX K β W (tSeq (tAsg (tTup ta) (gTup K 2 (gCons (gName i) (gCons (gName j) gNil)))) tr) env P :=
  ex_seq (N := fun e => ∃ v1 v2, e = (env.set i (.val v1 d1)).set j (.val v2 d2)) (ex_asgG (ev_tup he (sz 2)) (fun v => eg_two) fun e ⟨v1, v2, h⟩ => ⟨v1, v2, h⟩) fun e ⟨v1, v2, h⟩ => h ▸ k v1 v2
/-! ### a def that hands back a new list, the caller's own -/
variable (K) in
def spN (R : List D → List D → Prop) : Sp := fun vs H Q _ => ∃ G ds es, Ex G H ∧ DatL K G vs ds ∧ R ds es ∧
  ∀ p xs G' H', Stp G H G' H' → H p = none → G' p = none → H' p = some (.lst xs) → DatL K G' xs es → Q (.ref p) H'
theorem Good.takeOwn {σ : Sg} {G H G' H' : Hp} (g : Good K β σ env G H) (t : Stp G H G' H') {p : Addr} {xs : List V} {es : List D} (i : Nat) (hn : H p = none) (hG : G' p = none) (hp : H' p = some (.lst xs)) (dx : DatL K G' xs es) :
    Good K β (σ.set i (some (V.ref p))) (env.set i (.own p es)) G' H' := by
  have t2 : Stp G H G' (fun b => if b = p then none else H' b) := ⟨t.gg, fun a o e => by
      have : a ≠ p := fun z => by rw [z, hn] at e; cases e
      show (if a = p then none else H' a) = some o
      rw [if_neg this]; exact t.hh a o e, fun a o e => by
      have : a ≠ p := fun z => by rw [z, hG] at e; cases e
      show (if a = p then none else H' a) = some o
      rw [if_neg this]; exact t.gh a o e, t.ow⟩
  have g2 := (g.up t2).newOwn (a := p) (ds := es) (xs := xs) i (if_pos rfl) dx
  have e : upd (fun b => if b = p then none else H' b) p (.lst xs) = H' := by
    funext b
    by_cases hb : b = p
    · rw [hb, upd_same, hp]
    · rw [upd_ne hb]; exact if_neg hb
  rw [e] at g2
  exact g2
theorem ex_newCall {i : Nat} {ta : TA} {R : List D → List D → Prop} {ds es : List D} {E : XK} (he : EVA K β ta env ds) (h : R ds es) (k : ∀ a, P.nx (env.set i (.own a es))) : EX K β W (tAsg (tCall (spN K R) [] E ta) (gName i)) env P := fun σ G H g Dn c x =>
  he σ G H g _ fun vs G1 H1 t1 d1 => ⟨G1, ds, es, t1.gh, by rw [List.append_nil]; exact d1, h, fun p xs G2 H2 t2 hn hG hp dx =>
    c.nx _ _ G2 H2 ((g.up t1).takeOwn t2 i hn hG hp dx) (t1.gg.trans t2.gg) (k p)⟩
theorem ex_letNew {i : Nat} {ta : TA} {R : List D → List D → Prop} {ds es : List D} {E : XK} (he : EVA K β ta env ds) (h : R ds es) (k : ∀ a, EX K β W tr (env.set i (.own a es)) P) : EX K β W (tSeq (tAsg (tCall (spN K R) [] E ta) (gName i)) tr) env P :=
  ex_seq (N := fun e => ∃ a, e = env.set i (.own a es)) (ex_newCall he h fun a => ⟨a, rfl⟩) fun e ⟨a, h⟩ => h ▸ k a
/-- return [..] of such a def -/
theorem ret_new {G H : Hp} {σ : Sg} {ta : TA} {es : List D} {Q : VK} {Dn : Ends} (g : Good K ⟨G, H, none⟩ σ env G H) (he : EVA K ⟨G, H, none⟩ ta env es) (hl : es.length ≤ sizeLine) (hD : Dn.rt = Q)
    (q : ∀ p xs G' H', Stp G H G' H' → H p = none → G' p = none → H' p = some (.lst xs) → DatL K G' xs es → Q (.ref p) H') : tRet (tLst ta) Dn σ H := by
  subst hD
  exact he σ G H g _ fun vs G1 H1 t1 d1 => ⟨by rw [d1.length]; exact hl, fun p hp => by
    have hH : H p = none := by
      cases z : H p with
      | none => rfl
      | some o => rw [t1.hh p o z] at hp; cases hp
    exact q p vs G1 _ (t1.side hH (t1.gh.back hp)) hH (t1.gh.back hp) upd_same d1⟩
/-- one's own list becomes data: it is written no more -/
theorem Good.commit {σ : Sg} {G H : Hp} (g : Good K β σ env G H) {i : Nat} {a : Addr} {ds : List D} (hi : env[i]? = some (.own a ds)) (hb : β.bx ≠ some a) : ∃ xs, H a = some (.lst xs) ∧ DatL K G xs ds ∧ G a = none ∧ Good K β σ (env.set i (.val (.ref a) (.lst ds))) (upd G a (.lst xs)) H := by
  obtain ⟨h1, h2, h3, xs, h4, h5⟩ := g.own hi
  have h6 : β.H a = none := h2.resolve_right hb
  refine ⟨xs, h4, h5, h3, g.gg.trans (.new h3), g.hh, fun b u e => ?_, fun b e1 e2 => ?_, g.bh, ?_, (nd_set rfl i g.nd).1⟩
  · by_cases hb : b = a
    · subst hb; rw [upd_same] at e; rw [h4]; exact e
    · rw [upd_ne hb] at e; exact g.gh b u e
  · have hne : b ≠ a := fun z => e2 (z ▸ h6)
    rw [upd_ne hne]; exact g.ow b e1 e2
  · have key : ∀ {σ : Sg} {env : Env'} {i : Nat}, SlsOk K β G H σ env → env[i]? = some (.own a ds) → (env.filterMap ownA).Nodup → SlsOk K β (upd G a (.lst xs)) H σ (env.set i (.val (.ref a) (.lst ds))) := by
      have other : ∀ {σ : Sg} {env : Env'}, SlsOk K β G H σ env → a ∉ env.filterMap ownA → SlsOk K β (upd G a (.lst xs)) H σ env := by
        intro σ env s
        induction s with
        | nil => intro _; exact .nil
        | @cons o s σ env x r ih =>
          intro m
          rw [List.filterMap_cons] at m
          cases s with
          | un => exact .cons trivial (ih m)
          | val v d => exact .cons ⟨x.1, x.2.up (.new h3)⟩ (ih m)
          | own c es =>
            have m' : a ∉ c :: env.filterMap ownA := m
            obtain ⟨y1, y2, y3, zs, y4, y5⟩ := x
            have hne : c ≠ a := fun z => m' (by rw [← z]; exact List.mem_cons_self)
            exact .cons ⟨y1, y2, by rw [upd_ne hne]; exact y3, zs, y4, y5.up (.new h3)⟩ (ih fun z => m' (List.mem_cons_of_mem _ z))
      intro σ env i s
      induction s generalizing i with
      | nil => intro e; simp at e
      | @cons o s σ env x r ih =>
        intro e nd
        cases i with
        | zero =>
          simp at e
          subst e
          exact .cons ⟨x.1, .lst upd_same (h5.up (.new h3))⟩ (other r (List.nodup_cons.mp (show (a :: env.filterMap ownA).Nodup from nd)).1)
        | succ i =>
          have e' : env[i]? = some (.own a ds) := by simpa using e
          have hm' : a ∈ env.filterMap ownA := List.mem_filterMap.mpr ⟨_, List.mem_of_getElem? e', rfl⟩
          rw [List.filterMap_cons] at nd
          cases s with
          | un => exact .cons trivial (ih e' nd)
          | val v d => exact .cons ⟨x.1, x.2.up (.new h3)⟩ (ih e' nd)
          | own c es =>
            have nd' : (c :: env.filterMap ownA).Nodup := nd
            have hne : c ≠ a := fun z => (List.nodup_cons.mp nd').1 (by rw [z]; exact hm')
            obtain ⟨y1, y2, y3, zs, y4, y5⟩ := x
            exact .cons ⟨y1, y2, by rw [upd_ne hne]; exact y3, zs, y4, y5.up (.new h3)⟩ (ih e' (List.nodup_cons.mp nd').2)
    exact key g.sl hi g.nd
/-- from here on one's own list is data -/
theorem ex_commit {i : Nat} {a : Addr} {ds : List D} (hi : env[i]? = some (.own a ds)) (hb : β.bx ≠ some a) (h : EX K β W ts (env.set i (.val (.ref a) (.lst ds))) P) : EX K β W ts env P := fun σ G H g Dn c x => by
  obtain ⟨xs, _, _, h3, g2⟩ := g.commit hi hb
  exact h σ _ H g2 Dn (c.up (.new h3)) (x.up (.new h3))
end
/-! ### a local name that holds a def which may raise -/
def tCallVS (i : Nat) (f : Addr) (sp : Sp) (E : Sg → XK) (t : TA) : TE := fun σ H Q => σ[i]? = some (some (.ref f)) ∧ t σ H fun vs H1 => sp vs H1 Q (E σ)
def tCallVK (i : Nat) (f : Addr) (sp : Sp) (gV : List V → List V → List V) (E : Sg → XK) (t : TA) : TE := fun σ H Q => σ[i]? = some (some (.ref f)) ∧ t σ H fun zs H1 => sp (gV [] zs) H1 Q (E σ)
section
variable {X : Cx} {CX : CXT} {k i : Nat} {f : Addr} {fd : FuncData} {ps ks : List Str} {sp : Sp} {E : Sg → XK} {x : Str} {e : Expr} {es : List Expr} {t : TA} {p pos : Pos} {kws : List Keyword} {g : List Value → List Value → List Value} {gV : List V → List V → List V}
theorem pe_callVS (F : FnOk X.prog X.w X.K X.mg X.base CX k f fd ps sp) (hr : Room k X.A) (hk : PySem.W.keepIn X.K (.ref f) = true) (hb : Binds X.K fd ps []) (hx : ∀ σ, PassesAt CX X σ (E σ)) (hN : X.N[i]? = some x) (hv : Vis X.env.scope x) (ha : PA X (e :: es) t)
    (hd : (x == ("__debug__" : Str)) = false := by decide) (hcd : (x == ("__classdict__" : Str)) = false := by decide)
    (he : starEach (e :: es) X.env = (false, eval e X.env) :: starEach es X.env := by rfl) (hpl : (backTo pos (starEach es X.env)).any (·.1) = false := by rfl) : PE X (.Call (.Name x p) (e :: es) [] pos) (tCallVS i f sp E t) := by
  refine ⟨fun pins s σ H Q I h => ?_⟩
  obtain ⟨hs, h⟩ := h
  refine wpAny_Call_Name_kw (thn ((pe_var (pos := p) (i := i) hN hv hd hcd).run pins s σ H (fun v H1 => v = .ref f ∧ H1 = H) I ⟨.ref f, hs, rfl, rfl⟩) fun u s1 ⟨v, H1, I1, r1, ev, eH⟩ => ?_)
  subst ev
  rw [eH] at I1
  cases r1
  refine PySem.W.callWith_K (h₀ := X.base) I.ok.mod.kin hk (thn (ha.run pos pins s1 σ H _ I1 h) fun us s2 ⟨vs, H2, I2, r, q⟩ => ⟨I2.kIn, ?_⟩) he hpl
  exact run_fnS F hr hb (hx σ) I2 r q
theorem pe_callVK (F : FnOk X.prog X.w X.K X.mg X.base CX k f fd ps sp) (hr : Room k X.A) (hk : PySem.W.keepIn X.K (.ref f) = true) (hb : KBinds X.K fd ps ks g gV) (hx : ∀ σ, PassesAt CX X σ (E σ)) (hN : X.N[i]? = some x) (hv : Vis X.env.scope x)
    (hkw : PK X kws t) (hall : (backToKw pos (keywordEach kws X.env)).all (·.1.isSome) = true := by rfl) (hks : (backToKw pos (keywordEach kws X.env)).filterMap (·.1) = ks := by rfl)
    (hd : (x == ("__debug__" : Str)) = false := by decide) (hcd : (x == ("__classdict__" : Str)) = false := by decide)
    (hpl : ((backTo pos (starEach [] X.env)).any (·.1) || (backToKw pos (keywordEach kws X.env)).any (·.1.isNone)) = false := by rfl) : PE X (.Call (.Name x p) [] kws pos) (tCallVK i f sp gV E t) := by
  refine ⟨fun pins s σ H Q I h => ?_⟩
  obtain ⟨hs, h⟩ := h
  refine wpAny_Call_Name_kw (thn ((pe_var (pos := p) (i := i) hN hv hd hcd).run pins s σ H (fun v H1 => v = .ref f ∧ H1 = H) I ⟨.ref f, hs, rfl, rfl⟩) fun u s1 ⟨v, H1, I1, r1, ev, eH⟩ => ?_)
  subst ev
  rw [eH] at I1
  cases r1
  refine PySem.W.callWith_KW0 (h₀ := X.base) I.ok.mod.kin hk hall ?_ hpl
  refine thn (hkw.run pos pins s1 σ H _ I1 h) fun ws s2 ⟨zs, H2, I2, rz, q2⟩ => ⟨I2.kIn, ?_⟩
  rw [hks]
  exact run_fnkS F hr hb (hx σ) I2 .nil rz q2
end
end DL

set_option Elab.async false
set_option linter.all false
set_option maxRecDepth 100000
set_option maxHeartbeats 2000000
namespace DL
open PySem PySem.Spec PyProof.Rows L2
section
variable {K : PySem.W.Frag} {β : Bas} {env : Env'} {ta tb te tc : TE} {tt tu : TT} {x y z d : D} {v w : V} {P : Post} {W : WX} {ts tr : TS}
/-- for j in range(n) -/
theorem ex_forR {tn : TE} {n j : Nat} (I : Nat → Env' → Prop) (hn : EV K β tn env (.int n)) (hl : n < 16777216) (h0 : I 0 env)
    (hs : ∀ i env' v, i < n → I i env' → EX K β W ts (env'.set j (.val v (.int (i : Nat)))) { P with nx := I (i + 1), ct := I (i + 1), bk := P.nx })
    (hd : ∀ env', I n env' → P.nx env') : EX K β W (tFor (iRng1 (tCons tn tNil)) (gName j) ts) env P := by
  refine ex_forN (ds := rgD 0 (n : Int).toNat) I (ei_rng1 (ea_cons hn ea_nil) (by omega) (by omega)) h0 (fun i env' v d hd hi => ?_) fun env' h => hd env' (by rw [rgD_length] at h; exact h)
  have hlt : i < n := by
    have := (List.getElem?_eq_some_iff.mp hd).1
    rw [rgD_length] at this
    omega
  have e : d = .int (i : Nat) := by
    have := rgD_get (lo := 0) (n := (n : Int).toNat) (i := i) (by omega)
    rw [this] at hd
    rw [← Option.some.inj hd, Int.zero_add]
  rw [e]
  exact hs i env' v hlt hi
/-- for .., then the rest -/
theorem ex_forRS {tn : TE} {n j : Nat} (I : Nat → Env' → Prop) (hn : EV K β tn env (.int n)) (hl : n < 16777216) (h0 : I 0 env)
    (hs : ∀ i env' v, i < n → I i env' → EX K β W ts (env'.set j (.val v (.int (i : Nat)))) { P with nx := I (i + 1), ct := I (i + 1), bk := fun _ => False })
    (hd : ∀ env', I n env' → EX K β W tr env' P) : EX K β W (tSeq (tFor (iRng1 (tCons tn tNil)) (gName j) ts) tr) env P :=
  ex_seq (N := I n) (ex_forR I hn hl h0 (fun i env' v hlt hi => (hs i env' v hlt hi).imp (fun _ h => h) (fun _ _ _ h => h) (fun _ h => h.elim) (fun _ h => h) fun _ _ _ _ h => h) fun env' h => h) hd
theorem ex_forNS {wi : TI} {j : Nat} {ds : List D} (I : Nat → Env' → Prop) (hI : EVI K β wi env ds) (h0 : I 0 env)
    (hs : ∀ i env' v d, ds[i]? = some d → I i env' → EX K β W ts (env'.set j (.val v d)) { P with nx := I (i + 1), ct := I (i + 1), bk := fun _ => False })
    (hd : ∀ env', I ds.length env' → EX K β W tr env' P) : EX K β W (tSeq (tFor wi (gName j) ts) tr) env P :=
  ex_seq (N := I ds.length) (ex_forN I hI h0 (fun i env' v d hlt hi => (hs i env' v d hlt hi).imp (fun _ h => h) (fun _ _ _ h => h) (fun _ h => h.elim) (fun _ h => h) fun _ _ _ _ h => h) fun env' h => h) hd
/-- a, b = x, y (both plain names) -/
theorem ex_par {i j : Nat} {ta : TA} {d1 d2 : D} (he : EVA K β ta env [d1, d2]) (k : ∀ v1 v2, P.nx ((env.set i (.val v1 d1)).set j (.val v2 d2))) : EX K β W (tPar i j ta) env P := fun σ G H g Dn c x =>
  he σ G H g _ fun vs G1 H1 t1 dvs => by
    cases dvs with | cons a t => cases t with | cons b t =>
    cases t
    exact ⟨_, _, rfl, c.nx _ _ G1 H1 (((g.up t1).set i a).set j b) t1.gg (k _ _)⟩
theorem ex_parS {i j : Nat} {ta : TA} {d1 d2 : D} (he : EVA K β ta env [d1, d2]) (k : ∀ v1 v2, EX K β W tr ((env.set i (.val v1 d1)).set j (.val v2 d2)) P) : EX K β W (tSeq (tPar i j ta) tr) env P :=
  ex_seq (N := fun e => ∃ v1 v2, e = (env.set i (.val v1 d1)).set j (.val v2 d2)) (ex_par he fun v1 v2 => ⟨v1, v2, rfl⟩) fun e ⟨v1, v2, h⟩ => h ▸ k v1 v2
/-! tables -/
theorem ev_tbl {n a : Nat} {f : Nat → Nat → Nat} (h : EV K β ta env (tblD n f)) (hi : EV K β tb env (.int (a : Nat))) (hl : a < n) : EV K β (tOp (rIx K) ta tb) env (rowD n (f a)) :=
  ev_op h hi (op_ix (.inl rfl) (atI_natD (by rw [List.getElem?_map, List.getElem?_range hl]; rfl)))
theorem ev_row {n a : Nat} {f : Nat → Nat} (h : EV K β ta env (rowD n f)) (hi : EV K β tb env (.int (a : Nat))) (hl : a < n) : EV K β (tOp (rIx K) ta tb) env (.int (f a : Nat)) :=
  ev_op h hi (op_ix (.inl rfl) (atI_natD (by rw [List.getElem?_map, List.getElem?_range hl]; rfl)))
theorem cb_lenTbl {n : Nat} {f : Nat → Nat → Nat} : CbD K (rLen K) [tblD n f] (.int n) := by
  have h := cb_lenT (K := K) (ds := (List.range n).map fun x => rowD n (f x))
  rw [List.length_map, List.length_range] at h
  exact h
/-- list(x), dict(x) -/
theorem cb_listOf {ds : List D} : CbD K (rListOf K) [.lst ds] (.lst ds) := fun G H vs e dl Q q => by
  cases dl with | cons a t =>
  cases t
  cases a with
  | @lst p xs _ h1 h2 =>
  refine ⟨p, xs, rfl, .inl (.inl (.inl (e _ _ h1))), fun l hl => q _ (upd G l (.lst xs)) _ (.new e hl) (.lst upd_same (h2.up (.new (e.back hl))))⟩
theorem DatK.mono' {G G' : Hp} {ds : List (Key × D)} {vs : List (Key × V)} (e : Ex G G') (h : DatK K G vs ds) : DatK K G' vs ds := DatK.mono e ds vs h
def rDictOf : List V → Hp → VK → Prop := fun xs H Q => ∃ (a : Addr) (kvs : List (Key × V)), xs = [.ref a] ∧ Rd H a (.dK kvs) ∧ ∀ p, H p = none → Q (.ref p) (upd H p (.dK kvs))
theorem call_dictOf {X : Cx} : CallR X (.type "dict") rDictOf := call_dictD
theorem cb_dictOf {kds : List (Key × D)} : CbD K rDictOf [.dct kds] (.dct kds) := fun G H vs e dl Q q => by
  cases dl with | cons a t =>
  cases t
  cases a with
  | @dct p xs _ h1 h2 =>
  refine ⟨p, xs, rfl, .inl (e _ _ h1), fun l hl => q _ (upd G l (.dK xs)) _ (.new e hl) (.dct upd_same (h2.mono' (.new (e.back hl))))⟩
end
end DL

set_option Elab.async false
set_option linter.all false
set_option maxRecDepth 100000
set_option maxHeartbeats 2000000
namespace DL
open PySem PySem.Spec PyProof.Rows L2
section
variable {K : PySem.W.Frag} {β : Bas} {env : Env'} {ta tb te tc : TE} {tt tu : TT} {x y z d : D} {v w : V} {P : Post} {W : WX} {ts tr : TS} {f' : Str} {cls : Value}
/-! calls by keywords, calls of a local name; on the way that hands back and on the way that raises -/
theorem ev_callK {R : List D → D → Prop} {E' : List V → List D → Value → Str → V → Prop} {ta : TA} {ds ds' : List D} {gV : List V → List V → List V} {E : Sg → XK} (he : EVA K β ta env ds) (hg : ∀ G vs, DatL K G vs ds → DatL K G (gV [] vs) ds') (h : R ds' d) :
    EV K β (tCallK0 (spX K R E') gV E ta) env d := fun σ G H g Q q =>
  he σ G H g _ fun vs G1 H1 t1 d1 => ⟨G1, ds', t1.gh, hg _ _ d1, .inl ⟨d, h, fun v G2 H2 t2 d2 => q v G2 H2 (t1.trans t2) d2⟩⟩
theorem ev_callKD {R : List D → D → Prop} {ta : TA} {ds ds' : List D} {gV : List V → List V → List V} {E : Sg → XK} (he : EVA K β ta env ds) (hg : ∀ G vs, DatL K G vs ds → DatL K G (gV [] vs) ds') (h : R ds' d) :
    EV K β (tCallK0 (spD K R) gV E ta) env d := fun σ G H g Q q =>
  he σ G H g _ fun vs G1 H1 t1 d1 => ⟨G1, ds', d, t1.gh, hg _ _ d1, h, fun v G2 H2 t2 d2 => q v G2 H2 (t1.trans t2) d2⟩
theorem rs_callK {R : List D → D → Prop} {E' : List V → List D → Value → Str → V → Prop} {ta : TA} {ds ds' : List D} {vs vs' : List V} {gV : List V → List V → List V} (he : EVAv K β ta env vs ds) (hg : ∀ G, DatL K G vs ds → DatL K G vs' ds') (hv : gV [] vs = vs') (h : E' vs' ds' cls f' v) :
    Raises' K β W (tCallK0 (spX K R E') gV (WE W) ta) env cls f' v := fun σ G H g Q q =>
  he σ G H g _ fun G1 H1 t1 d1 => by
    show spX K R E' (gV [] vs) H1 Q (WE W σ)
    rw [hv]
    exact ⟨G1, ds', t1.gh, hg _ d1, .inr ⟨cls, f', v, h, fun G2 H2 dx t2 => q G2 H2 dx (t1.trans t2)⟩⟩
theorem slot_val {i : Nat} {σ : Sg} {G H : Hp} (g : Good K β σ env G H) (h : env[i]? = some (.val v d)) : σ[i]? = some (some v) := by
  obtain ⟨o, h1, rfl, _⟩ := g.sl.get h
  exact h1
theorem ev_callV {R : List D → D → Prop} {E' : List V → List D → Value → Str → V → Prop} {ta : TA} {ds : List D} {E : Sg → XK} {i : Nat} {f : Addr} {df : D} (hi : env[i]? = some (.val (.ref f) df)) (he : EVA K β ta env ds) (h : R ds d) : EV K β (tCallVS i f (spX K R E') E ta) env d := fun σ G H g Q q =>
  ⟨slot_val g hi, he σ G H g _ fun vs G1 H1 t1 d1 => ⟨G1, ds, t1.gh, d1, .inl ⟨d, h, fun v G2 H2 t2 d2 => q v G2 H2 (t1.trans t2) d2⟩⟩⟩
theorem rs_callV {R : List D → D → Prop} {E' : List V → List D → Value → Str → V → Prop} {ta : TA} {ds : List D} {vs : List V} {i : Nat} {f : Addr} {df : D} (hi : env[i]? = some (.val (.ref f) df)) (he : EVAv K β ta env vs ds) (h : E' vs ds cls f' v) : Raises' K β W (tCallVS i f (spX K R E') (WE W) ta) env cls f' v := fun σ G H g Q q =>
  ⟨slot_val g hi, he σ G H g _ fun G1 H1 t1 d1 => ⟨G1, ds, t1.gh, d1, .inr ⟨cls, f', v, h, fun G2 H2 dx t2 => q G2 H2 dx (t1.trans t2)⟩⟩⟩
theorem ev_callVK {R : List D → D → Prop} {E' : List V → List D → Value → Str → V → Prop} {ta : TA} {ds ds' : List D} {gV : List V → List V → List V} {E : Sg → XK} {i : Nat} {f : Addr} {df : D} (hi : env[i]? = some (.val (.ref f) df)) (he : EVA K β ta env ds) (hg : ∀ G vs, DatL K G vs ds → DatL K G (gV [] vs) ds') (h : R ds' d) :
    EV K β (tCallVK i f (spX K R E') gV E ta) env d := fun σ G H g Q q =>
  ⟨slot_val g hi, he σ G H g _ fun vs G1 H1 t1 d1 => ⟨G1, ds', t1.gh, hg _ _ d1, .inl ⟨d, h, fun v G2 H2 t2 d2 => q v G2 H2 (t1.trans t2) d2⟩⟩⟩
theorem rs_callVK {R : List D → D → Prop} {E' : List V → List D → Value → Str → V → Prop} {ta : TA} {ds ds' : List D} {vs vs' : List V} {gV : List V → List V → List V} {i : Nat} {f : Addr} {df : D} (hi : env[i]? = some (.val (.ref f) df)) (he : EVAv K β ta env vs ds) (hg : ∀ G, DatL K G vs ds → DatL K G vs' ds') (hv : gV [] vs = vs') (h : E' vs' ds' cls f' v) :
    Raises' K β W (tCallVK i f (spX K R E') gV (WE W) ta) env cls f' v := fun σ G H g Q q =>
  ⟨slot_val g hi, he σ G H g _ fun G1 H1 t1 d1 => by
    show spX K R E' (gV [] vs) H1 Q (WE W σ)
    rw [hv]
    exact ⟨G1, ds', t1.gh, hg _ d1, .inr ⟨cls, f', v, h, fun G2 H2 dx t2 => q G2 H2 dx (t1.trans t2)⟩⟩⟩
theorem rs_if {b : Bool} (h : EVT K β tt env b) (h1 : b = true → Raises' K β W ta env cls f' v) (h2 : b = false → Raises' K β W tb env cls f' v) : Raises' K β W (tIf tt ta tb) env cls f' v := fun σ G H g Q q => h σ G H g _ fun G1 H1 t1 => by
  cases b with
  | true => show ta σ H1 Q; exact h1 rfl σ G1 H1 (g.up t1) Q fun G2 H2 dx t2 => q G2 H2 dx (t1.trans t2)
  | false => show tb σ H1 Q; exact h2 rfl σ G1 H1 (g.up t1) Q fun G2 H2 dx t2 => q G2 H2 dx (t1.trans t2)
/-- [.., e that raises, ..] -/
def RaisesA (K : PySem.W.Frag) (β : Bas) (W : WX) (ta : TA) (env : Env') (cls : Value) (f : Str) (v : V) : Prop :=
  ∀ σ G H, Good K β σ env G H → ∀ Q : List V → Hp → Prop, (∀ G' H' dx, Stp G H G' H' → H' dx = some (.xd [(f, v)]) → G' dx = none → W cls (some dx) σ H') → ta σ H Q
theorem ra_here {tr : TA} (h : Raises' K β W te env cls f' v) : RaisesA K β W (tCons te tr) env cls f' v := fun σ G H g Q q => h σ G H g _ q
theorem ra_next {tr : TA} (he : EV K β te env d) (h : RaisesA K β W tr env cls f' v) : RaisesA K β W (tCons te tr) env cls f' v := fun σ G H g Q q =>
  he σ G H g _ fun u G1 H1 t1 _ => h σ G1 H1 (g.up t1) _ fun G2 H2 dx t2 => q G2 H2 dx (t1.trans t2)
theorem rs_lst {ta : TA} (h : RaisesA K β W ta env cls f' v) : Raises' K β W (tLst ta) env cls f' v := fun σ G H g Q q => h σ G H g _ q
theorem evv_op (h : EV K β te env (.op v)) : EVv K β te env v (.op v) := fun σ G H g Q q => h σ G H g _ fun u G' H' t du => by cases du; exact q G' H' t (.op v)
theorem ex_letV {i : Nat} (he : EVv K β te env v d) (h : EX K β W tr (env.set i (.val v d)) P) : EX K β W (tSeq (tAsg te (gName i)) tr) env P := ex_cons (ex_asgV he rfl) h
/-- x in [texts] -/
theorem DatL.strs {G : Hp} : ∀ {ws : List Str} {vs : List V}, DatL K G vs (ws.map D.str) → vs = ws.map V.str
  | [], _, h => by cases h; rfl
  | n :: ns, _, h => by
    cases h with
    | cons a t => cases a; rw [DatL.strs t]; rfl
theorem op_inS {w : Str} {ws : List Str} {b : Bool} (hb : inV (.str w) (ws.map V.str) = b) : OpD K (rIn K false) (.str w) (.lst (ws.map D.str)) (.bl b) := fun G H v1 v2 e d1 d2 Q q => by
  rw [d1.strV]
  cases d2 with
  | lst h1 h2 =>
  rw [h2.strs] at h1
  exact ⟨_, _, rfl, .inl (.inl (.inl (e _ _ h1))), rfl, by rw [List.all_map]; exact List.all_eq_true.mpr fun _ _ => rfl, by rw [if_neg Bool.false_ne_true, hb]; exact q _ G H (.refl e) (.bl _)⟩
/-- {texts: defs}[word] -/
theorem tPairs_cc : ∀ (l : List (Str × Addr)) (σ : Sg) (H : Hp) (Q : List (V × V) → Hp → Prop), Q (l.map fun p => (V.str p.1, V.ref p.2)) H → tPairs (l.map fun p => (tC (.str p.1), tC (.ref p.2))) σ H Q
  | [], _, _, _, h => h
  | p :: r, σ, H, Q, h => tPairs_cc r σ H (fun ps H3 => Q ((V.str p.1, V.ref p.2) :: ps) H3) h
theorem ev_door {l : List (Str × Addr)} {w : Str} {f : Addr} (hw : EV K β tb env (.str w)) (hl : l.length ≤ 15) (hf : valV (mergeK [] (l.map fun p => ((.inr p.1 : Key), V.ref p.2))) (.inr w) = some (.ref f)) :
    EV K β (tDGet (tDisp (l.map fun p => (tC (.str p.1), tC (.ref p.2)))) tb) env (.op (.ref f)) := fun σ G H g Q q p hp => by
  refine tPairs_cc l σ _ _ ⟨upd_same, l.map fun p => ((.inr p.1 : Key), V.ref p.2), by rw [List.map_map]; rfl, by rw [List.length_map]; exact hl, ?_⟩
  have e : upd (upd H p (.dK [])) p (.dK (mergeK [] (l.map fun p => ((.inr p.1 : Key), V.ref p.2)))) = upd H p (.dK (mergeK [] (l.map fun p => ((.inr p.1 : Key), V.ref p.2)))) := by
    funext b
    by_cases hb : b = p
    · rw [hb, upd_same, upd_same]
    · rw [upd_ne hb, upd_ne hb, upd_ne hb]
  rw [e]
  have t1 : Stp G H G (upd H p (.dK (mergeK [] (l.map fun p => ((.inr p.1 : Key), V.ref p.2))))) := (Stp.refl g.gh).side hp (g.gh.back hp)
  refine hw σ G _ (g.up t1) _ fun u G2 H2 t2 du => ?_
  obtain rfl := du.strV
  exact ⟨p, .ref f, rfl, .inl ⟨_, .inr w, .inl (t2.hh _ _ upd_same), rfl, hf.symm⟩, q _ G2 H2 (t1.trans t2) (.op _)⟩
end
end DL

set_option Elab.async false
set_option linter.all false
set_option maxRecDepth 100000
set_option maxHeartbeats 2000000
namespace DL
open PySem PySem.Spec PyProof.Rows L2
theorem call_isXK {X : Cx} (K : PySem.W.Frag) {a D : Addr} {d : Option Addr} {oe : Obj} {mg : Str → Option Value} {x f : Str} {fI : Addr} {cls : Value} {pn : List (Addr × Obj)} (C : ErrC K mg x f D fI) (hz : Zc cls d oe) (hf : ∃ vs, oe.data = .fields vs) (hK : X.K = K := by rfl) :
    CallR (X.suite a ((a, oe) :: pn)) (.builtin "isinstance") (fun xs H Q => cls = .ref D ∧ rIsX K D a d xs H Q) := by
  subst hK
  exact call_isX C hz hf
section
variable (K : PySem.W.Frag) (β : Bas)
/-- a suite that hands back -/
def EXHr (ts : Addr → Value → Option Addr → TS) (o : Option Nat) (cls : Value) (f : Str) (v : V) (env : Env') (P : Post) : Prop := ∀ σ G H dx a, Good K β σ env G H → H dx = some (.xd [(f, v)]) → G dx = none → H a = none →
  ∀ Dn : Ends, (∀ σ' env' G' H' v d, Good K β σ' env' G' H' → Ex G G' → Dat K G' v d → P.rt v d env' → Dn.rt v H') → ts a cls (some dx) Dn (match o with | none => σ | some i => σ.set i (some (.ref a))) H
def WH (P : Post) : List (Value × Option Nat × (Addr → Value → Option Addr → TS)) → Value → Str → V → Env' → Prop
  | [], cls, f, v, env' => P.ex cls f v env'
  | (c, o, ts) :: r, cls, f, v, env' => ∃ b, PySem.W.exmOne K cls c = some b ∧ (b = true → EXHr K β ts o cls f v env' P) ∧ (b = false → WH P r cls f v env')
end
section
variable {K : PySem.W.Frag} {β : Bas} {env : Env'} {ta tb te tc : TE} {tt tu : TT} {x y z d : D} {v w : V} {P : Post} {W : WX} {ts tr : TS}
theorem wh_go {Wout : WX} {Dn : Ends} {G : Hp} (c : Cont K β Dn P G) (xo : ExOk K β Wout P G) : ∀ (l : List (Value × Option Nat × (Addr → Value → Option Addr → TS))) {cls : Value} {f : Str} {v : V} {env' : Env'} {σ' : Sg} {G' H' : Hp} {dx : Addr},
    Good K β σ' env' G' H' → Ex G G' → H' dx = some (.xd [(f, v)]) → G' dx = none → WH K β P l cls f v env' → wManyA K Wout Dn l cls (some dx) σ' H'
  | [], _, _, _, _, _, _, _, _, g, e, h1, h2, h => xo _ _ _ _ _ _ _ _ g e h1 h2 h
  | (cl, none, ts) :: r, _, _, _, _, _, _, _, _, g, e, h1, h2, ⟨b, hb, ht, hf⟩ => ⟨b, hb, fun z a ha => ht z _ _ _ _ a g h1 h2 ha _ fun σ' env' G' H' v d g' e' => c.rt σ' env' G' H' v d g' (e.trans e'), fun z => wh_go c xo r g e h1 h2 (hf z)⟩
  | (cl, some i, ts) :: r, _, _, _, _, _, _, _, _, g, e, h1, h2, ⟨b, hb, ht, hf⟩ => ⟨b, hb, fun z a ha => ht z _ _ _ _ a g h1 h2 ha _ fun σ' env' G' H' v d g' e' => c.rt σ' env' G' H' v d g' (e.trans e'), fun z => wh_go c xo r g e h1 h2 (hf z)⟩
/-- try: .. except .. -/
theorem ex_tryA {tb : WX → TS} {l : List (Value × Option Nat × (Addr → Value → Option Addr → TS))} {Wout : WX} {PX : Value → Str → V → Env' → Prop} (hb : ∀ W, EX K β W (tb W) env { P with ex := PX })
    (hh : ∀ cls f v env', PX cls f v env' → WH K β P l cls f v env') : EX K β Wout (fun D σ H => tb (wManyA K Wout D l) D σ H) env P := fun σ G H g Dn c xo =>
  hb (wManyA K Wout Dn l) σ G H g Dn ⟨c.nx, c.rt, c.bk, c.ct⟩ fun σ' env' G' H' cls f v dx g' e q1 q2 hp => wh_go c xo l g' e q1 q2 (hh cls f v env' hp)
theorem sls_len {G H : Hp} : ∀ {σ : Sg} {env : Env'}, SlsOk K β G H σ env → σ.length = env.length
  | _, _, .nil => rfl
  | _, _, .cons _ r => by rw [List.length_cons, List.length_cons, sls_len r]
theorem EX.finTry {tb : WX → TS} {l : List (Value × Option Nat × (Addr → Value → Option Addr → TS))} {Wout : WX} {G H : Hp} {Q : VK} {σ : Sg} (g : Good K ⟨G, H, none⟩ σ env G H) (q : ∀ v G' H', Stp G H G' H' → Dat K G' v d → Q v H')
    (h : EX K ⟨G, H, none⟩ Wout (fun D σ H => tb (wManyA K Wout D l) D σ H) env { rt := fun _ d' _ => d' = d, nx := fun _ => d = .non }) :
    tb (wManyA K Wout { nx := fun _ H' => Q .non H', rt := Q } l) { nx := fun _ H' => Q .non H', rt := Q } σ H := EX.fin (t := fun D σ H => tb (wManyA K Wout D l) D σ H) g q h
/-- return [text if isinstance(e, S) else .., e.f] -/
theorem exh_ret {C fI cS : Addr} {mg : Str → Option Value} {x f s z : Str} {i : Nat} (E : ErrC K mg x f C fI) (hk : PySem.W.kitOne K (.ref C) (.ref cS) = some true) (hl : i < env.length) (hv : ∀ σ G H, Good K β σ env G H → Dat K G v d) (hP : ∀ u, P.rt u (.lst [.str s, d]) (env.set i .un)) :
    EXHr K β (fun a cls d' => tRet (tLst (tCons (tIf (tB (tCB (fun xs H Q => cls = .ref C ∧ rIsX K C a d' xs H Q) (tCons (tVar i) (tCons (tC (.ref cS)) tNil)))) (tC (.str s)) (tC (.str z))) (tCons (tXf a cls d' C f (tVar i)) tNil)))) (some i) (.ref C) f v env P := fun σ G H dx a g h1 h2 ha Dn hD => by
  have hi : (σ.set i (some (V.ref a)))[i]? = some (some (V.ref a)) := List.getElem?_set_self (by rw [sls_len g.sl]; exact hl)
  refine ⟨.ref a, hi, rfl, .ref cS, .ref cS, true, dx, _, rfl, fun u r => ?_, rfl, h1, hk, true, rfl, ?_⟩
  · exact r
  · show (if true = true then _ else _)
    rw [if_pos rfl]
    refine ⟨.ref a, hi, rfl, rfl, dx, _, v, rfl, h1, by simp [List.lookup], sz 2, fun p hp => ?_⟩
    exact hD _ _ (upd G p (.lst [.str s, v])) _ _ _ (((g.drop i (some (.ref a)))).up (.new g.gh hp)) (.new (g.gh.back hp)) (.lst upd_same (.cons (.str s) (.cons ((hv σ G H g).up (.new (g.gh.back hp))) .nil))) (hP _)
end
end DL

set_option Elab.async false
set_option linter.all false
set_option maxRecDepth 100000
set_option maxHeartbeats 2000000
namespace DL
open PySem PySem.Spec PyProof.Rows L2
theorem hu65 {k : Nat} {A : Around} (hr : Room k A) : A.units + 65 < cLine := by have := hr.un; omega
theorem mt_indexDK {X : Cx} (K : PySem.W.Frag) (hu : X.A.units + 65 < cLine) (h : X.K = K := by rfl) : MtR X "list.index" (rIndexD K) := h ▸ mt_indexD hu
section
variable {K : PySem.W.Frag} {β : Bas} {env : Env'} {ta tb te tc to : TE} {tt tu : TT} {x y z d : D} {v w : V} {P : Post} {W : WX} {ts tr : TS}
theorem ex_newS {i : Nat} {ta : TA} {ds : List D} (he : EVA K β ta env ds) (hl : ds.length ≤ sizeLine) (h : ∀ a, EX K β W tr (env.set i (.own a ds)) P) : EX K β W (tSeq (tAsg (tLst ta) (gName i)) tr) env P :=
  ex_seq (N := fun e => ∃ a, e = env.set i (.own a ds)) (ex_new he hl fun a => ⟨a, rfl⟩) fun e ⟨a, q⟩ => q ▸ h a
theorem ev_tupOwn {i : Nat} {a : Addr} {ds : List D} (hi : env[i]? = some (.own a ds)) : EV K β (tThen (tVar i) (kTup K)) env (.tup ds) := fun σ G H g Q q => by
  obtain ⟨h1, h2, h3, xs, h4, h5⟩ := g.own hi
  refine ⟨.ref a, h1, .inl ⟨a, xs, rfl, .of h4, fun p hp => q _ (upd G p (.tup xs)) _ (.new g.gh hp) (.tup (.of upd_same) (h5.up (.new (g.gh.back hp))))⟩⟩
theorem ex_whileS {tt : Env' → Bool} {ttr : TT} (I : Env' → Prop) (μ : Env' → Nat) (h0 : I env) (ht : ∀ env', I env' → EVT K β ttr env' (tt env'))
    (hs : ∀ env', I env' → tt env' = true → EX K β W ts env' { P with nx := fun e => I e ∧ μ e < μ env', ct := fun e => I e ∧ μ e < μ env', bk := fun _ => False })
    (hd : ∀ env', I env' → tt env' = false → EX K β W tr env' P) : EX K β W (tSeq (tWhile ttr ts) tr) env P :=
  ex_seq (N := fun e => I e ∧ tt e = false) (ex_while I μ h0 ht (fun env' hi hb => (hs env' hi hb).imp (fun _ h => h) (fun _ _ _ h => h) (fun _ h => h.elim) (fun _ h => h) fun _ _ _ _ h => h) fun env' hi hb => ⟨hi, hb⟩) fun env' h => hd env' h.1 h.2
theorem ex_appS {i : Nat} {a : Addr} {ds : List D} (hi : env[i]? = some (.own a ds)) (he : EV K β te env d) (hl : ds.length < sizeLine) (h : EX K β W tr (env.set i (.own a (ds ++ [d]))) P) :
    EX K β W (tSeq (tDrop (tBM K "list" rAppend (tVar i) (tCons te tNil))) tr) env P := ex_cons (ex_app hi he hl rfl) h
/-- the number in a slot -/
def slotInt (e : Env') (i : Nat) : Int := match (e[i]? : Option Sl) with
  | some (.val _ (.int c)) => c
  | _ => 0
/-! pairs.index -/
def pairZD (p : Int × Int) : D := .tup [.int p.1, .int p.2]
def pairZP (p : Int × Int) : PyData := .tuple [.int p.1, .int p.2]
theorem Dat.pr {G H : Hp} (e : Ex G H) {p : Int × Int} {v : V} (h : Dat K G v (pairZD p)) : Dp K H v (pairZP p) := by
  cases h with
  | tup a b =>
    cases b with
    | cons b1 b2 =>
    cases b2 with
    | cons b2 b3 =>
    cases b3; cases b1; cases b2
    exact .tup (ex_t e a) (.cons (.int _) (.cons (.int _) .nil))
theorem DatL.prs {G H : Hp} (e : Ex G H) : ∀ {L : List (Int × Int)} {vs : List V}, DatL K G vs (L.map pairZD) → DpAll K H vs (L.map pairZP)
  | [], _, h => by cases h; exact .nil
  | p :: L, _, h => by cases h with | cons a t => exact .cons (Dat.pr e a) (DatL.prs e t)
theorem pr_lay : ∀ L : List (Int × Int), PyData.canLayAll0 (L.map pairZP) = true
  | [] => rfl
  | p :: L => by
    show (PyData.canLay0 (pairZP p) && PyData.canLayAll0 (L.map pairZP)) = true
    rw [pr_lay L]
    rfl
theorem pr_depth : ∀ L : List (Int × Int), PyData.depthAll (L.map pairZP) ≤ 1
  | [] => Nat.zero_le _
  | p :: L => by
    show max (PyData.depth (pairZP p)) (PyData.depthAll (L.map pairZP)) ≤ 1
    have := pr_depth L
    have h : PyData.depth (pairZP p) = 1 := rfl
    omega
theorem pr_shaped (L : List (Int × Int)) : SeqAt.shaped (.list (L.map pairZP)) = true := by
  unfold SeqAt.shaped
  have h1 : PyData.canLay0 (.list (L.map pairZP)) = true := pr_lay L
  have h2 : PyData.depth (.list (L.map pairZP)) ≤ 64 := by
    show PyData.depthAll (L.map pairZP) + 1 ≤ 64
    have := pr_depth L
    omega
  rw [h1, decide_eq_true h2]
  rfl
theorem pr_eqv (p q : Int × Int) : PyData.eqv (pairZP p) (pairZP q) = decide (p = q) := by
  show (p.1 == q.1 && (p.2 == q.2 && true)) = _
  obtain ⟨a, b⟩ := p
  obtain ⟨c, d⟩ := q
  simp only [Bool.and_true, Prod.mk.injEq]
  by_cases h1 : a = c <;> by_cases h2 : b = d <;> simp [h1, h2]
theorem ev_index {L : List (Int × Int)} {p : Int × Int} {j : Nat} (h : EV K β to env (.lst (L.map pairZD))) (he : EV K β te env (pairZD p)) (hj : L[j]? = some p) (hm : ∀ m, m < j → L[m]? ≠ some p) : EV K β (tBM K "list" (rIndexD K) to (tCons te tNil)) env (.int j) := fun σ G H g Q q =>
  h σ G H g _ fun v1 G1 H1 t1 d1 => by
    obtain ⟨a, xs, rfl, ha, hx⟩ := d1.lstV
    refine ⟨.inl ⟨rfl, xs, .of (t1.gh _ _ ha)⟩, he σ G1 H1 (g.up t1) _ fun v2 G2 H2 t2 d2 => ?_⟩
    refine ⟨a, v2, pairZP p, L.map pairZP, j, pairZP p, rfl, rfl, .lst (.of (t2.hh _ _ (t1.gh _ _ ha))) (DatL.prs (t1.gh.trans t2.hh) hx), Dat.pr t2.gh d2, pr_shaped L, rfl, by rw [List.getElem?_map, hj]; rfl, by rw [pr_eqv, decide_eq_true rfl], fun m z' hlt hz => ?_, q _ G2 H2 (t1.trans t2) (.int _)⟩
    rw [List.getElem?_map] at hz
    cases hq : L[m]? with
    | none => rw [hq] at hz; cases hz
    | some p' =>
      rw [hq] at hz
      cases hz
      rw [pr_eqv]
      exact decide_eq_false fun z => hm m hlt (by rw [hq, z])
end
end DL

set_option Elab.async false
set_option linter.all false
set_option maxRecDepth 100000
set_option maxHeartbeats 2000000
namespace DL
open PySem PySem.Spec PyProof.Rows L2
section
variable {K : PySem.W.Frag} {β : Bas} {env : Env'} {ta tb te tc to : TE} {tt tu : TT} {x y z d : D} {v w : V} {P : Post} {W : WX} {ts tr : TS}
theorem Good.adopt {σ : Sg} {G H : Hp} (g : Good K β σ env G H) {p : Addr} {xs : List V} {es : List D} (i : Nat) (hβ : β.H p = none) (hG : G p = none) (hp : H p = some (.lst xs)) (hna : p ∉ owns env) (dx : DatL K G xs es) :
    Good K β (σ.set i (some (V.ref p))) (env.set i (.own p es)) G H :=
  ⟨g.gg, g.hh, g.gh, g.ow, g.bh, g.sl.set (s := .own p es) ⟨rfl, .inl hβ, hG, xs, hp, dx⟩ i, (nd_newOwn hna i g.nd).1⟩
theorem DatL.marks {G : Hp} : ∀ {xs : List V} {es : List D}, DatL K G xs es → DatL K G xs (List.zipWith D.idn xs es)
  | _, _, .nil => .nil
  | _, _, .cons a t => .cons (.idn a) (DatL.marks t)
/-- a, b = list(x), e: a a list of one's own -/
theorem ex_parL2 {i j : Nat} {tg t2 : TE} {es : List D} {P2 : V → D → Env' → Prop} (hg : EV K β tg env (.lst es)) (h2 : XE K β t2 env P2)
    (k : ∀ p xs v d e, xs.length = es.length → P2 v d e → P.nx ((e.set i (.own p (List.zipWith D.idn xs es))).set j (.val v d))) : EX K β W (tPar i j (tCons (tCB (rListOf K) (tCons tg tNil)) (tCons t2 tNil))) env P := fun σ G H g Dn c x =>
  hg σ G H g _ fun v1 G1 H1 t1 d1 => by
    obtain ⟨a, xs, rfl, ha, hx⟩ := d1.lstV
    have g1 := g.up t1
    refine ⟨a, xs, rfl, .inl (.inl (.inl (t1.gh _ _ ha))), fun p hp => ?_⟩
    have hGp : G1 p = none := t1.gh.back hp
    have g2 := g1.up ((Stp.refl t1.gh).side (o := .lst xs) hp hGp)
    refine h2 σ G1 _ g2 _ fun v d e G3 H3 g3 t3 e3 dv p2 => ?_
    have hna : p ∉ owns env := fun m => g1.there m hp
    have hβ : β.H p = none := by
      cases q : β.H p with
      | none => rfl
      | some o => exact absurd hp (g1.hn (by rw [q]; exact (fun e => nomatch e)))
    have h3 : H3 p = some (.lst xs) := t3.hh p _ hna upd_same
    have hG3 : G3 p = none := t3.ow p hGp (by rw [upd_same]; exact (fun e => nomatch e))
    have g4 := (g3.adopt i hβ hG3 h3 (by rw [e3]; exact hna) ((hx.up t3.gg).marks)).set j dv
    exact ⟨_, _, rfl, c.nx _ _ G3 H3 g4 (t1.gg.trans t3.gg) (k p xs v d e hx.length p2)⟩
/-- xs[k] = e, xs one's own, e may ask the box -/
theorem ex_setOwnX {i : Nat} {tk : TE} {P1 : V → D → Env' → Prop} (he : XE K β te env P1) (k : ∀ v d e, P1 v d e → ∃ a ds kk j, e[i]? = some (.own a ds) ∧ EV K β tk e (.int kk) ∧ ixN ds.length kk = some j ∧ P.nx (e.set i (.own a (ds.set j (.idn v d))))) :
    EX K β W (tAsg te (gSub (tVar i) tk rSetL)) env P := fun σ G H g Dn c x =>
  he σ G H g _ fun v d e G1 H1 g1 t1 e1 dv p1 => by
    obtain ⟨a, ds, kk, j, hi, hk, hj, hn⟩ := k v d e p1
    obtain ⟨h1, h2, h3, xs, h4, h5⟩ := g1.own hi
    refine ⟨.ref a, h1, hk σ G1 H1 g1 _ fun u G2 H2 t2 du => ?_⟩
    refine ⟨a, xs, kk, j, rfl, du.intV, t2.hh _ _ h4, by rw [h5.length]; exact hj, ?_⟩
    exact c.nx _ _ G2 _ ((g1.up t2).write hi ((h5.up t2.gg).set j (.idn (dv.up t2.gg)))) (t1.gg.trans t2.gg) hn
/-- a target of four names -/
theorem eg_four {i j k l n : Nat} {a b c d : D} (hn : 4 = n := by rfl) : EG K β (gTup K n (gCons (gName i) (gCons (gName j) (gCons (gName k) (gCons (gName l) gNil))))) env v (.tup [a, b, c, d]) (fun e => ∃ v1 v2 v3 v4, e = (((env.set i (.val v1 a)).set j (.val v2 b)).set k (.val v3 c)).set l (.val v4 d)) :=
  eg_tup hn fun vs σ G H g dvs Q q => by
    cases dvs with
    | cons a1 t =>
    cases t with
    | cons b1 t =>
    cases t with
    | cons c1 t =>
    cases t with
    | cons d1 t =>
    cases t
    exact ⟨_, _, rfl, _, _, rfl, _, _, rfl, _, _, rfl, rfl, q _ _ ((((g.set i a1).set j b1).set k c1).set l d1) ⟨_, _, _, _, rfl⟩⟩
theorem ex_forS {wi : TI} {g : TG} {ds : List D} (I : Nat → Env' → Prop) (hI : EVI K β wi env ds) (h0 : I 0 env)
    (hs : ∀ i env' v d, ds[i]? = some d → I i env' → ∃ Pg, EG K β g env' v d Pg ∧ ∀ env2, Pg env2 → EX K β W ts env2 { P with nx := I (i + 1), ct := I (i + 1), bk := fun _ => False })
    (hd : ∀ env', I ds.length env' → EX K β W tr env' P) : EX K β W (tSeq (tFor wi g ts) tr) env P :=
  ex_seq (N := I ds.length) (ex_for I hI h0 (fun i env' v d h1 h2 => by
    obtain ⟨Pg, h3, h4⟩ := hs i env' v d h1 h2
    exact ⟨Pg, h3, fun env2 hp => (h4 env2 hp).imp (fun _ h => h) (fun _ _ _ h => h) (fun _ h => h.elim) (fun _ h => h) fun _ _ _ _ h => h⟩) fun env' h => h) hd
theorem ex_commit' {i : Nat} {a : Addr} {ds : List D} (hi : env[i]? = some (.own a ds)) (hb : ∀ σ G H, Good K β σ env G H → β.bx ≠ some a) (h : EX K β W ts (env.set i (.val (.ref a) (.lst ds))) P) : EX K β W ts env P := fun σ G H g Dn c x => by
  obtain ⟨xs, _, _, h3, g2⟩ := g.commit hi (hb σ G H g)
  exact h σ _ H g2 Dn (c.up (.new h3)) (x.up (.new h3))
end
end DL

set_option Elab.async false
set_option linter.all false
set_option maxRecDepth 100000
set_option maxHeartbeats 2000000
namespace DL
open PySem PySem.Spec PyProof.Rows L2
section
variable {K : PySem.W.Frag} {β : Bas} {env : Env'} {ta tb te tc to : TE} {tt tu : TT} {x y z d : D} {v w : V} {P : Post} {W : WX} {ts tr : TS}
theorem for_core {g : TG} {ds : List D} {J : It} {us : List V} {σ : Sg} {G1 H1 : Hp} {Dn : Ends} (I : Nat → Env' → Prop) (g1 : Good K β σ env G1 H1) (hdl : DatL K G1 us ds) (hJ : ItV J G1 us) (h0 : I 0 env)
    (hs : ∀ i env' v d, ds[i]? = some d → I i env' → ∃ Pg, EG K β g env' v d Pg ∧ ∀ env2, Pg env2 → EX K β W ts env2 { P with nx := I (i + 1), ct := I (i + 1), bk := P.nx })
    (hd : ∀ env', I ds.length env' → P.nx env') (c : Cont K β Dn P G1) (x : ExOk K β W P G1) :
    ∃ Wt : Nat → Nat → Sg → Hp → Prop, (∃ m, Wt 0 m σ H1) ∧ ∀ i m σ H, Wt i m σ H → (J.stop i H ∧ Dn.nx σ H) ∨ (J.go i H ∧ ∃ N : Sg → Hp → Prop, (∀ σ' H', N σ' H' → ∃ m', m' < m ∧ Wt (i + 1) m' σ' H') ∧
      ∀ x H', J.yld i H x H' → g x σ H' fun σ2 H2 => ts { Dn with nx := N, ct := N, bk := Dn.nx } σ2 H2) := by
    refine ⟨fun i m σ' H' => m = us.length - i ∧ i ≤ us.length ∧ ∃ env' G', Good K β σ' env' G' H' ∧ Ex G1 G' ∧ I i env', ⟨us.length, by simp, Nat.zero_le _, env, G1, g1, .refl _, h0⟩, ?_⟩
    rintro i m σ' H' ⟨rfl, hi, env', G', g', e', hIi⟩
    by_cases hlt : i < us.length
    · have hx : us[i]? = some us[i] := List.getElem?_eq_getElem hlt
      obtain ⟨d, hdi, dx⟩ := hdl.getV hx
      obtain ⟨Pg, hg, hb⟩ := hs i env' us[i] d hdi hIi
      obtain ⟨hgo, hyl⟩ := (hJ i H' (e'.trans g'.gh)).2 _ hx
      refine .inr ⟨hgo, fun σ2 H2 => ∃ env2 G2, Good K β σ2 env2 G2 H2 ∧ Ex G1 G2 ∧ I (i + 1) env2, fun σ2 H2 z => ⟨us.length - (i + 1), by omega, rfl, hlt, z⟩, fun x0 H'' hy => ?_⟩
      obtain ⟨rfl, rfl⟩ := hyl _ _ hy
      refine hg _ _ _ g' (dx.up e') _ fun σ2 env2 g2 hp => ?_
      refine hb env2 hp σ2 G' _ g2 _ ⟨fun σ3 env3 G3 H3 g3 e3 n => ⟨env3, G3, g3, e'.trans e3, n⟩, fun σ3 env3 G3 H3 v d g3 e3 => c.rt σ3 env3 G3 H3 v d g3 (e'.trans e3), fun σ3 env3 G3 H3 g3 e3 => c.nx σ3 env3 G3 H3 g3 (e'.trans e3),
        fun σ3 env3 G3 H3 g3 e3 n => ⟨env3, G3, g3, e'.trans e3, n⟩⟩ (x.up e')
    · have hil : i = us.length := by omega
      refine .inl ⟨(hJ i H' (e'.trans g'.gh)).1 hil, ?_⟩
      refine c.nx σ' env' G' H' g' e' (hd env' ?_)
      rw [hil, hdl.length] at hIi
      exact hIi
/-- for x in [.., a draw, ..] -/
theorem ex_forXL {tl : TE} {j : Nat} {P1 : V → D → Env' → Prop} (hI : XE K β tl env P1) (hl : ∀ v d e, P1 v d e → ∃ ds, d = .lst ds ∧ ∃ I : Nat → Env' → Prop, I 0 e ∧
      (∀ i env' v' d', ds[i]? = some d' → I i env' → EX K β W ts (env'.set j (.val v' d')) { P with nx := I (i + 1), ct := I (i + 1), bk := P.nx }) ∧ (∀ env', I ds.length env' → P.nx env')) :
    EX K β W (tFor (iList K tl) (gName j) ts) env P := fun σ G H g0 Dn c x =>
  hI σ G H g0 _ fun v d e G1 H1 g1 t1 e1 dv p1 => by
    obtain ⟨ds, rfl, I, h0, hs, hd⟩ := hl v d e p1
    obtain ⟨a, xs, rfl, ga, hx⟩ := dv.lstV
    exact ⟨a, rfl, ⟨xs, .of (g1.gh _ _ ga)⟩, for_core I g1 hx (itv_list ga) h0 (fun i env' v d h1 h2 => ⟨_, eg_name, fun env2 z => by subst z; exact hs i env' v d h1 h2⟩) hd (c.up t1.gg) (x.up t1.gg)⟩
theorem ex_forXLS {tl : TE} {j : Nat} {P1 : V → D → Env' → Prop} (N : Env' → Prop) (hI : XE K β tl env P1) (hl : ∀ v d e, P1 v d e → ∃ ds, d = .lst ds ∧ ∃ I : Nat → Env' → Prop, I 0 e ∧
      (∀ i env' v' d', ds[i]? = some d' → I i env' → EX K β W ts (env'.set j (.val v' d')) { P with nx := I (i + 1), ct := I (i + 1), bk := fun _ => False }) ∧ (∀ env', I ds.length env' → N env'))
    (hd : ∀ env', N env' → EX K β W tr env' P) : EX K β W (tSeq (tFor (iList K tl) (gName j) ts) tr) env P :=
  ex_seq (N := N) (ex_forXL hI fun v d e p1 => by
    obtain ⟨ds, h1, I, h2, h3, h4⟩ := hl v d e p1
    exact ⟨ds, h1, I, h2, fun i env' v' d' q1 q2 => (h3 i env' v' d' q1 q2).imp (fun _ h => h) (fun _ _ _ h => h) (fun _ h => h.elim) (fun _ h => h) fun _ _ _ _ h => h, h4⟩) hd
/-- xs[k:] -/
theorem ev_slFrom {ds : List D} {k : Nat} (h : EV K β te env (.lst ds)) (hk : k ≤ ds.length) : EV K β (tSl (rSlL K) te (tPart (tC (.int (k : Nat)))) tNoPart) env (.lst (ds.drop k)) := fun σ G H g Q q =>
  h σ G H g _ fun v G1 H1 t1 dv => by
    obtain ⟨a, xs, rfl, ga, hx⟩ := dv.lstV
    refine ⟨(k : Nat), rfl, a, xs, rfl, .of (t1.gh _ _ ga), fun p hp => ?_⟩
    have hc : cutV xs (some ((k : Nat) : Int)) none = xs.drop k := by
      unfold cutV
      rw [HT.sIx_nat, HT.sIx_none, Nat.min_eq_left (by rw [hx.length]; exact hk), List.take_of_length_le (by rw [List.length_drop]; omega)]
    rw [hc]
    exact q _ (upd G1 p (.lst (xs.drop k))) _ (t1.trans (.new t1.gh hp)) (.lst upd_same ((hx.drop k).up (.new (t1.gh.back hp))))
theorem evv_intV {i : Int} (h : EV K β te env (.int i)) : EVv K β te env (.int i) (.int i) := fun σ G H g Q q => h σ G H g _ fun v G1 H1 t1 dv => by
  obtain rfl := dv.intV
  exact q G1 H1 t1 (.int i)
theorem XA.imp {ta : TA} {P P' : List V → List D → Env' → Prop} (h : XA K β ta env P) (i : ∀ v d e, P v d e → P' v d e) : XA K β ta env P' := fun σ G H g Q q => h σ G H g Q fun v d env' G' H' g' t e dv p => q v d env' G' H' g' t e dv (i _ _ _ p)
theorem xa_nilP {P : List V → List D → Env' → Prop} (h : P [] [] env) : XA K β tNil env P := fun σ G H g Q q => q [] [] env G H g (.refl g.gh) rfl .nil h
theorem op_neDNil : True := trivial
end
end DL

set_option Elab.async false
set_option linter.all false
set_option maxRecDepth 100000
set_option maxHeartbeats 2000000
namespace Kx
open PySem PySem.Spec PyProof.Rows L2 DL
def topS (i : Nat) : Stmt := PySem.Challenge.pw_semigroupbench_k07_simple_semigroups.main.body.getD i (.Pass ⟨0, 0, 0, 0⟩)
abbrev s_is_integer : Stmt := topS 5
abbrev n_is_integer : List Str := ["value"]
abbrev p_is_integer : List Str := ["value"]
theorem sc_is_integer : FnScope n_is_integer p_is_integer (defScope s_is_integer) := ⟨rfl, rfl, rfl, by decide +kernel, rfl, by decide +kernel, by decide +kernel⟩
abbrev s_is_within : Stmt := topS 6
abbrev n_is_within : List Str := ["value", "low", "high"]
abbrev p_is_within : List Str := ["value", "low", "high"]
theorem sc_is_within : FnScope n_is_within p_is_within (defScope s_is_within) := ⟨rfl, rfl, rfl, by decide +kernel, rfl, by decide +kernel, by decide +kernel⟩
abbrev s_check_many : Stmt := topS 9
abbrev n_check_many : List Str := ["many"]
abbrev p_check_many : List Str := ["many"]
theorem sc_check_many : FnScope n_check_many p_check_many (defScope s_check_many) := ⟨rfl, rfl, rfl, by decide +kernel, rfl, by decide +kernel, by decide +kernel⟩
abbrev s_check_counts : Stmt := topS 10
abbrev n_check_counts : List Str := ["one", "other", "number"]
abbrev p_check_counts : List Str := ["one", "other"]
theorem sc_check_counts : FnScope n_check_counts p_check_counts (defScope s_check_counts) := ⟨rfl, rfl, rfl, by decide +kernel, rfl, by decide +kernel, by decide +kernel⟩
abbrev s_check_size : Stmt := topS 11
abbrev n_check_size : List Str := ["number"]
abbrev p_check_size : List Str := ["number"]
theorem sc_check_size : FnScope n_check_size p_check_size (defScope s_check_size) := ⟨rfl, rfl, rfl, by decide +kernel, rfl, by decide +kernel, by decide +kernel⟩
abbrev s_left_zeros : Stmt := topS 12
abbrev n_left_zeros : List Str := ["many", "x"]
abbrev p_left_zeros : List Str := ["many"]
theorem sc_left_zeros : FnScope n_left_zeros p_left_zeros (defScope s_left_zeros) := ⟨rfl, rfl, rfl, by decide +kernel, rfl, by decide +kernel, by decide +kernel⟩
abbrev s_right_zeros : Stmt := topS 13
abbrev n_right_zeros : List Str := ["many"]
abbrev p_right_zeros : List Str := ["many"]
theorem sc_right_zeros : FnScope n_right_zeros p_right_zeros (defScope s_right_zeros) := ⟨rfl, rfl, rfl, by decide +kernel, rfl, by decide +kernel, by decide +kernel⟩
abbrev s_null : Stmt := topS 14
abbrev n_null : List Str := ["many"]
abbrev p_null : List Str := ["many"]
theorem sc_null : FnScope n_null p_null (defScope s_null) := ⟨rfl, rfl, rfl, by decide +kernel, rfl, by decide +kernel, by decide +kernel⟩
abbrev s_lowest : Stmt := topS 15
abbrev n_lowest : List Str := ["many", "y", "x"]
abbrev p_lowest : List Str := ["many"]
theorem sc_lowest : FnScope n_lowest p_lowest (defScope s_lowest) := ⟨rfl, rfl, rfl, by decide +kernel, rfl, by decide +kernel, by decide +kernel⟩
abbrev s_clock : Stmt := topS 16
abbrev n_clock : List Str := ["many", "y", "x"]
abbrev p_clock : List Str := ["many"]
theorem sc_clock : FnScope n_clock p_clock (defScope s_clock) := ⟨rfl, rfl, rfl, by decide +kernel, rfl, by decide +kernel, by decide +kernel⟩
abbrev s_power_at : Stmt := topS 17
abbrev n_power_at : List Str := ["index", "period", "k"]
abbrev p_power_at : List Str := ["index", "period", "k"]
theorem sc_power_at : FnScope n_power_at p_power_at (defScope s_power_at) := ⟨rfl, rfl, rfl, by decide +kernel, rfl, by decide +kernel, by decide +kernel⟩
abbrev s_monogenic : Stmt := topS 18
abbrev n_monogenic : List Str := ["index", "period", "many", "y", "x"]
abbrev p_monogenic : List Str := ["index", "period"]
theorem sc_monogenic : FnScope n_monogenic p_monogenic (defScope s_monogenic) := ⟨rfl, rfl, rfl, by decide +kernel, rfl, by decide +kernel, by decide +kernel⟩
abbrev s_rectangle : Stmt := topS 19
abbrev n_rectangle : List Str := ["left", "right", "many", "y", "x"]
abbrev p_rectangle : List Str := ["left", "right"]
theorem sc_rectangle : FnScope n_rectangle p_rectangle (defScope s_rectangle) := ⟨rfl, rfl, rfl, by decide +kernel, rfl, by decide +kernel, by decide +kernel⟩
abbrev s_law_cell : Stmt := topS 21
abbrev n_law_cell : List Str := ["script", "k"]
abbrev p_law_cell : List Str := ["script", "k"]
theorem sc_law_cell : FnScope n_law_cell p_law_cell (defScope s_law_cell) := ⟨rfl, rfl, rfl, by decide +kernel, rfl, by decide +kernel, by decide +kernel⟩
abbrev s_law_box : Stmt := topS 22
abbrev n_law_box : List Str := ["great"]
abbrev p_law_box : List Str := ["great"]
theorem sc_law_box : FnScope n_law_box p_law_box (defScope s_law_box) := ⟨rfl, rfl, rfl, by decide +kernel, rfl, by decide +kernel, by decide +kernel⟩
abbrev s_law_take : Stmt := topS 23
abbrev n_law_take : List Str := ["box", "many", "digit", "mixed"]
abbrev p_law_take : List Str := ["box", "many"]
theorem sc_law_take : FnScope n_law_take p_law_take (defScope s_law_take) := ⟨rfl, rfl, rfl, by decide +kernel, rfl, by decide +kernel, by decide +kernel⟩
abbrev s_law_same : Stmt := topS 24
abbrev n_law_same : List Str := ["given", "due", "key", "k"]
abbrev p_law_same : List Str := ["given", "due"]
theorem sc_law_same : FnScope n_law_same p_law_same (defScope s_law_same) := ⟨rfl, rfl, rfl, by decide +kernel, rfl, by decide +kernel, by decide +kernel⟩
abbrev s_law_broken : Stmt := topS 25
abbrev n_law_broken : List Str := ["table", "many", "found", "x", "y", "z"]
abbrev p_law_broken : List Str := ["table"]
theorem sc_law_broken : FnScope n_law_broken p_law_broken (defScope s_law_broken) := ⟨rfl, rfl, rfl, by decide +kernel, rfl, by decide +kernel, by decide +kernel⟩
abbrev s_law_same_object : Stmt := topS 26
abbrev n_law_same_object : List Str := ["told", "value", "right"]
abbrev p_law_same_object : List Str := ["told", "value"]
theorem sc_law_same_object : FnScope n_law_same_object p_law_same_object (defScope s_law_same_object) := ⟨rfl, rfl, rfl, by decide +kernel, rfl, by decide +kernel, by decide +kernel⟩
abbrev s_law_copy : Stmt := topS 27
abbrev n_law_copy : List Str := ["value"]
abbrev p_law_copy : List Str := ["value"]
theorem sc_law_copy : FnScope n_law_copy p_law_copy (defScope s_law_copy) := ⟨rfl, rfl, rfl, by decide +kernel, rfl, by decide +kernel, by decide +kernel⟩
abbrev s_law_refusals_right : Stmt := topS 28
abbrev n_law_refusals_right : List Str := ["box", "rows", "named", "word", "good", "errors", "wrong", "at", "args", "later", "k", "told"]
abbrev p_law_refusals_right : List Str := ["box", "rows", "named"]
theorem sc_law_refusals_right : FnScope n_law_refusals_right p_law_refusals_right (defScope s_law_refusals_right) := ⟨rfl, rfl, rfl, by decide +kernel, rfl, by decide +kernel, by decide +kernel⟩
abbrev s_law_twice : Stmt := topS 29
abbrev n_law_twice : List Str := ["word", "args", "due", "named", "turn", "told"]
abbrev p_law_twice : List Str := ["word", "args", "due", "named"]
theorem sc_law_twice : FnScope n_law_twice p_law_twice (defScope s_law_twice) := ⟨rfl, rfl, rfl, by decide +kernel, rfl, by decide +kernel, by decide +kernel⟩
abbrev s_law_done : Stmt := topS 30
abbrev n_law_done : List Str := ["word", "args", "named", "door"]
abbrev p_law_done : List Str := ["word", "args", "named"]
theorem sc_law_done : FnScope n_law_done p_law_done (defScope s_law_done) := ⟨rfl, rfl, rfl, by decide +kernel, rfl, by decide +kernel, by decide +kernel⟩
abbrev s_law_asked : Stmt := topS 31
abbrev n_law_asked : List Str := ["word", "args", "named", "e"]
abbrev p_law_asked : List Str := ["word", "args", "named"]
theorem sc_law_asked : FnScope n_law_asked p_law_asked (defScope s_law_asked) := ⟨rfl, rfl, rfl, by decide +kernel, rfl, by decide +kernel, by decide +kernel⟩
abbrev s_law_item : Stmt := topS 32
abbrev n_law_item : List Str := ["word", "many", "x", "y"]
abbrev p_law_item : List Str := ["word", "many", "x", "y"]
theorem sc_law_item : FnScope n_law_item p_law_item (defScope s_law_item) := ⟨rfl, rfl, rfl, by decide +kernel, rfl, by decide +kernel, by decide +kernel⟩
abbrev s_law_of_powers : Stmt := topS 33
abbrev n_law_of_powers : List Str := ["index", "period", "many", "found", "x", "row", "y", "now"]
abbrev p_law_of_powers : List Str := ["index", "period"]
theorem sc_law_of_powers : FnScope n_law_of_powers p_law_of_powers (defScope s_law_of_powers) := ⟨rfl, rfl, rfl, by decide +kernel, rfl, by decide +kernel, by decide +kernel⟩
abbrev s_law_of_pairs : Stmt := topS 34
abbrev n_law_of_pairs : List Str := ["left", "right", "pairs", "i", "j", "other", "one"]
abbrev p_law_of_pairs : List Str := ["left", "right"]
theorem sc_law_of_pairs : FnScope n_law_of_pairs p_law_of_pairs (defScope s_law_of_pairs) := ⟨rfl, rfl, rfl, by decide +kernel, rfl, by decide +kernel, by decide +kernel⟩
abbrev s_law : Stmt := topS 35
abbrev n_law : List Str := ["script", "k", "box", "named", "word", "many", "due", "turn", "index", "period", "told", "left", "right", "great", "odd", "wrong", "rows", "y", "x"]
abbrev p_law : List Str := ["script"]
theorem sc_law : FnScope n_law p_law (defScope s_law) := ⟨rfl, rfl, rfl, by decide +kernel, rfl, by decide +kernel, by decide +kernel⟩
abbrev si_InvalidNumber : Stmt := inClass (topS 2) 0
theorem sci_InvalidNumber : FnScope ["self", "given"] ["self", "given"] (defScope si_InvalidNumber) := ⟨rfl, rfl, rfl, by decide +kernel, rfl, by decide +kernel, by decide +kernel⟩
abbrev si_TooMany : Stmt := inClass (topS 3) 0
theorem sci_TooMany : FnScope ["self", "number"] ["self", "number"] (defScope si_TooMany) := ⟨rfl, rfl, rfl, by decide +kernel, rfl, by decide +kernel, by decide +kernel⟩
/-- what the top has left: the defs, the classes, the names -/
structure Tx (K : PySem.W.Frag) (mg : Str → Option Value) where
  f_is_integer : Addr
  d_is_integer : FuncData
  F_is_integer : Fun K "is_integer" "is_integer" s_is_integer f_is_integer d_is_integer
  g_is_integer : mg "is_integer" = some (.ref f_is_integer)
  b_is_integer : Binds K d_is_integer p_is_integer []
  f_is_within : Addr
  d_is_within : FuncData
  F_is_within : Fun K "is_within" "is_within" s_is_within f_is_within d_is_within
  g_is_within : mg "is_within" = some (.ref f_is_within)
  b_is_within : Binds K d_is_within p_is_within []
  f_check_many : Addr
  d_check_many : FuncData
  F_check_many : Fun K "check_many" "check_many" s_check_many f_check_many d_check_many
  g_check_many : mg "check_many" = some (.ref f_check_many)
  b_check_many : Binds K d_check_many p_check_many []
  f_check_counts : Addr
  d_check_counts : FuncData
  F_check_counts : Fun K "check_counts" "check_counts" s_check_counts f_check_counts d_check_counts
  g_check_counts : mg "check_counts" = some (.ref f_check_counts)
  b_check_counts : Binds K d_check_counts p_check_counts []
  f_check_size : Addr
  d_check_size : FuncData
  F_check_size : Fun K "check_size" "check_size" s_check_size f_check_size d_check_size
  g_check_size : mg "check_size" = some (.ref f_check_size)
  b_check_size : Binds K d_check_size p_check_size []
  f_left_zeros : Addr
  d_left_zeros : FuncData
  F_left_zeros : Fun K "left_zeros" "left_zeros" s_left_zeros f_left_zeros d_left_zeros
  g_left_zeros : mg "left_zeros" = some (.ref f_left_zeros)
  b_left_zeros : Binds K d_left_zeros p_left_zeros []
  kb_left_zeros : KBinds K d_left_zeros p_left_zeros ["many"] (fun us ws => match us, ws with | [], [a0] => [a0] | _, _ => []) (fun us ws => match us, ws with | [], [a0] => [a0] | _, _ => [])
  f_right_zeros : Addr
  d_right_zeros : FuncData
  F_right_zeros : Fun K "right_zeros" "right_zeros" s_right_zeros f_right_zeros d_right_zeros
  g_right_zeros : mg "right_zeros" = some (.ref f_right_zeros)
  b_right_zeros : Binds K d_right_zeros p_right_zeros []
  kb_right_zeros : KBinds K d_right_zeros p_right_zeros ["many"] (fun us ws => match us, ws with | [], [a0] => [a0] | _, _ => []) (fun us ws => match us, ws with | [], [a0] => [a0] | _, _ => [])
  f_null : Addr
  d_null : FuncData
  F_null : Fun K "null" "null" s_null f_null d_null
  g_null : mg "null" = some (.ref f_null)
  b_null : Binds K d_null p_null []
  kb_null : KBinds K d_null p_null ["many"] (fun us ws => match us, ws with | [], [a0] => [a0] | _, _ => []) (fun us ws => match us, ws with | [], [a0] => [a0] | _, _ => [])
  f_lowest : Addr
  d_lowest : FuncData
  F_lowest : Fun K "lowest" "lowest" s_lowest f_lowest d_lowest
  g_lowest : mg "lowest" = some (.ref f_lowest)
  b_lowest : Binds K d_lowest p_lowest []
  kb_lowest : KBinds K d_lowest p_lowest ["many"] (fun us ws => match us, ws with | [], [a0] => [a0] | _, _ => []) (fun us ws => match us, ws with | [], [a0] => [a0] | _, _ => [])
  f_clock : Addr
  d_clock : FuncData
  F_clock : Fun K "clock" "clock" s_clock f_clock d_clock
  g_clock : mg "clock" = some (.ref f_clock)
  b_clock : Binds K d_clock p_clock []
  kb_clock : KBinds K d_clock p_clock ["many"] (fun us ws => match us, ws with | [], [a0] => [a0] | _, _ => []) (fun us ws => match us, ws with | [], [a0] => [a0] | _, _ => [])
  f_power_at : Addr
  d_power_at : FuncData
  F_power_at : Fun K "power_at" "power_at" s_power_at f_power_at d_power_at
  g_power_at : mg "power_at" = some (.ref f_power_at)
  b_power_at : Binds K d_power_at p_power_at []
  f_monogenic : Addr
  d_monogenic : FuncData
  F_monogenic : Fun K "monogenic" "monogenic" s_monogenic f_monogenic d_monogenic
  g_monogenic : mg "monogenic" = some (.ref f_monogenic)
  b_monogenic : Binds K d_monogenic p_monogenic []
  kb_monogenic : KBinds K d_monogenic p_monogenic ["period", "index"] (fun us ws => match us, ws with | [], [a0, a1] => [a1, a0] | _, _ => []) (fun us ws => match us, ws with | [], [a0, a1] => [a1, a0] | _, _ => [])
  f_rectangle : Addr
  d_rectangle : FuncData
  F_rectangle : Fun K "rectangle" "rectangle" s_rectangle f_rectangle d_rectangle
  g_rectangle : mg "rectangle" = some (.ref f_rectangle)
  b_rectangle : Binds K d_rectangle p_rectangle []
  kb_rectangle : KBinds K d_rectangle p_rectangle ["right", "left"] (fun us ws => match us, ws with | [], [a0, a1] => [a1, a0] | _, _ => []) (fun us ws => match us, ws with | [], [a0, a1] => [a1, a0] | _, _ => [])
  f_law_cell : Addr
  d_law_cell : FuncData
  F_law_cell : Fun K "_law_cell" "_law_cell" s_law_cell f_law_cell d_law_cell
  g_law_cell : mg "_law_cell" = some (.ref f_law_cell)
  b_law_cell : Binds K d_law_cell p_law_cell []
  f_law_box : Addr
  d_law_box : FuncData
  F_law_box : Fun K "_law_box" "_law_box" s_law_box f_law_box d_law_box
  g_law_box : mg "_law_box" = some (.ref f_law_box)
  b_law_box : Binds K d_law_box p_law_box []
  f_law_take : Addr
  d_law_take : FuncData
  F_law_take : Fun K "_law_take" "_law_take" s_law_take f_law_take d_law_take
  g_law_take : mg "_law_take" = some (.ref f_law_take)
  b_law_take : Binds K d_law_take p_law_take []
  f_law_same : Addr
  d_law_same : FuncData
  F_law_same : Fun K "_law_same" "_law_same" s_law_same f_law_same d_law_same
  g_law_same : mg "_law_same" = some (.ref f_law_same)
  b_law_same : Binds K d_law_same p_law_same []
  f_law_broken : Addr
  d_law_broken : FuncData
  F_law_broken : Fun K "_law_broken" "_law_broken" s_law_broken f_law_broken d_law_broken
  g_law_broken : mg "_law_broken" = some (.ref f_law_broken)
  b_law_broken : Binds K d_law_broken p_law_broken []
  f_law_same_object : Addr
  d_law_same_object : FuncData
  F_law_same_object : Fun K "_law_same_object" "_law_same_object" s_law_same_object f_law_same_object d_law_same_object
  g_law_same_object : mg "_law_same_object" = some (.ref f_law_same_object)
  b_law_same_object : Binds K d_law_same_object p_law_same_object []
  f_law_copy : Addr
  d_law_copy : FuncData
  F_law_copy : Fun K "_law_copy" "_law_copy" s_law_copy f_law_copy d_law_copy
  g_law_copy : mg "_law_copy" = some (.ref f_law_copy)
  b_law_copy : Binds K d_law_copy p_law_copy []
  f_law_refusals_right : Addr
  d_law_refusals_right : FuncData
  F_law_refusals_right : Fun K "_law_refusals_right" "_law_refusals_right" s_law_refusals_right f_law_refusals_right d_law_refusals_right
  g_law_refusals_right : mg "_law_refusals_right" = some (.ref f_law_refusals_right)
  b_law_refusals_right : Binds K d_law_refusals_right p_law_refusals_right []
  f_law_twice : Addr
  d_law_twice : FuncData
  F_law_twice : Fun K "_law_twice" "_law_twice" s_law_twice f_law_twice d_law_twice
  g_law_twice : mg "_law_twice" = some (.ref f_law_twice)
  b_law_twice : Binds K d_law_twice p_law_twice []
  f_law_done : Addr
  d_law_done : FuncData
  F_law_done : Fun K "_law_done" "_law_done" s_law_done f_law_done d_law_done
  g_law_done : mg "_law_done" = some (.ref f_law_done)
  b_law_done : Binds K d_law_done p_law_done []
  f_law_asked : Addr
  d_law_asked : FuncData
  F_law_asked : Fun K "_law_asked" "_law_asked" s_law_asked f_law_asked d_law_asked
  g_law_asked : mg "_law_asked" = some (.ref f_law_asked)
  b_law_asked : Binds K d_law_asked p_law_asked []
  f_law_item : Addr
  d_law_item : FuncData
  F_law_item : Fun K "_law_item" "_law_item" s_law_item f_law_item d_law_item
  g_law_item : mg "_law_item" = some (.ref f_law_item)
  b_law_item : Binds K d_law_item p_law_item []
  f_law_of_powers : Addr
  d_law_of_powers : FuncData
  F_law_of_powers : Fun K "_law_of_powers" "_law_of_powers" s_law_of_powers f_law_of_powers d_law_of_powers
  g_law_of_powers : mg "_law_of_powers" = some (.ref f_law_of_powers)
  b_law_of_powers : Binds K d_law_of_powers p_law_of_powers []
  f_law_of_pairs : Addr
  d_law_of_pairs : FuncData
  F_law_of_pairs : Fun K "_law_of_pairs" "_law_of_pairs" s_law_of_pairs f_law_of_pairs d_law_of_pairs
  g_law_of_pairs : mg "_law_of_pairs" = some (.ref f_law_of_pairs)
  b_law_of_pairs : Binds K d_law_of_pairs p_law_of_pairs []
  f_law : Addr
  d_law : FuncData
  F_law : Fun K "law" "law" s_law f_law d_law
  g_law : mg "law" = some (.ref f_law)
  b_law : Binds K d_law p_law []
  c_SemigroupError : Addr
  gc_SemigroupError : mg "SemigroupError" = some (.ref c_SemigroupError)
  sem : SemC K mg c_SemigroupError
  c_InvalidNumber : Addr
  gc_InvalidNumber : mg "InvalidNumber" = some (.ref c_InvalidNumber)
  i_InvalidNumber : Addr
  di_InvalidNumber : FuncData
  Fi_InvalidNumber : Fun K "__init__" "InvalidNumber.__init__" si_InvalidNumber i_InvalidNumber di_InvalidNumber
  bi_InvalidNumber : Binds K di_InvalidNumber ["self", "given"] []
  e_InvalidNumber : ErrC K mg "InvalidNumber" "given" c_InvalidNumber i_InvalidNumber
  c_TooMany : Addr
  gc_TooMany : mg "TooMany" = some (.ref c_TooMany)
  i_TooMany : Addr
  di_TooMany : FuncData
  Fi_TooMany : Fun K "__init__" "TooMany.__init__" si_TooMany i_TooMany di_TooMany
  bi_TooMany : Binds K di_TooMany ["self", "number"] []
  e_TooMany : ErrC K mg "TooMany" "number" c_TooMany i_TooMany
  x_InvalidNumber_SemigroupError : PySem.W.exmOne K (.ref c_InvalidNumber) (.ref c_SemigroupError) = some true
  y_InvalidNumber : PySem.W.kitOne K (.ref c_InvalidNumber) (.ref c_SemigroupError) = some true
  x_InvalidNumber_InvalidNumber : PySem.W.exmOne K (.ref c_InvalidNumber) (.ref c_InvalidNumber) = some true
  x_InvalidNumber_TooMany : PySem.W.exmOne K (.ref c_InvalidNumber) (.ref c_TooMany) = some false
  x_TooMany_SemigroupError : PySem.W.exmOne K (.ref c_TooMany) (.ref c_SemigroupError) = some true
  y_TooMany : PySem.W.kitOne K (.ref c_TooMany) (.ref c_SemigroupError) = some true
  x_TooMany_InvalidNumber : PySem.W.exmOne K (.ref c_TooMany) (.ref c_InvalidNumber) = some false
  x_TooMany_TooMany : PySem.W.exmOne K (.ref c_TooMany) (.ref c_TooMany) = some true
  t_MOST_ELEMENTS : Tok
  gg_MOST_ELEMENTS : mg "MOST_ELEMENTS" = some (.int 10 t_MOST_ELEMENTS)
  m_tuple : mg "tuple" = none
  m_isinstance : mg "isinstance" = none
  m_int : mg "int" = none
  m_str : mg "str" = none
  m_dict : mg "dict" = none
  m_range : mg "range" = none
  m_list : mg "list" = none
  m_abs : mg "abs" = none
  m_bool : mg "bool" = none
  m_len : mg "len" = none
  m_min : mg "min" = none
  m_max : mg "max" = none
  m_sum : mg "sum" = none
section
variable {P : Program} {w : World} {K : PySem.W.Frag} {mg : Str → Option Value} {base : Heap}
theorem ok_init_InvalidNumber (T : Tx K mg) : FnOk P w K mg base CX0 1 T.i_InvalidNumber T.di_InvalidNumber ["self", "given"] (spErr K "given") := by
  refine T.Fi_InvalidNumber.ok sci_InvalidNumber (fun vs H Q E h => ?_) (fun cdv A outer s H vs Q E hr h => ?_)
  · obtain ⟨_, _, _, rfl, _⟩ := h; rfl
  · obtain ⟨a, C, v, rfl, hT, nf, ha, q⟩ := h
    refine ⟨_, pss_cons (ps_expr (pe_seinit T.sem (by rfl) (pa_cons (pv 0) (pa_cons pe_str pa_nil)))) (pss_one (ps_ost (pv 0) (pv 1))), ?_⟩
    exact ⟨_, rfl, a, C, _, rfl, by decide, hT, ha, _, rfl, _, rfl, a, C, rfl, hT, nf, .inl ⟨ha, fun dx h1 h2 => q dx h1 h2⟩⟩
theorem ok_init_TooMany (T : Tx K mg) : FnOk P w K mg base CX0 1 T.i_TooMany T.di_TooMany ["self", "number"] (spErr K "number") := by
  refine T.Fi_TooMany.ok sci_TooMany (fun vs H Q E h => ?_) (fun cdv A outer s H vs Q E hr h => ?_)
  · obtain ⟨_, _, _, rfl, _⟩ := h; rfl
  · obtain ⟨a, C, v, rfl, hT, nf, ha, q⟩ := h
    refine ⟨_, pss_cons (ps_expr (pe_seinit T.sem (by rfl) (pa_cons (pv 0) (pa_cons pe_str pa_nil)))) (pss_one (ps_ost (pv 0) (pv 1))), ?_⟩
    exact ⟨_, rfl, a, C, _, rfl, by decide, hT, ha, _, rfl, _, rfl, a, C, rfl, hT, nf, .inl ⟨ha, fun dx h1 h2 => q dx h1 h2⟩⟩
end
section
variable {P : Program} {w : World} {K : PySem.W.Frag} {mg : Str → Option Value} {base : Heap}
/-- data that is an integer and no bool -/
def isIntD (x : D) : Bool := match x.top with
  | .int _ => true
  | _ => false
theorem int_iff {x : D} (h : isIntD x = true) : ∃ i : Int, x.top = .int i := by
  unfold isIntD at h
  cases q : x.top with
  | int i => exact ⟨i, rfl⟩
  | _ => rw [q] at h; cases h
theorem int_inR {x : D} {l h : Int} : (isIntD x && inRg x l h) = inRg x l h := by
  unfold isIntD inRg
  cases x.top <;> simp
theorem ty_int {x : D} {t : String} (e : tyD x = some t) : ∃ b c, kitB t "int" = some b ∧ kitB t "bool" = some c ∧ (b && !c) = isIntD x := by
  rw [← tyD_top] at e
  unfold isIntD
  have nt := top_no (d := x)
  generalize x.top = y at e nt
  cases y with
  | non => cases e; exact ⟨false, false, rfl, rfl, rfl⟩
  | bl _ => cases e; exact ⟨true, true, rfl, rfl, rfl⟩
  | int _ => cases e; exact ⟨true, false, rfl, rfl, rfl⟩
  | str _ => cases e; exact ⟨false, false, rfl, rfl, rfl⟩
  | tup _ => cases e; exact ⟨false, false, rfl, rfl, rfl⟩
  | lst _ => cases e; exact ⟨false, false, rfl, rfl, rfl⟩
  | dct _ => cases e; exact ⟨false, false, rfl, rfl, rfl⟩
  | op _ => cases e
  | idn v d => exact absurd rfl (nt v d)
def R_is_integer : List D → D → Prop
  | [x], d => tyD x ≠ none ∧ d = .bl (isIntD x)
  | _, _ => False
theorem ok_is_integer (T : Tx K mg) : FnOk P w K mg base CX0 1 T.f_is_integer T.d_is_integer p_is_integer (spD K R_is_integer) := by
  refine T.F_is_integer.ok sc_is_integer (fun vs H Q E h => ?_) (fun cdv A outer s H vs Q E hr h => ?_)
  · obtain ⟨G, ds, d, e, hd, hR, q⟩ := h
    rw [hd.length]
    match ds, hR with
    | [_], _ => rfl
  · refine ⟨_, (pss_one (ps_ret (pe_and (pe_callB (call_isiK K) (by rfl) T.m_isinstance (by decide +kernel) (pa_cons (pv 0) (pa_cons (pe_bltn (v := .ty "int") (by rfl) T.m_int (by decide +kernel) rfl) pa_nil))) (pe_one (pe_not (pe_callB (call_isiK K) (by rfl) T.m_isinstance (by decide +kernel) (pa_cons (pv 0) (pa_cons (pe_bltn (v := .ty "bool") (by rfl) T.m_bool (by decide +kernel) rfl) pa_nil)))))))), ?_⟩
    obtain ⟨G, ds, d, e, hd, hR, q⟩ := h
    have hl : ∃ x0, ds = [x0] := by
      match ds, hR with
      | [x0], _ => exact ⟨x0, rfl⟩
    obtain ⟨x0, rfl⟩ := hl
    cases hd with
    | @cons v0 vs0 _ _ dv0 hd =>
    cases hd
    refine EX.fin (W := fun _ _ _ _ => False) (good_start e ((.cons dv0 .nil)) n_is_integer) q ?_
    show EX K ⟨G, H, none⟩ _ _ [Sl.val v0 x0] _
    obtain ⟨h1, rfl⟩ := hR
    obtain ⟨t, ht⟩ := Option.ne_none_iff_exists'.mp h1
    obtain ⟨b, c, hb, hc, hbc⟩ := ty_int ht
    refine ex_ret (ev_is (ev_and (ev_cb (ea_cons (ev_var rfl) (ea_cons ev_c ea_nil)) (cb_isi ht hb)) fun _ => ev_not (ev_cb (ea_cons (ev_var rfl) (ea_cons ev_c ea_nil)) (cb_isi ht hc))) (by rw [hbc])) fun v => rfl
def R_is_within : List D → D → Prop
  | [x, l, h], d => ∃ i j : Int, l = .int i ∧ h = .int j ∧ tyD x ≠ none ∧ d = .bl (inRg x i j)
  | _, _ => False
theorem ok_is_within (T : Tx K mg) : FnOk P w K mg base CX0 2 T.f_is_within T.d_is_within p_is_within (spD K R_is_within) := by
  refine T.F_is_within.ok sc_is_within (fun vs H Q E h => ?_) (fun cdv A outer s H vs Q E hr h => ?_)
  · obtain ⟨G, ds, d, e, hd, hR, q⟩ := h
    rw [hd.length]
    match ds, hR with
    | [_, _, _], _ => rfl
  · refine ⟨_, (pss_one (ps_ret (pe_and (pe_call (ok_is_integer T) (hr.mono (by omega)) (by rfl) T.g_is_integer T.F_is_integer.kp T.b_is_integer .nil pass0 (pa_cons (pv 0) pa_nil)) (pe_one (pe_chain op_le op_le (pv 1) (pv 0) (pv 2)))))), ?_⟩
    obtain ⟨G, ds, d, e, hd, hR, q⟩ := h
    have hl : ∃ x0 x1 x2, ds = [x0, x1, x2] := by
      match ds, hR with
      | [x0, x1, x2], _ => exact ⟨x0, x1, x2, rfl⟩
    obtain ⟨x0, x1, x2, rfl⟩ := hl
    cases hd with
    | @cons v0 vs0 _ _ dv0 hd =>
    cases hd with
    | @cons v1 vs1 _ _ dv1 hd =>
    cases hd with
    | @cons v2 vs2 _ _ dv2 hd =>
    cases hd
    refine EX.fin (W := fun _ _ _ _ => False) (good_start e ((.cons dv0 (.cons dv1 (.cons dv2 .nil)))) n_is_within) q ?_
    show EX K ⟨G, H, none⟩ _ _ [Sl.val v0 x0, Sl.val v1 x1, Sl.val v2 x2] _
    obtain ⟨l, h, rfl, rfl, h1, rfl⟩ := hR
    refine ex_ret (ev_is (ev_and (ev_call (ea_cons (ev_var rfl) ea_nil) ⟨h1, rfl⟩) (b := inRg x0 l h) fun hb => ?_) (by rw [int_inR])) fun v => rfl
    obtain ⟨i, hi⟩ := int_iff hb
    refine ev_is (ev_chain (ev_var rfl) (ev_tp (ev_var rfl) hi) op_leI (fun _ => ev_var rfl) (fun _ => op_leI)) ?_
    unfold inRg
    rw [hi]
def R_check_many : List D → D → Prop
  | [x], d => tyD x ≠ none ∧ inRg x 1 10 = true ∧ d = .non
  | _, _ => False
def E_check_many (T : Tx K mg) (vs : List V) : List D → Value → Str → V → Prop
  | [x], c, f, u => tyD x ≠ none ∧ inRg x 1 10 = false ∧ c = .ref T.c_InvalidNumber ∧ f = "given" ∧ vs = [u]
  | _, _, _, _ => False
theorem ok_check_many (T : Tx K mg) : FnOk P w K mg base (L2.CX P w) 3 T.f_check_many T.d_check_many p_check_many (spX K R_check_many (E_check_many T)) := by
  refine T.F_check_many.okX sc_check_many (fun vs H Q E h => ?_) (fun cdv A outer s H vs Q E hr h => ?_)
  · obtain ⟨G, ds, e, hd, hR | hR⟩ := h
    · rw [hd.length]; obtain ⟨d, hR, q⟩ := hR
      match ds, hR with
      | [_], _ => rfl
    · rw [hd.length]; obtain ⟨c, f, v, hR, q⟩ := hR
      match ds, hR with
      | [_], _ => rfl
  · have tk : Takes (cxOf (L2.CX P w) P w K mg base n_check_many "check_many" (defScope s_check_many) T.f_check_many cdv A outer s H E) (fun cls d _ H => E cls d H) := takes_of rfl rfl rfl rfl
    have hpass : PassesOwn _ _ _ (cxOf (L2.CX P w) P w K mg base n_check_many "check_many" (defScope s_check_many) T.f_check_many cdv A outer s H E).xe := passes_of (X := cxOf (L2.CX P w) P w K mg base n_check_many "check_many" (defScope s_check_many) T.f_check_many cdv A outer s H E) rfl
    refine ⟨_, (pss_one (ps_if (pt_not (pt_val (pe_call (ok_is_within T) (hr.mono (by omega)) (by rfl) T.g_is_within T.F_is_within.kp T.b_is_within .nil pass0 (pa_cons (pv 0) (pa_cons pe_int (pa_cons (pe_glob (v := .int 10) (by rfl) T.gg_MOST_ELEMENTS ⟨_, rfl⟩) pa_nil)))))) (pss_one (ps_raise rfl tk (pmk_oex T.e_InvalidNumber.oe T.e_InvalidNumber.iC T.e_InvalidNumber.tI (ok_init_InvalidNumber T) (hr.mono (by omega)) T.bi_InvalidNumber .nil pass0 (by rfl) T.e_InvalidNumber.gC (pa_cons (pv 0) pa_nil)))) pss_nil)), ?_⟩
    obtain ⟨G, ds, e, hd, hh⟩ := h
    have hl : ∃ x0, ds = [x0] := by
      rcases hh with ⟨d, hR, _⟩ | ⟨c, f, v, hR, _⟩
      · match ds, hR with
        | [x0], _ => exact ⟨x0, rfl⟩
      · match ds, hR with
        | [x0], _ => exact ⟨x0, rfl⟩
    obtain ⟨x0, rfl⟩ := hl
    cases hd with
    | @cons v0 vs0 _ _ dv0 hd =>
    cases hd
    refine EX.finX (good_start e ((.cons dv0 .nil)) n_check_many) (hh.imp (fun ⟨d, hR, q⟩ => ⟨d, q, ?_⟩) fun ⟨cls, f, v, hE, q⟩ => ⟨cls, f, v, q, ?_⟩) <;> show EX K ⟨G, H, none⟩ _ _ [Sl.val v0 x0] _
    · obtain ⟨h1, h2, rfl⟩ := hR
      exact ex_if (et_not (et_B (ev_call (ea_cons (ev_var rfl) (ea_cons ev_int (ea_cons ev_int ea_nil))) ⟨1, 10, rfl, rfl, h1, rfl⟩))) (fun h => by rw [h2] at h; cases h) fun _ => ex_next rfl
    · obtain ⟨h1, h2, rfl, rfl, hv⟩ := hE
      obtain rfl := (List.cons.inj hv).1
      exact ex_if (et_not (et_B (ev_call (ea_cons (ev_var rfl) (ea_cons ev_int (ea_cons ev_int ea_nil))) ⟨1, 10, rfl, rfl, h1, rfl⟩))) (fun _ => ex_raise (eav_cons (evv_var rfl) eav_nil) T.e_InvalidNumber.oe T.e_InvalidNumber.nf ⟨rfl, rfl, rfl⟩) fun h => by rw [h2] at h; cases h
end
end Kx


set_option Elab.async false
set_option linter.all false
set_option maxRecDepth 100000
set_option maxHeartbeats 2000000
namespace Kx
open PySem PySem.Spec PyProof.Rows L2 DL
section
variable {P : Program} {w : World} {K : PySem.W.Frag} {mg : Str → Option Value} {base : Heap}
theorem ty_of_top {x : D} {i : Int} (h : x.top = .int i) : tyD x ≠ none := by rw [← tyD_top, h]; exact (fun e => nomatch e)
/-- a number of at least one, and no bool -/
def pos1 (x : D) : Bool := match x.top with
  | .int i => decide (1 ≤ i)
  | _ => false
theorem pos1_iff {x : D} (h : pos1 x = true) : ∃ i : Int, x.top = .int i ∧ 1 ≤ i := by
  unfold pos1 at h
  cases q : x.top with
  | int i => rw [q] at h; exact ⟨i, rfl, of_decide_eq_true h⟩
  | _ => rw [q] at h; cases h
theorem pos1_of {x : D} {i : Int} (h : x.top = .int i) (l : 1 ≤ i) : pos1 x = true := by
  unfold pos1
  rw [h]
  exact decide_eq_true l
theorem inRg_of {x : D} {i l h : Int} (e : x.top = .int i) (h1 : l ≤ i) (h2 : i ≤ h) : inRg x l h = true := by
  unfold inRg
  rw [e]
  simp [h1, h2]
def R_check_counts : List D → D → Prop
  | [x, y], d => tyD x ≠ none ∧ tyD y ≠ none ∧ pos1 x = true ∧ pos1 y = true ∧ d = .non
  | _, _ => False
def E_check_counts (T : Tx K mg) (vs : List V) : List D → Value → Str → V → Prop
  | [x, y], c, f, u => ∃ v0 v1, vs = [v0, v1] ∧ tyD x ≠ none ∧ tyD y ≠ none ∧ c = .ref T.c_InvalidNumber ∧ f = "given" ∧ ((pos1 x = false ∧ u = v0) ∨ (pos1 x = true ∧ pos1 y = false ∧ u = v1))
  | _, _, _, _ => False
theorem et_counts {β : Bas} {env : Env'} {E : XK} {v u : V} {x : D} (h : env[2]? = some (.val v (.idn u x))) (ht : tyD x ≠ none) :
    EVT K β (tOr (tNot (tB (tCall (spD K R_is_integer) [] E (tCons (tVar 2) tNil)))) (tTest (tOp (rI0 fun i j => .bl (decide (i < j))) (tVar 2) (tC (.int 1))))) env (!pos1 x) := by
  refine et_is (et_or (b := !pos1 x) (et_not (et_B (ev_call (ea_cons (ev_strip (ev_var h)) ea_nil) ⟨ht, rfl⟩))) fun hb => ?_) ?_
  · obtain ⟨i, hi⟩ := int_iff (x := x) (by cases q : isIntD x with | true => rfl | false => rw [q] at hb; cases hb)
    refine et_test (ev_is (ev_op (ev_tp (ev_strip (ev_var h)) hi) ev_int op_ltI) ?_)
    unfold pos1
    rw [hi]
    show D.bl _ = D.bl (!decide (1 ≤ i))
    by_cases c : 1 ≤ i
    · rw [decide_eq_true c, decide_eq_false (by omega)]; rfl
    · rw [decide_eq_false c, decide_eq_true (by omega)]; rfl
  · unfold isIntD pos1
    cases x.top <;> simp
theorem ok_check_counts (T : Tx K mg) : FnOk P w K mg base (L2.CX P w) 3 T.f_check_counts T.d_check_counts p_check_counts (spX K R_check_counts (E_check_counts T)) := by
  refine T.F_check_counts.okX sc_check_counts (fun vs H Q E h => ?_) (fun cdv A outer s H vs Q E hr h => ?_)
  · obtain ⟨G, ds, e, hd, hR | hR⟩ := h
    · rw [hd.length]; obtain ⟨d, hR, q⟩ := hR
      match ds, hR with
      | [_, _], _ => rfl
    · rw [hd.length]; obtain ⟨c, f, v, hR, q⟩ := hR
      match ds, hR with
      | [_, _], _ => rfl
  · have tk : Takes (cxOf (L2.CX P w) P w K mg base n_check_counts "check_counts" (defScope s_check_counts) T.f_check_counts cdv A outer s H E) (fun cls d _ H => E cls d H) := takes_of rfl rfl rfl rfl
    have hpass : PassesOwn _ _ _ (cxOf (L2.CX P w) P w K mg base n_check_counts "check_counts" (defScope s_check_counts) T.f_check_counts cdv A outer s H E).xe := passes_of (X := cxOf (L2.CX P w) P w K mg base n_check_counts "check_counts" (defScope s_check_counts) T.f_check_counts cdv A outer s H E) rfl
    refine ⟨_, (pss_one (ps_for hpass rfl (pi_tupK K (pe_tup (pa_cons (pv 0) (pa_cons (pv 1) pa_nil)))) (pg_name (i := 2) sc_check_counts.nd rfl (.inl rfl))
      (pss_one (ps_if (PW.pt (pw_or (pt_not (pt_val (pe_call (ok_is_integer T) (hr.mono (by omega)) (by rfl) T.g_is_integer T.F_is_integer.kp T.b_is_integer .nil pass0 (pa_cons (pv 2) pa_nil)))) (pw_or1 (pt_cmpR op_lt (pv 2) pe_int (nomark _))))) (pss_one (ps_raise rfl tk (pmk_oex T.e_InvalidNumber.oe T.e_InvalidNumber.iC T.e_InvalidNumber.tI (ok_init_InvalidNumber T) (hr.mono (by omega)) T.bi_InvalidNumber .nil pass0 (by rfl) T.e_InvalidNumber.gC (pa_cons (pv 2) pa_nil)))) pss_nil)))), ?_⟩
    obtain ⟨G, ds, e, hd, hh⟩ := h
    have hl : ∃ x0 x1, ds = [x0, x1] := by
      rcases hh with ⟨d, hR, _⟩ | ⟨c, f, v, hR, _⟩
      · match ds, hR with
        | [x0, x1], _ => exact ⟨x0, x1, rfl⟩
      · match ds, hR with
        | [x0, x1], _ => exact ⟨x0, x1, rfl⟩
    obtain ⟨x0, x1, rfl⟩ := hl
    cases hd with
    | @cons v0 vs0 _ _ dv0 hd =>
    cases hd with
    | @cons v1 vs1 _ _ dv1 hd =>
    cases hd
    refine EX.finX (good_start e ((.cons dv0 (.cons dv1 .nil))) n_check_counts) (hh.imp (fun ⟨d, hR, q⟩ => ⟨d, q, ?_⟩) fun ⟨cls, f, v, hE, q⟩ => ⟨cls, f, v, q, ?_⟩) <;> show EX K ⟨G, H, none⟩ _ _ [Sl.val v0 x0, Sl.val v1 x1, Sl.un] _
    · obtain ⟨h1, h2, h3, h4, rfl⟩ := hR
      refine ex_forN (ds := [.idn v0 x0, .idn v1 x1]) (fun i env' => ∃ s, env' = [.val v0 x0, .val v1 x1, s]) (ei_tup (ev_tup (ea_cons (ev_idn (evv_var rfl)) (ea_cons (ev_idn (evv_var rfl)) ea_nil)) (sz 2))) ⟨_, rfl⟩ ?_ fun _ _ => rfl
      rintro i env' v d hd ⟨s, rfl⟩
      rcases i with _ | _ | i
      · cases hd
        exact ex_if (et_counts rfl h1) (fun h => by rw [h3] at h; cases h) fun _ => ex_next ⟨_, rfl⟩
      · cases hd
        exact ex_if (et_counts rfl h2) (fun h => by rw [h4] at h; cases h) fun _ => ex_next ⟨_, rfl⟩
      · simp at hd
    · obtain ⟨_, _, hv, h1, h2, rfl, rfl, h3⟩ := hE
      cases hv
      refine ex_forN (ds := [.idn v0 x0, .idn v1 x1]) (fun i env' => (i = 0 ∨ (i = 1 ∧ pos1 x0 = true)) ∧ ∃ s, env' = [.val v0 x0, .val v1 x1, s]) (ei_tup (ev_tup (ea_cons (ev_idn (evv_var rfl)) (ea_cons (ev_idn (evv_var rfl)) ea_nil)) (sz 2))) ⟨.inl rfl, _, rfl⟩ ?_ (fun _ ⟨h, _⟩ => by rcases h with h | h <;> simp at h)
      rintro i env' u d hd ⟨hi, s, rfl⟩
      rcases i with _ | _ | i
      · cases hd
        refine ex_if (et_counts rfl h1) (fun h => ?_) fun h => ex_next ⟨.inr ⟨rfl, by simpa using h⟩, _, rfl⟩
        refine ex_raise (evv_idn (ev_var rfl) |> fun z => eav_cons z eav_nil) T.e_InvalidNumber.oe T.e_InvalidNumber.nf ⟨rfl, rfl, ?_⟩
        rcases h3 with ⟨_, h3⟩ | ⟨h3, _⟩
        · exact h3.symm
        · rw [h3] at h; cases h
      · cases hd
        have hp : pos1 x0 = true := by rcases hi with hi | ⟨_, hi⟩; · cases hi
                                       exact hi
        rcases h3 with ⟨h3, _⟩ | ⟨_, h3, h4⟩
        · rw [hp] at h3; cases h3
        refine ex_if (et_counts rfl h2) (fun h => ?_) fun h => by rw [h3] at h; cases h
        exact ex_raise (evv_idn (ev_var rfl) |> fun z => eav_cons z eav_nil) T.e_InvalidNumber.oe T.e_InvalidNumber.nf ⟨rfl, rfl, h4.symm⟩
      · simp at hd
def R_check_size : List D → D → Prop
  | [x], d => ∃ i : Int, x = .int i ∧ i ≤ 10 ∧ d = .non
  | _, _ => False
def E_check_size (T : Tx K mg) (vs : List V) : List D → Value → Str → V → Prop
  | [x], c, f, u => ∃ i : Int, x = .int i ∧ 10 < i ∧ c = .ref T.c_TooMany ∧ f = "number" ∧ u = .int i
  | _, _, _, _ => False
theorem ok_check_size (T : Tx K mg) : FnOk P w K mg base (L2.CX P w) 3 T.f_check_size T.d_check_size p_check_size (spX K R_check_size (E_check_size T)) := by
  refine T.F_check_size.okX sc_check_size (fun vs H Q E h => ?_) (fun cdv A outer s H vs Q E hr h => ?_)
  · obtain ⟨G, ds, e, hd, hR | hR⟩ := h
    · rw [hd.length]; obtain ⟨d, hR, q⟩ := hR
      match ds, hR with
      | [_], _ => rfl
    · rw [hd.length]; obtain ⟨c, f, v, hR, q⟩ := hR
      match ds, hR with
      | [_], _ => rfl
  · have tk : Takes (cxOf (L2.CX P w) P w K mg base n_check_size "check_size" (defScope s_check_size) T.f_check_size cdv A outer s H E) (fun cls d _ H => E cls d H) := takes_of rfl rfl rfl rfl
    have hpass : PassesOwn _ _ _ (cxOf (L2.CX P w) P w K mg base n_check_size "check_size" (defScope s_check_size) T.f_check_size cdv A outer s H E).xe := passes_of (X := cxOf (L2.CX P w) P w K mg base n_check_size "check_size" (defScope s_check_size) T.f_check_size cdv A outer s H E) rfl
    refine ⟨_, (pss_one (ps_if (pt_cmpR op_gt (pv 0) (pe_glob (v := .int 10) (by rfl) T.gg_MOST_ELEMENTS ⟨_, rfl⟩) (nomark _)) (pss_one (ps_raise rfl tk (pmk_oex T.e_TooMany.oe T.e_TooMany.iC T.e_TooMany.tI (ok_init_TooMany T) (hr.mono (by omega)) T.bi_TooMany .nil pass0 (by rfl) T.e_TooMany.gC (pa_cons (pv 0) pa_nil)))) pss_nil)), ?_⟩
    obtain ⟨G, ds, e, hd, hh⟩ := h
    have hl : ∃ x0, ds = [x0] := by
      rcases hh with ⟨d, hR, _⟩ | ⟨c, f, v, hR, _⟩
      · match ds, hR with
        | [x0], _ => exact ⟨x0, rfl⟩
      · match ds, hR with
        | [x0], _ => exact ⟨x0, rfl⟩
    obtain ⟨x0, rfl⟩ := hl
    cases hd with
    | @cons v0 vs0 _ _ dv0 hd =>
    cases hd
    refine EX.finX (good_start e ((.cons dv0 .nil)) n_check_size) (hh.imp (fun ⟨d, hR, q⟩ => ⟨d, q, ?_⟩) fun ⟨cls, f, v, hE, q⟩ => ⟨cls, f, v, q, ?_⟩) <;> show EX K ⟨G, H, none⟩ _ _ [Sl.val v0 x0] _
    · obtain ⟨i, rfl, h, rfl⟩ := hR
      exact ex_if (et_test (ev_op (ev_var rfl) ev_int op_gtI)) (fun z => absurd (of_decide_eq_true z) (by omega)) fun _ => ex_next rfl
    · obtain ⟨i, rfl, h, rfl, rfl, rfl⟩ := hE
      obtain rfl := dv0.intV
      exact ex_if (et_test (ev_op (ev_var rfl) ev_int op_gtI)) (fun _ => ex_raise (eav_cons (evv_var rfl) eav_nil) T.e_TooMany.oe T.e_TooMany.nf ⟨rfl, rfl, rfl⟩) fun z => absurd (of_decide_eq_false z) (by omega)
def R_tab (F : Nat → Nat → Nat → Nat) : List D → D → Prop
  | [x], d => ∃ n : Nat, 1 ≤ n ∧ n ≤ 10 ∧ x.top = .int n ∧ d = tblD n (F n)
  | _, _ => False
theorem ok_left_zeros (T : Tx K mg) : FnOk P w K mg base (L2.CX P w) 4 T.f_left_zeros T.d_left_zeros p_left_zeros (spX K (R_tab fun _ a _ => a) (E_check_many T)) := by
  refine T.F_left_zeros.okX sc_left_zeros (fun vs H Q E h => ?_) (fun cdv A outer s H vs Q E hr h => ?_)
  · obtain ⟨G, ds, e, hd, hR | hR⟩ := h
    · rw [hd.length]; obtain ⟨d, hR, q⟩ := hR
      match ds, hR with
      | [_], _ => rfl
    · rw [hd.length]; obtain ⟨c, f, v, hR, q⟩ := hR
      match ds, hR with
      | [_], _ => rfl
  · have tk : Takes (cxOf (L2.CX P w) P w K mg base n_left_zeros "left_zeros" (defScope s_left_zeros) T.f_left_zeros cdv A outer s H E) (fun cls d _ H => E cls d H) := takes_of rfl rfl rfl rfl
    have hpass : PassesOwn _ _ _ (cxOf (L2.CX P w) P w K mg base n_left_zeros "left_zeros" (defScope s_left_zeros) T.f_left_zeros cdv A outer s H E).xe := passes_of (X := cxOf (L2.CX P w) P w K mg base n_left_zeros "left_zeros" (defScope s_left_zeros) T.f_left_zeros cdv A outer s H E) rfl
    refine ⟨_, (pss_cons (ps_expr (pe_callS (ok_check_many T) (hr.mono (by omega)) (by rfl) T.g_check_many T.F_check_many.kp T.b_check_many (fun σ => passAt tk σ) (pa_cons (pv 0) pa_nil)))
      (pss_one (ps_ret (pe_tupleOfK K (by rfl) T.m_tuple (pe_lc (own := [("x", 1)]) rfl sc_left_zeros.nd (pi_range1 (by rfl) T.m_range (pa_cons (pv 0) pa_nil)) (blkOk_by (by rfl)) (fun _ _ _ _ _ => pg_name (i := 1) sc_left_zeros.nd rfl (by first | exact .inl rfl | exact .inr rfl)) (fun _ _ _ _ _ => pts_nil) (fun _ _ _ _ _ => (pe_op (op_repT2K (K := K)) (pe_tup (pa_cons (pv 1) pa_nil)) (pv 0)))))))), ?_⟩
    obtain ⟨G, ds, e, hd, hh⟩ := h
    have hl : ∃ x0, ds = [x0] := by
      rcases hh with ⟨d, hR, _⟩ | ⟨c, f, v, hR, _⟩
      · match ds, hR with
        | [x0], _ => exact ⟨x0, rfl⟩
      · match ds, hR with
        | [x0], _ => exact ⟨x0, rfl⟩
    obtain ⟨x0, rfl⟩ := hl
    cases hd with
    | @cons v0 vs0 _ _ dv0 hd =>
    cases hd
    refine EX.finX (good_start e ((.cons dv0 .nil)) n_left_zeros) (hh.imp (fun ⟨d, hR, q⟩ => ⟨d, q, ?_⟩) fun ⟨cls, f, v, hE, q⟩ => ⟨cls, f, v, q, ?_⟩) <;> show EX K ⟨G, H, none⟩ _ _ [Sl.val v0 x0, Sl.un] _
    · obtain ⟨n, h1, h2, h3, rfl⟩ := hR
      refine ex_cons (ex_drop (ev_callX (ea_cons (ev_var rfl) ea_nil) ⟨ty_of_top h3, inRg_of h3 (by omega) (by omega), rfl⟩) rfl) ?_
      refine ex_ret (ev_is (ev_then (ev_lcR (ev_tp (ev_var rfl) h3) (by omega) (by decide) fun i v hi => ev_op (ev_tup (ea_cons (ev_var rfl) ea_nil) (sz 1)) (ev_tp (ev_var rfl) h3) (op_repTD (by omega) (by omega) (by simp) (by simp))) un_tupL) ?_) fun v => rfl
      exact map_tbl fun x hx => by rw [Int.toNat_natCast, rep_map]; rfl
    · exact ex_rsDrop (rs_call (eav_cons (evv_var rfl) eav_nil) hE) ⟨rfl, rfl, rfl⟩
theorem ok_right_zeros (T : Tx K mg) : FnOk P w K mg base (L2.CX P w) 4 T.f_right_zeros T.d_right_zeros p_right_zeros (spX K (R_tab fun _ _ b => b) (E_check_many T)) := by
  refine T.F_right_zeros.okX sc_right_zeros (fun vs H Q E h => ?_) (fun cdv A outer s H vs Q E hr h => ?_)
  · obtain ⟨G, ds, e, hd, hR | hR⟩ := h
    · rw [hd.length]; obtain ⟨d, hR, q⟩ := hR
      match ds, hR with
      | [_], _ => rfl
    · rw [hd.length]; obtain ⟨c, f, v, hR, q⟩ := hR
      match ds, hR with
      | [_], _ => rfl
  · have tk : Takes (cxOf (L2.CX P w) P w K mg base n_right_zeros "right_zeros" (defScope s_right_zeros) T.f_right_zeros cdv A outer s H E) (fun cls d _ H => E cls d H) := takes_of rfl rfl rfl rfl
    have hpass : PassesOwn _ _ _ (cxOf (L2.CX P w) P w K mg base n_right_zeros "right_zeros" (defScope s_right_zeros) T.f_right_zeros cdv A outer s H E).xe := passes_of (X := cxOf (L2.CX P w) P w K mg base n_right_zeros "right_zeros" (defScope s_right_zeros) T.f_right_zeros cdv A outer s H E) rfl
    refine ⟨_, (pss_cons (ps_expr (pe_callS (ok_check_many T) (hr.mono (by omega)) (by rfl) T.g_check_many T.F_check_many.kp T.b_check_many (fun σ => passAt tk σ) (pa_cons (pv 0) pa_nil)))
      (pss_one (ps_ret (pe_op (op_repT2K (K := K)) (pe_tup (pa_cons (pe_tupRg rfl (by rfl) T.m_tuple (prg_1 (by rfl) T.m_range (pv 0))) pa_nil)) (pv 0))))), ?_⟩
    obtain ⟨G, ds, e, hd, hh⟩ := h
    have hl : ∃ x0, ds = [x0] := by
      rcases hh with ⟨d, hR, _⟩ | ⟨c, f, v, hR, _⟩
      · match ds, hR with
        | [x0], _ => exact ⟨x0, rfl⟩
      · match ds, hR with
        | [x0], _ => exact ⟨x0, rfl⟩
    obtain ⟨x0, rfl⟩ := hl
    cases hd with
    | @cons v0 vs0 _ _ dv0 hd =>
    cases hd
    refine EX.finX (good_start e ((.cons dv0 .nil)) n_right_zeros) (hh.imp (fun ⟨d, hR, q⟩ => ⟨d, q, ?_⟩) fun ⟨cls, f, v, hE, q⟩ => ⟨cls, f, v, q, ?_⟩) <;> show EX K ⟨G, H, none⟩ _ _ [Sl.val v0 x0] _
    · obtain ⟨n, h1, h2, h3, rfl⟩ := hR
      refine ex_cons (ex_drop (ev_callX (ea_cons (ev_var rfl) ea_nil) ⟨ty_of_top h3, inRg_of h3 (by omega) (by omega), rfl⟩) rfl) ?_
      refine ex_ret (ev_is (ev_op (ev_tup (ea_cons (ev_tupRg1 (ev_tp (ev_var rfl) h3) (by omega) (by omega)) ea_nil) (sz 1)) (ev_tp (ev_var rfl) h3) (op_repTD (by omega) (by omega) (by simp) (by simp))) ?_) fun v => rfl
      rw [Int.toNat_natCast, rep_map]
      exact map_tbl fun x hx => map_row fun y hy => by rw [Int.zero_add]
    · exact ex_rsDrop (rs_call (eav_cons (evv_var rfl) eav_nil) hE) ⟨rfl, rfl, rfl⟩
theorem ok_null (T : Tx K mg) : FnOk P w K mg base (L2.CX P w) 4 T.f_null T.d_null p_null (spX K (R_tab fun _ _ _ => 0) (E_check_many T)) := by
  refine T.F_null.okX sc_null (fun vs H Q E h => ?_) (fun cdv A outer s H vs Q E hr h => ?_)
  · obtain ⟨G, ds, e, hd, hR | hR⟩ := h
    · rw [hd.length]; obtain ⟨d, hR, q⟩ := hR
      match ds, hR with
      | [_], _ => rfl
    · rw [hd.length]; obtain ⟨c, f, v, hR, q⟩ := hR
      match ds, hR with
      | [_], _ => rfl
  · have tk : Takes (cxOf (L2.CX P w) P w K mg base n_null "null" (defScope s_null) T.f_null cdv A outer s H E) (fun cls d _ H => E cls d H) := takes_of rfl rfl rfl rfl
    have hpass : PassesOwn _ _ _ (cxOf (L2.CX P w) P w K mg base n_null "null" (defScope s_null) T.f_null cdv A outer s H E).xe := passes_of (X := cxOf (L2.CX P w) P w K mg base n_null "null" (defScope s_null) T.f_null cdv A outer s H E) rfl
    refine ⟨_, (pss_cons (ps_expr (pe_callS (ok_check_many T) (hr.mono (by omega)) (by rfl) T.g_check_many T.F_check_many.kp T.b_check_many (fun σ => passAt tk σ) (pa_cons (pv 0) pa_nil)))
      (pss_one (ps_ret (pe_op (op_repT2K (K := K)) (pe_tup (pa_cons (pe_op (op_repT2K (K := K)) (pe_tup (pa_cons pe_int pa_nil)) (pv 0)) pa_nil)) (pv 0))))), ?_⟩
    obtain ⟨G, ds, e, hd, hh⟩ := h
    have hl : ∃ x0, ds = [x0] := by
      rcases hh with ⟨d, hR, _⟩ | ⟨c, f, v, hR, _⟩
      · match ds, hR with
        | [x0], _ => exact ⟨x0, rfl⟩
      · match ds, hR with
        | [x0], _ => exact ⟨x0, rfl⟩
    obtain ⟨x0, rfl⟩ := hl
    cases hd with
    | @cons v0 vs0 _ _ dv0 hd =>
    cases hd
    refine EX.finX (good_start e ((.cons dv0 .nil)) n_null) (hh.imp (fun ⟨d, hR, q⟩ => ⟨d, q, ?_⟩) fun ⟨cls, f, v, hE, q⟩ => ⟨cls, f, v, q, ?_⟩) <;> show EX K ⟨G, H, none⟩ _ _ [Sl.val v0 x0] _
    · obtain ⟨n, h1, h2, h3, rfl⟩ := hR
      refine ex_cons (ex_drop (ev_callX (ea_cons (ev_var rfl) ea_nil) ⟨ty_of_top h3, inRg_of h3 (by omega) (by omega), rfl⟩) rfl) ?_
      refine ex_ret (ev_is (ev_op (ev_tup (ea_cons (ev_op (ev_tup (ea_cons ev_int ea_nil) (sz 1)) (ev_tp (ev_var rfl) h3) (op_repTD (by omega) (by omega) (by simp) (by simp))) ea_nil) (sz 1)) (ev_tp (ev_var rfl) h3) (op_repTD (by omega) (by omega) (by simp) (by simp))) ?_) fun v => rfl
      rw [Int.toNat_natCast, rep_map, rep_map]
      exact map_tbl fun x hx => map_row fun y hy => rfl
    · exact ex_rsDrop (rs_call (eav_cons (evv_var rfl) eav_nil) hE) ⟨rfl, rfl, rfl⟩
theorem ok_lowest (T : Tx K mg) : FnOk P w K mg base (L2.CX P w) 4 T.f_lowest T.d_lowest p_lowest (spX K (R_tab fun _ a b => min a b) (E_check_many T)) := by
  refine T.F_lowest.okX sc_lowest (fun vs H Q E h => ?_) (fun cdv A outer s H vs Q E hr h => ?_)
  · obtain ⟨G, ds, e, hd, hR | hR⟩ := h
    · rw [hd.length]; obtain ⟨d, hR, q⟩ := hR
      match ds, hR with
      | [_], _ => rfl
    · rw [hd.length]; obtain ⟨c, f, v, hR, q⟩ := hR
      match ds, hR with
      | [_], _ => rfl
  · have tk : Takes (cxOf (L2.CX P w) P w K mg base n_lowest "lowest" (defScope s_lowest) T.f_lowest cdv A outer s H E) (fun cls d _ H => E cls d H) := takes_of rfl rfl rfl rfl
    have hpass : PassesOwn _ _ _ (cxOf (L2.CX P w) P w K mg base n_lowest "lowest" (defScope s_lowest) T.f_lowest cdv A outer s H E).xe := passes_of (X := cxOf (L2.CX P w) P w K mg base n_lowest "lowest" (defScope s_lowest) T.f_lowest cdv A outer s H E) rfl
    refine ⟨_, (pss_cons (ps_expr (pe_callS (ok_check_many T) (hr.mono (by omega)) (by rfl) T.g_check_many T.F_check_many.kp T.b_check_many (fun σ => passAt tk σ) (pa_cons (pv 0) pa_nil)))
      (pss_one (ps_ret (pe_tupleOfK K (by rfl) T.m_tuple (pe_lc (own := [("x", 2)]) rfl sc_lowest.nd (pi_range1 (by rfl) T.m_range (pa_cons (pv 0) pa_nil)) (blkOk_by (by rfl)) (fun _ _ _ _ _ => pg_name (i := 2) sc_lowest.nd rfl (by first | exact .inl rfl | exact .inr rfl)) (fun _ _ _ _ _ => pts_nil) (fun _ _ _ _ _ => (pe_tupleOfK K (by rfl) T.m_tuple (pe_lc (own := [("y", 1)]) rfl sc_lowest.nd (pi_range1 (by rfl) T.m_range (pa_cons (pv 0) pa_nil)) (blkOk_by (by rfl)) (fun _ _ _ _ _ => pg_name (i := 1) sc_lowest.nd rfl (by first | exact .inl rfl | exact .inr rfl)) (fun _ _ _ _ _ => pts_nil) (fun _ _ _ _ _ => (pe_callB (call_min2 rfl) (by rfl) T.m_min (by decide +kernel) (pa_cons (pv 2) (pa_cons (pv 1) pa_nil)))))))))))), ?_⟩
    obtain ⟨G, ds, e, hd, hh⟩ := h
    have hl : ∃ x0, ds = [x0] := by
      rcases hh with ⟨d, hR, _⟩ | ⟨c, f, v, hR, _⟩
      · match ds, hR with
        | [x0], _ => exact ⟨x0, rfl⟩
      · match ds, hR with
        | [x0], _ => exact ⟨x0, rfl⟩
    obtain ⟨x0, rfl⟩ := hl
    cases hd with
    | @cons v0 vs0 _ _ dv0 hd =>
    cases hd
    refine EX.finX (good_start e ((.cons dv0 .nil)) n_lowest) (hh.imp (fun ⟨d, hR, q⟩ => ⟨d, q, ?_⟩) fun ⟨cls, f, v, hE, q⟩ => ⟨cls, f, v, q, ?_⟩) <;> show EX K ⟨G, H, none⟩ _ _ [Sl.val v0 x0, Sl.un, Sl.un] _
    · obtain ⟨n, h1, h2, h3, rfl⟩ := hR
      refine ex_cons (ex_drop (ev_callX (ea_cons (ev_var rfl) ea_nil) ⟨ty_of_top h3, inRg_of h3 (by omega) (by omega), rfl⟩) rfl) ?_
      refine ex_ret (ev_is (ev_then (ev_lcR (ev_tp (ev_var rfl) h3) (by omega) (by decide) fun i v hi => ev_then (ev_lcR (ev_tp (ev_var rfl) h3) (by omega) (by decide) fun j u hj => ev_cb (ea_cons (ev_var rfl) (ea_cons (ev_var rfl) ea_nil)) cb_min2) un_tupL) un_tupL) ?_) fun v => rfl
      exact map_tbl fun x hx => map_row fun y hy => by show D.int _ = D.int ((min x y : Nat) : Int); congr 1; split <;> omega
    · exact ex_rsDrop (rs_call (eav_cons (evv_var rfl) eav_nil) hE) ⟨rfl, rfl, rfl⟩
theorem ok_clock (T : Tx K mg) : FnOk P w K mg base (L2.CX P w) 4 T.f_clock T.d_clock p_clock (spX K (R_tab fun n a b => (a + b) % n) (E_check_many T)) := by
  refine T.F_clock.okX sc_clock (fun vs H Q E h => ?_) (fun cdv A outer s H vs Q E hr h => ?_)
  · obtain ⟨G, ds, e, hd, hR | hR⟩ := h
    · rw [hd.length]; obtain ⟨d, hR, q⟩ := hR
      match ds, hR with
      | [_], _ => rfl
    · rw [hd.length]; obtain ⟨c, f, v, hR, q⟩ := hR
      match ds, hR with
      | [_], _ => rfl
  · have tk : Takes (cxOf (L2.CX P w) P w K mg base n_clock "clock" (defScope s_clock) T.f_clock cdv A outer s H E) (fun cls d _ H => E cls d H) := takes_of rfl rfl rfl rfl
    have hpass : PassesOwn _ _ _ (cxOf (L2.CX P w) P w K mg base n_clock "clock" (defScope s_clock) T.f_clock cdv A outer s H E).xe := passes_of (X := cxOf (L2.CX P w) P w K mg base n_clock "clock" (defScope s_clock) T.f_clock cdv A outer s H E) rfl
    refine ⟨_, (pss_cons (ps_expr (pe_callS (ok_check_many T) (hr.mono (by omega)) (by rfl) T.g_check_many T.F_check_many.kp T.b_check_many (fun σ => passAt tk σ) (pa_cons (pv 0) pa_nil)))
      (pss_one (ps_ret (pe_tupleOfK K (by rfl) T.m_tuple (pe_lc (own := [("x", 2)]) rfl sc_clock.nd (pi_range1 (by rfl) T.m_range (pa_cons (pv 0) pa_nil)) (blkOk_by (by rfl)) (fun _ _ _ _ _ => pg_name (i := 2) sc_clock.nd rfl (by first | exact .inl rfl | exact .inr rfl)) (fun _ _ _ _ _ => pts_nil) (fun _ _ _ _ _ => (pe_tupleOfK K (by rfl) T.m_tuple (pe_lc (own := [("y", 1)]) rfl sc_clock.nd (pi_range1 (by rfl) T.m_range (pa_cons (pv 0) pa_nil)) (blkOk_by (by rfl)) (fun _ _ _ _ _ => pg_name (i := 1) sc_clock.nd rfl (by first | exact .inl rfl | exact .inr rfl)) (fun _ _ _ _ _ => pts_nil) (fun _ _ _ _ _ => (pe_op op_mod (pe_op op_add (pv 2) (pv 1)) (pv 0))))))))))), ?_⟩
    obtain ⟨G, ds, e, hd, hh⟩ := h
    have hl : ∃ x0, ds = [x0] := by
      rcases hh with ⟨d, hR, _⟩ | ⟨c, f, v, hR, _⟩
      · match ds, hR with
        | [x0], _ => exact ⟨x0, rfl⟩
      · match ds, hR with
        | [x0], _ => exact ⟨x0, rfl⟩
    obtain ⟨x0, rfl⟩ := hl
    cases hd with
    | @cons v0 vs0 _ _ dv0 hd =>
    cases hd
    refine EX.finX (good_start e ((.cons dv0 .nil)) n_clock) (hh.imp (fun ⟨d, hR, q⟩ => ⟨d, q, ?_⟩) fun ⟨cls, f, v, hE, q⟩ => ⟨cls, f, v, q, ?_⟩) <;> show EX K ⟨G, H, none⟩ _ _ [Sl.val v0 x0, Sl.un, Sl.un] _
    · obtain ⟨n, h1, h2, h3, rfl⟩ := hR
      refine ex_cons (ex_drop (ev_callX (ea_cons (ev_var rfl) ea_nil) ⟨ty_of_top h3, inRg_of h3 (by omega) (by omega), rfl⟩) rfl) ?_
      refine ex_ret (ev_is (ev_then (ev_lcR (ev_tp (ev_var rfl) h3) (by omega) (by decide) fun i v hi => ev_then (ev_lcR (ev_tp (ev_var rfl) h3) (by omega) (by decide) fun j u hj => ev_op (ev_op (ev_var rfl) (ev_var rfl) op_addI) (ev_tp (ev_var rfl) h3) (op_modI (by omega))) un_tupL) un_tupL) ?_) fun v => rfl
      exact map_tbl fun x hx => map_row fun y hy => by push_cast; rfl
    · exact ex_rsDrop (rs_call (eav_cons (evv_var rfl) eav_nil) hE) ⟨rfl, rfl, rfl⟩
/-- the power that stands for k -/
def powAt (i p k : Nat) : Nat := if k < i then k - 1 else i - 1 + (k - i) % p
def R_power_at : List D → D → Prop
  | [x, y, z], d => ∃ i p k : Nat, x.top = .int i ∧ y.top = .int p ∧ z = .int k ∧ 1 ≤ i ∧ 1 ≤ p ∧ 1 ≤ k ∧ d = .int (powAt i p k : Nat)
  | _, _ => False
theorem ok_power_at (T : Tx K mg) : FnOk P w K mg base CX0 1 T.f_power_at T.d_power_at p_power_at (spD K R_power_at) := by
  refine T.F_power_at.ok sc_power_at (fun vs H Q E h => ?_) (fun cdv A outer s H vs Q E hr h => ?_)
  · obtain ⟨G, ds, d, e, hd, hR, q⟩ := h
    rw [hd.length]
    match ds, hR with
    | [_, _, _], _ => rfl
  · refine ⟨_, (pss_one (ps_ret (pe_ifExp (pt_cmpR op_lt (pv 2) (pv 0) (nomark _)) (pe_op op_sub (pv 2) pe_int) (pe_op op_add (pe_op op_sub (pv 0) pe_int) (pe_op op_mod (pe_op op_sub (pv 2) (pv 0)) (pv 1)))))), ?_⟩
    obtain ⟨G, ds, d, e, hd, hR, q⟩ := h
    have hl : ∃ x0 x1 x2, ds = [x0, x1, x2] := by
      match ds, hR with
      | [x0, x1, x2], _ => exact ⟨x0, x1, x2, rfl⟩
    obtain ⟨x0, x1, x2, rfl⟩ := hl
    cases hd with
    | @cons v0 vs0 _ _ dv0 hd =>
    cases hd with
    | @cons v1 vs1 _ _ dv1 hd =>
    cases hd with
    | @cons v2 vs2 _ _ dv2 hd =>
    cases hd
    refine EX.fin (W := fun _ _ _ _ => False) (good_start e ((.cons dv0 (.cons dv1 (.cons dv2 .nil)))) n_power_at) q ?_
    show EX K ⟨G, H, none⟩ _ _ [Sl.val v0 x0, Sl.val v1 x1, Sl.val v2 x2] _
    obtain ⟨i, p, k, hi, hp, rfl, i1, p1, k1, rfl⟩ := hR
    refine ex_ret (ev_if (b := decide ((k : Int) < i)) (et_test (ev_op (ev_var rfl) (ev_tp (ev_var rfl) hi) op_ltI)) (fun h => ?_) fun h => ?_) fun v => rfl
    · refine ev_is (ev_op (ev_var rfl) ev_int op_subI) ?_
      have h' := of_decide_eq_true h
      unfold powAt
      rw [if_pos (by omega)]
      congr 1; omega
    · refine ev_is (ev_op (ev_op (ev_tp (ev_var rfl) hi) ev_int op_subI) (ev_op (ev_op (ev_var rfl) (ev_tp (ev_var rfl) hi) op_subI) (ev_tp (ev_var rfl) hp) (op_modI (by omega))) op_addI) ?_
      have h' := of_decide_eq_false h
      unfold powAt
      rw [if_neg (by omega)]
      have e : (k : Int) - i = ((k - i : Nat) : Int) := by omega
      rw [e]
      push_cast
      congr 1
      omega
def R_monogenic : List D → D → Prop
  | [x, y], d => ∃ i p : Nat, x.top = .int i ∧ y.top = .int p ∧ 1 ≤ i ∧ 1 ≤ p ∧ i + p ≤ 11 ∧ d = tblD (i + p - 1) (fun a b => powAt i p (a + b + 2))
  | _, _ => False
def E_monogenic (T : Tx K mg) (vs : List V) : List D → Value → Str → V → Prop
  | [x, y], c, f, u => E_check_counts T vs [x, y] c f u ∨ ∃ i p : Int, x.top = .int i ∧ y.top = .int p ∧ 1 ≤ i ∧ 1 ≤ p ∧ 11 < i + p ∧ c = .ref T.c_TooMany ∧ f = "number" ∧ u = .int (i + p - 1)
  | _, _, _, _ => False
theorem ok_monogenic (T : Tx K mg) : FnOk P w K mg base (L2.CX P w) 4 T.f_monogenic T.d_monogenic p_monogenic (spX K R_monogenic (E_monogenic T)) := by
  refine T.F_monogenic.okX sc_monogenic (fun vs H Q E h => ?_) (fun cdv A outer s H vs Q E hr h => ?_)
  · obtain ⟨G, ds, e, hd, hR | hR⟩ := h
    · rw [hd.length]; obtain ⟨d, hR, q⟩ := hR
      match ds, hR with
      | [_, _], _ => rfl
    · rw [hd.length]; obtain ⟨c, f, v, hR, q⟩ := hR
      match ds, hR with
      | [_, _], _ => rfl
  · have tk : Takes (cxOf (L2.CX P w) P w K mg base n_monogenic "monogenic" (defScope s_monogenic) T.f_monogenic cdv A outer s H E) (fun cls d _ H => E cls d H) := takes_of rfl rfl rfl rfl
    have hpass : PassesOwn _ _ _ (cxOf (L2.CX P w) P w K mg base n_monogenic "monogenic" (defScope s_monogenic) T.f_monogenic cdv A outer s H E).xe := passes_of (X := cxOf (L2.CX P w) P w K mg base n_monogenic "monogenic" (defScope s_monogenic) T.f_monogenic cdv A outer s H E) rfl
    refine ⟨_, (pss_cons (ps_expr (pe_callS (ok_check_counts T) (hr.mono (by omega)) (by rfl) T.g_check_counts T.F_check_counts.kp T.b_check_counts (fun σ => passAt tk σ) (pa_cons (pv 0) (pa_cons (pv 1) pa_nil))))
      (pss_cons (ps_set (i := 2) sc_monogenic.nd rfl (.inr rfl) (pe_op op_sub (pe_op op_add (pv 0) (pv 1)) pe_int))
      (pss_cons (ps_expr (pe_callS (ok_check_size T) (hr.mono (by omega)) (by rfl) T.g_check_size T.F_check_size.kp T.b_check_size (fun σ => passAt tk σ) (pa_cons (pv 2) pa_nil)))
      (pss_one (ps_ret (pe_tupleOfK K (by rfl) T.m_tuple (pe_lc (own := [("x", 4)]) rfl sc_monogenic.nd (pi_range1 (by rfl) T.m_range (pa_cons (pv 2) pa_nil)) (blkOk_by (by rfl)) (fun _ _ _ _ _ => pg_name (i := 4) sc_monogenic.nd rfl (by first | exact .inl rfl | exact .inr rfl)) (fun _ _ _ _ _ => pts_nil) (fun _ _ _ _ _ => (pe_tupleOfK K (by rfl) T.m_tuple (pe_lc (own := [("y", 3)]) rfl sc_monogenic.nd (pi_range1 (by rfl) T.m_range (pa_cons (pv 2) pa_nil)) (blkOk_by (by rfl)) (fun _ _ _ _ _ => pg_name (i := 3) sc_monogenic.nd rfl (by first | exact .inl rfl | exact .inr rfl)) (fun _ _ _ _ _ => pts_nil) (fun _ _ _ _ _ => (pe_call (ok_power_at T) (hr.mono (by omega)) (by rfl) T.g_power_at T.F_power_at.kp T.b_power_at .nil pass0 (pa_cons (pv 0) (pa_cons (pv 1) (pa_cons (pe_op op_add (pe_op op_add (pv 4) (pv 3)) pe_int) pa_nil))))))))))))))), ?_⟩
    obtain ⟨G, ds, e, hd, hh⟩ := h
    have hl : ∃ x0 x1, ds = [x0, x1] := by
      rcases hh with ⟨d, hR, _⟩ | ⟨c, f, v, hR, _⟩
      · match ds, hR with
        | [x0, x1], _ => exact ⟨x0, x1, rfl⟩
      · match ds, hR with
        | [x0, x1], _ => exact ⟨x0, x1, rfl⟩
    obtain ⟨x0, x1, rfl⟩ := hl
    cases hd with
    | @cons v0 vs0 _ _ dv0 hd =>
    cases hd with
    | @cons v1 vs1 _ _ dv1 hd =>
    cases hd
    refine EX.finX (good_start e ((.cons dv0 (.cons dv1 .nil))) n_monogenic) (hh.imp (fun ⟨d, hR, q⟩ => ⟨d, q, ?_⟩) fun ⟨cls, f, v, hE, q⟩ => ⟨cls, f, v, q, ?_⟩) <;> show EX K ⟨G, H, none⟩ _ _ [Sl.val v0 x0, Sl.val v1 x1, Sl.un, Sl.un, Sl.un] _
    · obtain ⟨i, p, hi, hp, i1, p1, hm, rfl⟩ := hR
      refine ex_cons (ex_drop (ev_callX (ea_cons (ev_var rfl) (ea_cons (ev_var rfl) ea_nil)) ⟨ty_of_top hi, ty_of_top hp, pos1_of hi (by omega), pos1_of hp (by omega), rfl⟩) rfl) ?_
      refine ex_let (ev_is (ev_op (ev_op (ev_tp (ev_var rfl) hi) (ev_tp (ev_var rfl) hp) op_addI) ev_int op_subI) (show D.int _ = D.int ((i + p - 1 : Nat) : Int) from congrArg D.int (by omega))) fun u => ?_
      refine ex_cons (ex_drop (ev_callX (ea_cons (ev_var rfl) ea_nil) ⟨_, rfl, by omega, rfl⟩) rfl) ?_
      refine ex_ret (ev_is (ev_then (ev_lcR (ev_var rfl) (by omega) (by decide) fun a v ha => ev_then (ev_lcR (ev_var rfl) (by omega) (by decide) fun b u hb => ev_call (ea_cons (ev_var rfl) (ea_cons (ev_var rfl) (ea_cons (ev_is (ev_op (ev_op (ev_var rfl) (ev_var rfl) op_addI) ev_int op_addI) (show D.int _ = D.int ((a + b + 2 : Nat) : Int) from congrArg D.int (by omega))) ea_nil))) ⟨i, p, a + b + 2, hi, hp, rfl, i1, p1, by omega, rfl⟩) un_tupL) un_tupL) ?_) fun v => rfl
      exact map_tbl fun x hx => map_row fun y hy => rfl
    · rcases hE with hE | ⟨i, p, hi, hp, i1, p1, hm, rfl, rfl, rfl⟩
      · exact ex_rsDrop (rs_call (eav_cons (evv_var rfl) (eav_cons (evv_var rfl) eav_nil)) hE) ⟨rfl, rfl, rfl⟩
      refine ex_cons (ex_drop (ev_callX (ea_cons (ev_var rfl) (ea_cons (ev_var rfl) ea_nil)) ⟨ty_of_top hi, ty_of_top hp, pos1_of hi (by omega), pos1_of hp (by omega), rfl⟩) rfl) ?_
      refine ex_let (ev_op (ev_op (ev_tp (ev_var rfl) hi) (ev_tp (ev_var rfl) hp) op_addI) ev_int op_subI) fun u => ?_
      exact ex_rsDrop (rs_call (eav_cons (evv_var rfl) eav_nil) ⟨_, rfl, by omega, rfl, rfl, rfl⟩) ⟨rfl, rfl, rfl⟩
def R_rectangle : List D → D → Prop
  | [x, y], d => ∃ l r : Nat, x.top = .int l ∧ y.top = .int r ∧ 1 ≤ l ∧ 1 ≤ r ∧ l ≤ 10 ∧ r ≤ 10 ∧ l * r ≤ 10 ∧ d = tblD (l * r) (fun a b => a / r * r + b % r)
  | _, _ => False
def E_rectangle (T : Tx K mg) (vs : List V) : List D → Value → Str → V → Prop
  | [x, y], c, f, u => E_check_counts T vs [x, y] c f u ∨ ∃ i p : Int, x.top = .int i ∧ y.top = .int p ∧ 1 ≤ i ∧ 1 ≤ p ∧ p ≤ 100 ∧ 10 < i * p ∧ c = .ref T.c_TooMany ∧ f = "number" ∧ u = .int (i * p)
  | _, _, _, _ => False
theorem ok_rectangle (T : Tx K mg) : FnOk P w K mg base (L2.CX P w) 4 T.f_rectangle T.d_rectangle p_rectangle (spX K R_rectangle (E_rectangle T)) := by
  refine T.F_rectangle.okX sc_rectangle (fun vs H Q E h => ?_) (fun cdv A outer s H vs Q E hr h => ?_)
  · obtain ⟨G, ds, e, hd, hR | hR⟩ := h
    · rw [hd.length]; obtain ⟨d, hR, q⟩ := hR
      match ds, hR with
      | [_, _], _ => rfl
    · rw [hd.length]; obtain ⟨c, f, v, hR, q⟩ := hR
      match ds, hR with
      | [_, _], _ => rfl
  · have tk : Takes (cxOf (L2.CX P w) P w K mg base n_rectangle "rectangle" (defScope s_rectangle) T.f_rectangle cdv A outer s H E) (fun cls d _ H => E cls d H) := takes_of rfl rfl rfl rfl
    have hpass : PassesOwn _ _ _ (cxOf (L2.CX P w) P w K mg base n_rectangle "rectangle" (defScope s_rectangle) T.f_rectangle cdv A outer s H E).xe := passes_of (X := cxOf (L2.CX P w) P w K mg base n_rectangle "rectangle" (defScope s_rectangle) T.f_rectangle cdv A outer s H E) rfl
    refine ⟨_, (pss_cons (ps_expr (pe_callS (ok_check_counts T) (hr.mono (by omega)) (by rfl) T.g_check_counts T.F_check_counts.kp T.b_check_counts (fun σ => passAt tk σ) (pa_cons (pv 0) (pa_cons (pv 1) pa_nil))))
      (pss_cons (ps_set (i := 2) sc_rectangle.nd rfl (.inr rfl) (pe_op op_mul (pv 0) (pv 1)))
      (pss_cons (ps_expr (pe_callS (ok_check_size T) (hr.mono (by omega)) (by rfl) T.g_check_size T.F_check_size.kp T.b_check_size (fun σ => passAt tk σ) (pa_cons (pv 2) pa_nil)))
      (pss_one (ps_ret (pe_tupleOfK K (by rfl) T.m_tuple (pe_lc (own := [("x", 4)]) rfl sc_rectangle.nd (pi_range1 (by rfl) T.m_range (pa_cons (pv 2) pa_nil)) (blkOk_by (by rfl)) (fun _ _ _ _ _ => pg_name (i := 4) sc_rectangle.nd rfl (by first | exact .inl rfl | exact .inr rfl)) (fun _ _ _ _ _ => pts_nil) (fun _ _ _ _ _ => (pe_tupleOfK K (by rfl) T.m_tuple (pe_lc (own := [("y", 3)]) rfl sc_rectangle.nd (pi_range1 (by rfl) T.m_range (pa_cons (pv 2) pa_nil)) (blkOk_by (by rfl)) (fun _ _ _ _ _ => pg_name (i := 3) sc_rectangle.nd rfl (by first | exact .inl rfl | exact .inr rfl)) (fun _ _ _ _ _ => pts_nil) (fun _ _ _ _ _ => (pe_op op_add (pe_op op_mul (pe_op op_fdiv (pv 4) (pv 1)) (pv 1)) (pe_op op_mod (pv 3) (pv 1)))))))))))))), ?_⟩
    obtain ⟨G, ds, e, hd, hh⟩ := h
    have hl : ∃ x0 x1, ds = [x0, x1] := by
      rcases hh with ⟨d, hR, _⟩ | ⟨c, f, v, hR, _⟩
      · match ds, hR with
        | [x0, x1], _ => exact ⟨x0, x1, rfl⟩
      · match ds, hR with
        | [x0, x1], _ => exact ⟨x0, x1, rfl⟩
    obtain ⟨x0, x1, rfl⟩ := hl
    cases hd with
    | @cons v0 vs0 _ _ dv0 hd =>
    cases hd with
    | @cons v1 vs1 _ _ dv1 hd =>
    cases hd
    refine EX.finX (good_start e ((.cons dv0 (.cons dv1 .nil))) n_rectangle) (hh.imp (fun ⟨d, hR, q⟩ => ⟨d, q, ?_⟩) fun ⟨cls, f, v, hE, q⟩ => ⟨cls, f, v, q, ?_⟩) <;> show EX K ⟨G, H, none⟩ _ _ [Sl.val v0 x0, Sl.val v1 x1, Sl.un, Sl.un, Sl.un] _
    · obtain ⟨l, r, hi, hp, i1, p1, l10, r10, hm, rfl⟩ := hR
      refine ex_cons (ex_drop (ev_callX (ea_cons (ev_var rfl) (ea_cons (ev_var rfl) ea_nil)) ⟨ty_of_top hi, ty_of_top hp, pos1_of hi (by omega), pos1_of hp (by omega), rfl⟩) rfl) ?_
      refine ex_let (ev_is (ev_op (ev_tp (ev_var rfl) hi) (ev_tp (ev_var rfl) hp) (op_mulI (.inr (by omega)))) (show _ = D.int ((l * r : Nat) : Int) by push_cast; rfl)) fun u => ?_
      refine ex_cons (ex_drop (ev_callX (ea_cons (ev_var rfl) ea_nil) ⟨_, rfl, by omega, rfl⟩) rfl) ?_
      refine ex_ret (ev_is (ev_then (ev_lcR (ev_var rfl) (by omega) (by decide) fun a v ha => ev_then (ev_lcR (ev_var rfl) (by omega) (by decide) fun b u hb => ev_op (ev_op (ev_op (ev_var rfl) (ev_tp (ev_var rfl) hp) (op_fdivI (by omega))) (ev_tp (ev_var rfl) hp) (op_mulI (.inr (by omega)))) (ev_op (ev_var rfl) (ev_tp (ev_var rfl) hp) (op_modI (by omega))) op_addI) un_tupL) un_tupL) ?_) fun v => rfl
      exact map_tbl fun x hx => map_row fun y hy => by push_cast; rfl
    · rcases hE with hE | ⟨i, p, hi, hp, i1, p1, h100, hm, rfl, rfl, rfl⟩
      · exact ex_rsDrop (rs_call (eav_cons (evv_var rfl) (eav_cons (evv_var rfl) eav_nil)) hE) ⟨rfl, rfl, rfl⟩
      refine ex_cons (ex_drop (ev_callX (ea_cons (ev_var rfl) (ea_cons (ev_var rfl) ea_nil)) ⟨ty_of_top hi, ty_of_top hp, pos1_of hi (by omega), pos1_of hp (by omega), rfl⟩) rfl) ?_
      refine ex_let (ev_op (ev_tp (ev_var rfl) hi) (ev_tp (ev_var rfl) hp) (op_mulI (.inr (by omega)))) fun u => ?_
      exact ex_rsDrop (rs_call (eav_cons (evv_var rfl) eav_nil) ⟨_, rfl, by omega, rfl, rfl, rfl⟩) ⟨rfl, rfl, rfl⟩
end
end Kx


set_option Elab.async false
set_option linter.all false
set_option maxRecDepth 100000
set_option maxHeartbeats 2000000
namespace Kx
open PySem PySem.Spec PyProof.Rows L2 DL
section
variable {P : Program} {w : World} {K : PySem.W.Frag} {mg : Str → Option Value} {base : Heap}
def cellF (ns : List Int) (k : Nat) : Int := if h : k < ns.length then ns[k] else 6113 * k + (ns.take 1).sum % 1000033
def spCellL (K : PySem.W.Frag) : Sp := fun vs H Q _ => ∃ (a : Addr) (ns : List Int) (k : Nat), vs = [.ref a, .int k] ∧ SqL K H a (ns.map V.int) ∧ ∀ H', Ex H H' → Q (.int (cellF ns k)) H'
theorem ok_law_cell (T : Tx K mg) : FnOk P w K mg base CX0 1 T.f_law_cell T.d_law_cell p_law_cell (spCellL K) := by
  refine T.F_law_cell.ok sc_law_cell (fun vs H Q E h => ?_) (fun cdv A outer s H vs Q E hr h => ?_)
  · obtain ⟨_, _, _, rfl, _⟩ := h; rfl
  · refine ⟨_, (pss_one (ps_ret (pe_ifExp (pt_cmpR op_lt (pv 1) (pe_callB (call_lenK K) (by rfl) T.m_len (by decide +kernel) (pa_cons (pv 0) pa_nil)) (nomark _)) (pe_ix (ix_seqK K) (pv 0) (pv 1) (fun _ _ => rfl)) (pe_op op_add (pe_op op_mul pe_int (pv 1)) (pe_op op_mod (pe_callTy call_int1 (by rfl) T.m_int (by decide +kernel) (pa_cons (pe_callB (cr_sum rfl) (by rfl) T.m_sum (by decide +kernel) (pa_cons (pe_slice (sl_listK K) (pv 0) po_none (po_some pe_int)) pa_nil)) pa_nil)) pe_int))))), ?_⟩
    obtain ⟨a, ns, k, rfl, hS, q⟩ := h
    refine ⟨_, rfl, _, rfl, .ref a, (ns.map V.int).length, rfl, .inl ⟨_, hS, rfl⟩, k, ((ns.map V.int).length : Nat), rfl, rfl, _, rfl, ?_⟩
    show if decide ((k : Int) < (((ns.map V.int).length : Nat) : Int)) = true then _ else _
    by_cases hk : k < ns.length
    · rw [if_pos (decide_eq_true (by rw [List.length_map]; omega))]
      refine ⟨_, rfl, _, rfl, .inl ⟨a, _, _, _, rfl, rfl, hS, atI_nat (v := .int ns[k]) (by rw [List.getElem?_map, List.getElem?_eq_getElem hk]; rfl), ?_⟩⟩
      have := q H (.refl H)
      unfold cellF at this
      rw [dif_pos hk] at this
      exact this
    · rw [if_neg (fun z => by have := of_decide_eq_true z; rw [List.length_map] at this; omega)]
      refine ⟨.int k, rfl, 6113, k, rfl, rfl, .inl ⟨by decide, by decide⟩, .ref a, rfl, ?_⟩
      refine ⟨1, rfl, a, _, rfl, hS, fun p hp => ⟨p, ns.take 1, rfl, .inl (.inl ?_), .inl ⟨_, rfl, _, _, rfl, rfl, (show (0 : Int) < 1000033 by decide), _, _, rfl, rfl, ?_⟩⟩⟩
      · rw [upd_same]
        have hc : cutV (ns.map V.int) none (some 1) = (ns.take 1).map V.int := by
          cases ns with
          | nil => rfl
          | cons x r => simp [cutV, HT.sIx]
        rw [hc]
      · have := q (upd H p (.lst (cutV (ns.map V.int) none (some 1)))) (.new hp)
        unfold cellF at this
        rw [dif_neg hk] at this
        exact this
def R_law_box : List D → List D → Prop
  | [x], es => ∃ g : Int, x = .int g ∧ es = [.int (if g < 0 then -g else g), .bl (decide ((10 : Int) ^ 18 ≤ if g < 0 then -g else g)), .int ((if g < 0 then -g else g) % 2147483629), .int 0]
  | _, _ => False
theorem ok_law_box (T : Tx K mg) : FnOk P w K mg base CX0 1 T.f_law_box T.d_law_box p_law_box (spN K R_law_box) := by
  refine T.F_law_box.ok sc_law_box (fun vs H Q E h => ?_) (fun cdv A outer s H vs Q E hr h => ?_)
  · obtain ⟨G, ds, d, e, hd, hR, q⟩ := h
    rw [hd.length]
    match ds, hR with
    | [_], _ => rfl
  · refine ⟨_, (pss_one (ps_ret (pe_lst (pa_cons (pe_callB call_abs (by rfl) T.m_abs (by decide +kernel) (pa_cons (pv 0) pa_nil)) (pa_cons (pe_cmpR op_ge (pe_callB call_abs (by rfl) T.m_abs (by decide +kernel) (pa_cons (pv 0) pa_nil)) (pe_op op_pow pe_int pe_int) (nomark _)) (pa_cons (pe_op op_mod (pe_callTy call_int1 (by rfl) T.m_int (by decide +kernel) (pa_cons (pe_callB call_abs (by rfl) T.m_abs (by decide +kernel) (pa_cons (pv 0) pa_nil)) pa_nil)) pe_int) (pa_cons pe_int pa_nil))))))), ?_⟩
    obtain ⟨G, ds, es, e, hd, hR, q⟩ := h
    have hl : ∃ x0, ds = [x0] := by
      match ds, hR with
      | [x0], _ => exact ⟨x0, rfl⟩
    obtain ⟨x0, rfl⟩ := hl
    cases hd with
    | @cons v0 vs0 _ _ dv0 hd =>
    cases hd
    have g0 : Good K ⟨G, H, none⟩ _ [Sl.val v0 x0] G H := good_start e ((.cons dv0 .nil)) n_law_box
    obtain ⟨g, rfl, rfl⟩ := hR
    exact ret_new g0 (ea_cons (ev_cb (ea_cons (ev_var rfl) ea_nil) cb_abs) (ea_cons (ev_op (ev_cb (ea_cons (ev_var rfl) ea_nil) cb_abs) (ev_op ev_int ev_int (op_powI ⟨by decide, by decide, by decide⟩)) op_geI) (ea_cons (ev_op (ev_cb (ea_cons (ev_cb (ea_cons (ev_var rfl) ea_nil) cb_abs) ea_nil) cb_int) ev_int (op_modI (by decide))) (ea_cons ev_int ea_nil)))) (sz 4) rfl q
def R_law_take : List D → (D → Prop) → Prop
  | [x], Pd => ∃ m : Nat, x = .int m ∧ 1 ≤ m ∧ m < 1073741824 ∧ ∀ i : Nat, i < m → Pd (.int i)
  | _, _ => False
theorem ok_law_take (T : Tx K mg) : FnOk P w K mg base CX0 1 T.f_law_take T.d_law_take p_law_take (spB K 1 R_law_take) := by
  refine T.F_law_take.ok sc_law_take (fun vs H Q E h => ?_) (fun cdv A outer s H vs Q E hr h => ?_)
  · obtain ⟨G, b, n, xs, bs, ws, ds, Pd, rfl, hG, hH, hx, hbx, hn, e, hd, hR, q⟩ := h
    rw [List.length_cons, hd.length]
    match ds, hR with
    | [_], _ => rfl
  · refine ⟨_, (pss_cons (ps_if (PW.pt (pw_and (pt_val (pe_ix (ix_listK K) (pv 0) pe_int (fun _ _ => rfl))) (pw_and1 (pt_cmpR op_gt (pe_ix (ix_listK K) (pv 0) pe_int (fun _ _ => rfl)) pe_int (nomark _))))) (pss_cons (ps_set (i := 2) sc_law_take.nd rfl (.inl rfl) (pe_op op_mod (pe_callTy call_int1 (by rfl) T.m_int (by decide +kernel) (pa_cons (pe_ix (ix_listK K) (pv 0) pe_int (fun _ _ => rfl)) pa_nil)) (pv 1)))
      (pss_cons (ps_asg (pe_op op_fdiv (pe_ix (ix_listK K) (pv 0) pe_int (fun _ _ => rfl)) (pv 1)) (pg_sub (pv 0) pe_int set_list))
      (pss_one (ps_ret (pv 2))))) pss_nil)
      (pss_cons (ps_asg (pe_op op_add (pe_ix (ix_listK K) (pv 0) pe_int (fun _ _ => rfl)) pe_int) (pg_sub (pv 0) pe_int set_list))
      (pss_cons (ps_set (i := 3) sc_law_take.nd rfl (.inl rfl) (pe_op op_mod (pe_callTy call_int1 (by rfl) T.m_int (by decide +kernel) (pa_cons (pe_op op_pow (pe_op op_add (pe_op op_add (pe_ix (ix_listK K) (pv 0) pe_int (fun _ _ => rfl)) (pe_op op_mul pe_int (pe_ix (ix_listK K) (pv 0) pe_int (fun _ _ => rfl)))) pe_int) pe_int) pa_nil)) pe_int))
      (pss_one (ps_ret (pe_op op_mod (pe_callTy call_int1 (by rfl) T.m_int (by decide +kernel) (pa_cons (pe_op op_fdiv (pe_op op_mod (pe_callTy call_int1 (by rfl) T.m_int (by decide +kernel) (pa_cons (pe_op op_pow (pe_op op_add (pe_op op_mul (pv 3) pe_int) (pe_op op_mul pe_int (pe_ix (ix_listK K) (pv 0) pe_int (fun _ _ => rfl)))) pe_int) pa_nil)) pe_int) pe_int) pa_nil)) (pv 1))))))), ?_⟩
    obtain ⟨G, b, n, xs, bs, ws, ds, Pd, rfl, hG, hH, hx, hbx, hn, e, hd, hR, q⟩ := h
    have hl : ∃ x1, ds = [x1] := by
      match ds, hR with
      | [x1], _ => exact ⟨x1, rfl⟩
    obtain ⟨x1, rfl⟩ := hl
    cases hd with
    | @cons v1 vs0 _ _ dv1 hd =>
    cases hd
    refine EX.finB (W := fun _ _ _ _ => False) (k := 1) (n := n) (env := [Sl.own b bs, Sl.val v1 x1, Sl.un, Sl.un]) rfl (good_box e hG hH hx ((.cons dv1 .nil)) n_law_take) q ?_
    obtain ⟨m, rfl, m1, m2, hP⟩ := hR
    obtain ⟨g, f, s, c, rfl, g0, s0, s1, c0, c1⟩ := hbx
    have tst : EVT K ⟨G, H, some b⟩ (tAnd (tB (tOp (rIxL K) (tVar 0) (tC (.int 1)))) (tTest (tOp (rI0 fun i j => .bl (decide (j < i))) (tOp (rIxL K) (tVar 0) (tC (.int 0))) (tC (.int 0))))) [Sl.own b [.int g, .bl f, .int s, .int c], Sl.val v1 (.int m), Sl.un, Sl.un] (f && decide (0 < g)) :=
      et_and (et_B (ev_ixOwn rfl ev_int rfl)) fun _ => et_test (ev_op (ev_ixOwn rfl ev_int rfl) ev_int op_gtI)
    refine ex_when tst (fun h => ?_) fun _ => ?_
    · obtain ⟨hf, hg⟩ := Bool.and_eq_true_iff.mp h
      have hg' := of_decide_eq_true hg
      refine ex_let (ev_op (ev_cb (ea_cons (ev_ixOwn rfl ev_int rfl) ea_nil) cb_int) (ev_var rfl) (op_modI (by omega))) fun u => ?_
      refine ex_cons (ex_setOwn (kk := 0) (j := 0) rfl (ev_op (ev_ixOwn rfl ev_int rfl) (ev_var rfl) (op_fdivI (by omega))) ev_int rfl rfl) ?_
      refine ex_ret (ev_var rfl) fun v => ⟨?_, _, ⟨g / m, f, s, c, rfl, Int.ediv_nonneg g0 (by omega), s0, s1, c0, by omega⟩, rfl⟩
      have h1 := Int.emod_nonneg g (show (m : Int) ≠ 0 by omega)
      have h2 := Int.emod_lt_of_pos g (show (0 : Int) < m by omega)
      rw [show g % (m : Int) = ((g % (m : Int)).toNat : Int) by omega]
      exact hP _ (by omega)
    · refine ex_cons (ex_setOwn (kk := 3) (j := 3) rfl (ev_op (ev_ixOwn rfl ev_int rfl) ev_int op_addI) ev_int rfl rfl) ?_
      refine ex_let (ev_op (ev_cb (ea_cons (ev_op (ev_op (ev_op (ev_ixOwn rfl ev_int rfl) (ev_op ev_int (ev_ixOwn rfl ev_int rfl) (op_mulI (.inl ⟨by decide, by decide⟩))) op_addI) ev_int op_addI) ev_int (op_powI ⟨by decide, by decide, by omega⟩)) ea_nil) cb_int) ev_int (op_modI (by decide))) fun u => ?_
      have r1 := Int.emod_nonneg ((s + 15485917 * (c + 1) + 179424691) ^ (5 : Int).toNat) (show (2147483647 : Int) ≠ 0 by decide)
      have r2 := Int.emod_lt_of_pos ((s + 15485917 * (c + 1) + 179424691) ^ (5 : Int).toNat) (show (0 : Int) < 2147483647 by decide)
      generalize (s + 15485917 * (c + 1) + 179424691) ^ (5 : Int).toNat % 2147483647 = r at r1 r2
      refine ex_ret (ev_op (ev_cb (ea_cons (ev_op (ev_op (ev_cb (ea_cons (ev_op (ev_op (ev_op (ev_var rfl) ev_int (op_mulI (.inr ⟨by decide, by decide⟩))) (ev_op ev_int (ev_ixOwn rfl ev_int rfl) (op_mulI (.inl ⟨by decide, by decide⟩))) op_addI) ev_int (op_powI ⟨by decide, by decide, by omega⟩)) ea_nil) cb_int) ev_int (op_modI (by decide))) ev_int (op_fdivI (by decide))) ea_nil) cb_int) (ev_var rfl) (op_modI (by omega))) fun v => ⟨?_, _, ⟨g, f, s, c + 1, rfl, g0, s0, s1, by omega, by omega⟩, rfl⟩
      generalize ((r * 48271 + 104761 * (c + 1)) ^ (3 : Int).toNat % 2147483587 / 64) = t
      have h1 := Int.emod_nonneg t (show (m : Int) ≠ 0 by omega)
      have h2 := Int.emod_lt_of_pos t (show (0 : Int) < m by omega)
      rw [show t % (m : Int) = ((t % (m : Int)).toNat : Int) by omega]
      exact hP _ (by omega)
end
end Kx


set_option Elab.async false
set_option linter.all false
set_option maxRecDepth 100000
set_option maxHeartbeats 2000000
namespace Kx
open PySem PySem.Spec PyProof.Rows L2 DL
section
variable {P : Program} {w : World} {K : PySem.W.Frag} {mg : Str → Option Value} {base : Heap}
/-- equal data, at most n deep -/
def isAtom : D → Bool
  | .non => true | .bl _ => true | .int _ => true | .str _ => true | _ => false
def Sm : Nat → D → D → Prop
  | 0, x, y => x.top = y.top ∧ isAtom y.top = true
  | n + 1, x, y => (x.top = y.top ∧ isAtom y.top = true) ∨ ∃ xs ys, ((x.top = .tup xs ∧ y.top = .tup ys) ∨ (x.top = .lst xs ∧ y.top = .lst ys)) ∧ xs.length = ys.length ∧ ys.length < 10000 ∧ ∀ (i : Nat) (a b : D), xs[i]? = some a → ys[i]? = some b → Sm n a b
def R_same (n : Nat) : List D → D → Prop
  | [x, y], d => Sm n x y ∧ d = .bl true
  | _, _ => False
/-- the same small dict -/
def spSD (K : PySem.W.Frag) : Sp := fun vs H Q _ => ∃ (a : Addr) (kvs : List (Key × V)), vs = [.ref a, .ref a] ∧ H a = some (.dK kvs) ∧ (kvs = [] ∨ ∃ k i, kvs = [(k, .int i)]) ∧ ∀ H', Ex H H' → Q (.bl true) H'
def spSm (K : PySem.W.Frag) : Nat → Sp
  | 0 => fun _ _ _ _ => False
  | n + 1 => fun vs H Q E => spD K (R_same n) vs H Q E ∨ (1 ≤ n ∧ spSD K vs H Q E)
theorem spSm_len {n : Nat} {vs : List V} {H : Hp} {Q : VK} {E : XK} (h : spSm K n vs H Q E) : vs.length = 2 := by
  cases n with
  | zero => exact h.elim
  | succ n =>
    rcases h with ⟨G, ds, d, e, hd, hR, q⟩ | ⟨_, a, kvs, rfl, _⟩
    · rw [hd.length]
      match ds, hR with
      | [_, _], _ => rfl
    · rfl
variable {β : Bas} {env : Env'} {te : TE}
theorem ev_isN {d : D} {t : String} (h : EV K β te env d) (ht : tyD d = some t) : EV K β (tOp rIsN te (tC .non)) env (.bl (decide (t = "NoneType"))) := fun σ G H g Q q =>
  h σ G H g _ fun v G1 H1 t1 dv => ⟨rfl, by
    have e : decide (v = .non) = decide (t = "NoneType") := by
      have dt := Dat.top dv
      rw [← tyD_top] at ht
      have nt := top_no (d := d)
      generalize d.top = y at dt ht nt
      cases dt with
      | non => cases ht; rfl
      | bl => cases ht; rfl
      | int => cases ht; rfl
      | str => cases ht; rfl
      | tup => cases ht; rfl
      | lst => cases ht; rfl
      | dct => cases ht; rfl
      | op => cases ht
      | idn a => exact absurd rfl (nt _ _)
    rw [e]
    exact q _ G1 H1 t1 (.bl _)⟩
theorem ev_isT {d : D} {t T : String} {b : Bool} (h : EV K β te env d) (ht : tyD d = some t) (hk : kitB t T = some b) : EV K β (tCB (rIsi K) (tCons te (tCons (tC (.ty T)) tNil))) env (.bl b) :=
  ev_cb (ea_cons h (ea_cons ev_c ea_nil)) (cb_isi ht hk)
def rLenB (K : PySem.W.Frag) : List V → Hp → VK → Prop := fun xs H Q => DL.rLen K xs H Q ∨ ∃ a kvs, xs = [V.ref a] ∧ H a = some (.dK kvs) ∧ Q (.int kvs.length) H
theorem call_lenB {X : Cx} (K : PySem.W.Frag) (h : X.K = K := by rfl) : CallR X (.builtin "len") (rLenB K) := fun pins s σ H xs us Q I r hh => by
  rcases hh with hh | hh
  · exact call_lenK K h pins s σ H xs us Q I r hh
  · exact call_lenD pins s σ H xs us Q I r hh
theorem cb_or1 {r r' : List V → Hp → VK → Prop} {xs : List D} {z : D} (h : CbD K r xs z) : CbD K (fun xs H Q => r xs H Q ∨ r' xs H Q) xs z := fun G H vs e dl Q q => .inl (h G H vs e dl Q q)
theorem cb_lenB {x : D} {ds : List D} (h : x = .tup ds ∨ x = .lst ds) : CbD K (rLenB K) [x] (.int ds.length) := by
  rcases h with rfl | rfl
  · exact cb_or1 cb_lenT
  · exact cb_or1 cb_lenL
theorem ev_callSm {n : Nat} {ta : TA} {a b : D} {E : XK} (he : EVA K β ta env [a, b]) (h : Sm n a b) : EV K β (tCall (spSm K (n + 1)) [] E ta) env (.bl true) := fun σ G H g Q q =>
  he σ G H g _ fun vs G1 H1 t1 d1 => by
    show spSm K (n + 1) (vs ++ []) H1 Q E
    rw [List.append_nil]
    exact .inl ⟨G1, [a, b], _, t1.gh, d1, ⟨h, rfl⟩, fun v G2 H2 t2 dv => q v G2 H2 (t1.trans t2) dv⟩
theorem ev_dlc {m : Nat} {a : Addr} {kds : List (Key × D)} {E : XK} (h0 : env[0]? = some (.val (.ref a) (.dct kds))) (h1 : env[1]? = some (.val (.ref a) (.dct kds))) (hk : kds = [] ∨ ∃ k i, kds = [(k, .int i)]) (hl : env.length = 4) :
    EV K β (tLockE (tLc (iKeys (tVar 1)) (gName 2) (tOr (tB (tDNotIn (tVar 2) (tVar 0))) (tNot (tB (tCall (spSm K (m + 1)) [] E (tCons (tDGet (tVar 0) (tVar 2)) (tCons (tDGet (tVar 1) (tVar 2)) tNil)))))) (tVar 2) [2])) env (.lst []) := fun σ G H g Q q => by
  obtain ⟨o0, z0, rfl, d0⟩ := g.sl.get h0
  obtain ⟨o1, z1, rfl, d1⟩ := g.sl.get h1
  cases d1 with
  | @dct _ kvs _ ga dk =>
  have hH : H a = some (.dK kvs) := g.gh _ _ ga
  have hkv : kvs = [] ∨ ∃ k i, kvs = [(k, V.int i)] := by
    rcases hk with rfl | ⟨k, i, rfl⟩
    · cases dk; exact .inl rfl
    · cases dk with
      | cons x r => cases r; cases x; exact .inr ⟨k, i, rfl⟩
  have lenσ : σ.length = 4 := by
    have : ∀ {σ : Sg} {env : Env'}, SlsOk K β G H σ env → σ.length = env.length := by
      intro σ env s
      induction s with
      | nil => rfl
      | cons _ _ ih => simp [ih]
    rw [this g.sl, hl]
  refine ⟨a, .dK kvs, hH, trivial, fun od => ⟨.ref a, z1, a, od, rfl, .inl ⟨kvs, upd_same, ?_⟩⟩⟩
  intro Dl hD
  have hDa : Dl ≠ a := fun z => by rw [z, upd_same] at hD; cases hD
  have hDH : H Dl = none := by rw [upd_ne hDa] at hD; exact hD
  -- the state between the turns
  refine ⟨fun i mm H' => mm = kvs.length - i ∧ i ≤ kvs.length ∧ H' Dl = some (.lst []) ∧ H' a = some (.frz od (.dK kvs)) ∧ ∀ b o, b ≠ a → H b = some o → H' b = some o, ⟨kvs.length, by simp, Nat.zero_le _, upd_same, by rw [upd_ne (Ne.symm hDa), upd_same], fun b o hb e => ?_⟩, ?_⟩
  · rw [upd_ne (fun z => by rw [z, hDH] at e; cases e), upd_ne hb]; exact e
  rintro i mm H' ⟨rfl, hi, hDl, hfa, hold⟩
  by_cases hlt : i < kvs.length
  · refine .inr ⟨⟨hfa, hlt⟩, fun H' => i + 1 ≤ kvs.length ∧ H' Dl = some (.lst []) ∧ H' a = some (.frz od (.dK kvs)) ∧ ∀ b o, b ≠ a → H b = some o → H' b = some o, fun H'' ⟨z1, z2, z3, z4⟩ => ⟨kvs.length - (i + 1), by omega, rfl, z1, z2, z3, z4⟩, fun x H'' hy => ?_⟩
    obtain ⟨rfl, k, v, hkv2, rfl⟩ := hy
    have hv : ∃ j, v = V.int j := by
      rcases hkv with rfl | ⟨k', j, rfl⟩
      · cases hkv2
      · cases i with
        | zero => cases hkv2; exact ⟨j, rfl⟩
        | succ i => simp at hkv2
    obtain ⟨j, rfl⟩ := hv
    have hval : valV kvs k = some (V.int j) := by
      rcases hkv with rfl | ⟨k', j', rfl⟩
      · cases hkv2
      · cases i with
        | zero => cases hkv2; simp [valV]
        | succ i => simp at hkv2
    refine ⟨wipe_set σ [2] 2 _ (by decide), ?_⟩
    have w0 : ((L2.wipe σ [2]).set 2 (some (kV k)))[0]? = some (some (V.ref a)) := by
      show ((σ.set 2 none).set 2 (some (kV k)))[0]? = _
      rw [List.getElem?_set_ne (by decide), List.getElem?_set_ne (by decide)]; exact z0
    have w1 : ((L2.wipe σ [2]).set 2 (some (kV k)))[1]? = some (some (V.ref a)) := by
      show ((σ.set 2 none).set 2 (some (kV k)))[1]? = _
      rw [List.getElem?_set_ne (by decide), List.getElem?_set_ne (by decide)]; exact z1
    have w2 : ((L2.wipe σ [2]).set 2 (some (kV k)))[2]? = some (some (kV k)) := by
      show ((σ.set 2 none).set 2 (some (kV k)))[2]? = _
      rw [List.getElem?_set_self (by rw [List.length_set, lenσ]; decide)]
    have gt : DGet H'' a (kV k) (some (V.int j)) := .inl ⟨kvs, k, .inr ⟨_, hfa⟩, rfl, hval.symm⟩
    refine ⟨_, w2, _, w0, a, _, rfl, gt, false, rfl, ?_⟩
    show _
    refine ⟨_, w0, _, w2, a, _, rfl, gt, _, w1, _, w2, a, _, rfl, gt, ?_⟩
    refine .inl ⟨fun _ => none, [.int j, .int j], _, (fun _ _ e => by cases e), .cons (.int j) (.cons (.int j) .nil), ⟨?_, rfl⟩, fun v G2 H2 t2 dv => ?_⟩
    · cases m with
      | zero => exact ⟨rfl, rfl⟩
      | succ m => exact .inl ⟨rfl, rfl⟩
    · obtain rfl := dv.blV
      refine ⟨true, rfl, ?_⟩
      show (if (!true) = true then _ else _)
      rw [if_neg (by decide)]
      exact ⟨hlt, t2.hh _ _ hDl, t2.hh _ _ hfa, fun b o hb e => t2.hh _ _ (hold b o hb e)⟩
  · have hil : kvs.length ≤ i := by omega
    refine .inl ⟨⟨hfa, hil⟩, hfa, ?_⟩
    refine q (.ref Dl) (upd G Dl (.lst [])) (upd H' a (.dK kvs)) ⟨.new (g.gh.back hDH), fun b o e => ?_, fun b o e => ?_, fun b e1 e2 => ?_⟩ (.lst upd_same .nil)
    · by_cases hb : b = a
      · rw [hb, upd_same]; rw [hb, hH] at e; exact e
      · rw [upd_ne hb]; exact hold b o hb e
    · by_cases hb : b = Dl
      · rw [hb, upd_same] at e; rw [hb, upd_ne hDa, hDl]; exact e
      · rw [upd_ne hb] at e
        by_cases hb2 : b = a
        · rw [hb2, upd_same]; rw [hb2, ga] at e; exact e
        · rw [upd_ne hb2]; exact hold b o hb2 (g.gh _ _ e)
    · rw [upd_ne (fun z => e2 (by rw [z]; exact hDH))]; exact e1
theorem cb_or2 {r r' : List V → Hp → VK → Prop} {xs : List D} {z : D} (h : CbD K r' xs z) : CbD K (fun xs H Q => r xs H Q ∨ r' xs H Q) xs z := fun G H vs e dl Q q => .inr (h G H vs e dl Q q)
theorem DatK.length {G : Hp} : ∀ {vs : List (Key × V)} {ds : List (Key × D)}, DatK K G vs ds → vs.length = ds.length
  | _, _, .nil => rfl
  | _, _, .cons _ t => by rw [List.length_cons, List.length_cons, DatK.length t]
theorem cb_lenBD {kds : List (Key × D)} : CbD K (rLenB K) [.dct kds] (.int kds.length) := cb_or2 fun G H vs e dl Q q => by
  cases dl with | cons a t =>
  cases t
  cases a with
  | dct h1 h2 => exact ⟨_, _, rfl, e _ _ h1, by rw [DatK.length h2]; exact q _ G H (.refl e) (.int _)⟩
theorem ok_same_step (T : Tx K mg) (n : Nat) (ih : FnOk P w K mg base CX0 n T.f_law_same T.d_law_same p_law_same (spSm K n)) : FnOk P w K mg base CX0 (n + 1) T.f_law_same T.d_law_same p_law_same (spSm K (n + 1)) := by
  refine T.F_law_same.ok sc_law_same (fun vs H Q E h => ?_) (fun cdv A outer s H vs Q E hr h => ?_)
  · exact spSm_len h
  · refine ⟨_, (pss_cons (ps_if (PW.pt (pw_or (pt_cmpR op_isN1 (pv 1) pe_non (nomark _)) (pw_or1 (pt_val (pe_callB (call_isiK K) (by rfl) T.m_isinstance (by decide +kernel) (pa_cons (pv 1) (pa_cons (pe_bltn (v := .ty "bool") (by rfl) T.m_bool (by decide +kernel) rfl) pa_nil))))))) (pss_one (ps_ret (pe_ifExp (pt_cmpR op_isN1 (pv 1) pe_non (nomark _)) (pe_cmpR op_isN1 (pv 0) pe_non (nomark _)) (pe_and (pe_callB (call_isiK K) (by rfl) T.m_isinstance (by decide +kernel) (pa_cons (pv 0) (pa_cons (pe_bltn (v := .ty "bool") (by rfl) T.m_bool (by decide +kernel) rfl) pa_nil))) (pe_one (pe_cmpR op_eq (pe_cmpR op_isBl (pv 0) pe_bl (nomark _)) (pe_cmpR op_isBl (pv 1) pe_bl (nomark _)) (nomark _))))))) pss_nil)
      (pss_cons (ps_if (pt_val (pe_callB (call_isiK K) (by rfl) T.m_isinstance (by decide +kernel) (pa_cons (pv 1) (pa_cons (pe_bltn (v := .ty "int") (by rfl) T.m_int (by decide +kernel) rfl) pa_nil)))) (pss_one (ps_ret (pe_and (pe_callB (call_isiK K) (by rfl) T.m_isinstance (by decide +kernel) (pa_cons (pv 0) (pa_cons (pe_bltn (v := .ty "int") (by rfl) T.m_int (by decide +kernel) rfl) pa_nil))) (pe_and (pe_not (pe_callB (call_isiK K) (by rfl) T.m_isinstance (by decide +kernel) (pa_cons (pv 0) (pa_cons (pe_bltn (v := .ty "bool") (by rfl) T.m_bool (by decide +kernel) rfl) pa_nil)))) (pe_one (pe_cmpR op_eq (pe_op op_sub (pe_callTy call_int1 (by rfl) T.m_int (by decide +kernel) (pa_cons (pv 0) pa_nil)) (pv 1)) pe_int (nomark _))))))) pss_nil)
      (pss_cons (ps_if (pt_val (pe_callB (call_isiK K) (by rfl) T.m_isinstance (by decide +kernel) (pa_cons (pv 1) (pa_cons (pe_bltn (v := .ty "str") (by rfl) T.m_str (by decide +kernel) rfl) pa_nil)))) (pss_one (ps_ret (pe_and (pe_callB (call_isiK K) (by rfl) T.m_isinstance (by decide +kernel) (pa_cons (pv 0) (pa_cons (pe_bltn (v := .ty "str") (by rfl) T.m_str (by decide +kernel) rfl) pa_nil))) (pe_one (pe_cmpR op_eq (pv 0) (pv 1) (nomark _)))))) pss_nil)
      (pss_cons (ps_if (pt_val (pe_callB (call_isiK K) (by rfl) T.m_isinstance (by decide +kernel) (pa_cons (pv 1) (pa_cons (pe_bltn (v := .ty "dict") (by rfl) T.m_dict (by decide +kernel) rfl) pa_nil)))) (pss_cons (ps_if (PW.pt (pw_or (pt_not (pt_val (pe_callB (call_isiK K) (by rfl) T.m_isinstance (by decide +kernel) (pa_cons (pv 0) (pa_cons (pe_bltn (v := .ty "dict") (by rfl) T.m_dict (by decide +kernel) rfl) pa_nil))))) (pw_or1 (pt_cmpR op_ne (pe_callB (call_lenB K) (by rfl) T.m_len (by decide +kernel) (pa_cons (pv 0) pa_nil)) (pe_callB (call_lenB K) (by rfl) T.m_len (by decide +kernel) (pa_cons (pv 1) pa_nil)) (nomark _))))) (pss_one (ps_ret pe_bl)) pss_nil)
      (pss_one (ps_ret (pe_cmpR (op_eqD hr.units) (pe_lock (pe_lc (own := [("key", 2)]) rfl sc_law_same.nd (pi_keys (pv 1)) (blkOk_by (by rfl)) (fun _ _ _ _ _ => pg_name (i := 2) sc_law_same.nd rfl (by first | exact .inl rfl | exact .inr rfl)) (fun _ _ _ _ _ => (pts_one (PW.pt (pw_or (pt_cmp (pc_dnotin (hu_of hr) (pv 2) (pv 0))) (pw_or1 (pt_not (pt_val (pe_call ih (hr.mono (by omega)) (by rfl) T.g_law_same T.F_law_same.kp T.b_law_same .nil pass0 (pa_cons (pe_dget (hu_of hr) (pv 0) (pv 2) (fun _ _ => rfl)) (pa_cons (pe_dget (hu_of hr) (pv 1) (pv 2) (fun _ _ => rfl)) pa_nil)))))))))) (fun _ _ _ _ _ => (pv 2)))) (pe_lst pa_nil) (nomark _))))) pss_nil)
      (pss_cons (ps_if (PW.pt (pw_or (pt_not (pt_val (pe_callB (call_isiTK K) (by rfl) T.m_isinstance (by decide +kernel) (pa_cons (pv 1) (pa_cons (pe_tup (pa_cons (pe_bltn (v := .ty "list") (by rfl) T.m_list (by decide +kernel) rfl) (pa_cons (pe_bltn (v := .ty "tuple") (by rfl) T.m_tuple (by decide +kernel) rfl) pa_nil))) pa_nil))))) (pw_or1 (pt_not (pt_val (pe_callB (call_isiTK K) (by rfl) T.m_isinstance (by decide +kernel) (pa_cons (pv 0) (pa_cons (pe_tup (pa_cons (pe_bltn (v := .ty "list") (by rfl) T.m_list (by decide +kernel) rfl) (pa_cons (pe_bltn (v := .ty "tuple") (by rfl) T.m_tuple (by decide +kernel) rfl) pa_nil))) pa_nil)))))))) (pss_one (ps_ret pe_bl)) pss_nil)
      (pss_cons (ps_if (PW.pt (pw_or (pt_cmpR op_ne (pe_callB (call_isiK K) (by rfl) T.m_isinstance (by decide +kernel) (pa_cons (pv 0) (pa_cons (pe_bltn (v := .ty "list") (by rfl) T.m_list (by decide +kernel) rfl) pa_nil))) (pe_callB (call_isiK K) (by rfl) T.m_isinstance (by decide +kernel) (pa_cons (pv 1) (pa_cons (pe_bltn (v := .ty "list") (by rfl) T.m_list (by decide +kernel) rfl) pa_nil))) (nomark _)) (pw_or1 (pt_cmpR op_ne (pe_callB (call_lenB K) (by rfl) T.m_len (by decide +kernel) (pa_cons (pv 0) pa_nil)) (pe_callB (call_lenB K) (by rfl) T.m_len (by decide +kernel) (pa_cons (pv 1) pa_nil)) (nomark _))))) (pss_one (ps_ret pe_bl)) pss_nil)
      (pss_one (ps_ret (pe_cmpR (op_eqD hr.units) (pe_lc (own := [("k", 3)]) rfl sc_law_same.nd (pi_range1 (by rfl) T.m_range (pa_cons (pe_callB (call_lenB K) (by rfl) T.m_len (by decide +kernel) (pa_cons (pv 1) pa_nil)) pa_nil)) (blkOk_by (by rfl)) (fun _ _ _ _ _ => pg_name (i := 3) sc_law_same.nd rfl (by first | exact .inl rfl | exact .inr rfl)) (fun _ _ _ _ _ => (pts_one (pt_not (pt_val (pe_call ih (hr.mono (by omega)) (by rfl) T.g_law_same T.F_law_same.kp T.b_law_same .nil pass0 (pa_cons (pe_ix (ix_seqK K) (pv 0) (pv 3) (fun _ _ => rfl)) (pa_cons (pe_ix (ix_seqK K) (pv 1) (pv 3) (fun _ _ => rfl)) pa_nil))))))) (fun _ _ _ _ _ => (pv 3))) (pe_lst pa_nil) (nomark _)))))))))), ?_⟩
    rcases h with ⟨G, ds, d, e, hd, hR, q⟩ | ⟨hn, a, kvs, rfl, ha, hk, q⟩
    · have hl : ∃ x0 x1, ds = [x0, x1] := by
        match ds, hR with
        | [x0, x1], _ => exact ⟨x0, x1, rfl⟩
      obtain ⟨x0, x1, rfl⟩ := hl
      cases hd with
      | @cons v0 vs0 _ _ dv0 hd =>
      cases hd with
      | @cons v1 vs1 _ _ dv1 hd =>
      cases hd
      obtain ⟨hS, rfl⟩ := hR
      refine EX.fin (W := fun _ _ _ _ => False) (good_start e (.cons dv0 (.cons dv1 .nil)) n_law_same) q ?_
      show EX K ⟨G, H, none⟩ _ _ [Sl.val v0 x0, Sl.val v1 x1, Sl.un, Sl.un] _
      have tst : ∀ {t : String} {c : Bool}, tyD x1 = some t → kitB t "bool" = some c → EVT K ⟨G, H, none⟩ (tOr (tTest (tOp rIsN (tVar 1) (tC .non))) (tB (tCB (rIsi K) (tCons (tVar 1) (tCons (tC (.ty "bool")) tNil))))) [Sl.val v0 x0, Sl.val v1 x1, Sl.un, Sl.un] (decide (t = "NoneType") || c) :=
        fun ht hk => et_or (et_test (ev_isN (ev_var rfl) ht)) fun _ => et_B (ev_isT (ev_var rfl) ht hk)
      have hS' : (x0.top = x1.top ∧ isAtom x1.top = true) ∨ ∃ m, n = m + 1 ∧ ∃ xs ys, ((x0.top = .tup xs ∧ x1.top = .tup ys) ∨ (x0.top = .lst xs ∧ x1.top = .lst ys)) ∧ xs.length = ys.length ∧ ys.length < 10000 ∧ ∀ (i : Nat) (a b : D), xs[i]? = some a → ys[i]? = some b → Sm m a b := by
        cases n with
        | zero => exact .inl hS
        | succ m => exact hS.imp id fun h => ⟨m, rfl, h⟩
      rcases hS' with ⟨he, hA⟩ | ⟨m, rfl, xs, ys, hT, hlen, hlt, hall⟩
      · have hty : tyD x0 = tyD x1 := by rw [← tyD_top, he, tyD_top]
        cases h1 : x1.top with
        | non =>
          have ht : tyD x1 = some "NoneType" := by rw [← tyD_top, h1]; rfl
          refine ex_when (tst (c := false) ht rfl) (fun _ => ?_) fun h => absurd h (by decide)
          exact ex_ret (ev_if (et_test (ev_isN (ev_var rfl) ht)) (fun _ => ev_isN (ev_var rfl) (hty.trans ht)) fun h => absurd h (by decide)) fun v => rfl
        | bl b =>
          have ht : tyD x1 = some "bool" := by rw [← tyD_top, h1]; rfl
          refine ex_when (tst (c := true) ht rfl) (fun _ => ?_) fun h => absurd h (by decide)
          refine ex_ret (ev_if (et_test (ev_isN (ev_var rfl) ht)) (fun h => absurd h (by decide)) fun _ => ?_) fun v => rfl
          refine ev_is (ev_and (b := true) (ev_isT (ev_var rfl) (hty.trans ht) rfl) fun _ => ev_is (ev_op (ev_op (ev_tp (ev_var rfl) (he.trans h1)) ev_bl op_isBD) (ev_op (ev_tp (ev_var rfl) h1) ev_bl op_isBD) op_eqB) ?_) rfl
          simp
        | int i =>
          have ht : tyD x1 = some "int" := by rw [← tyD_top, h1]; rfl
          refine ex_when (tst (c := false) ht rfl) (fun h => absurd h (by decide)) fun _ => ?_
          refine ex_when (et_B (ev_isT (ev_var rfl) ht rfl)) (fun _ => ?_) fun h => absurd h (by decide)
          refine ex_ret (ev_is (ev_and (b := true) (ev_isT (b := true) (ev_var rfl) (hty.trans ht) rfl) fun _ => ev_is (ev_and (ev_not (a := false) (ev_isT (b := false) (ev_var rfl) (hty.trans ht) rfl)) fun _ => ev_op (ev_op (ev_cb (ea_cons (ev_tp (ev_var rfl) (he.trans h1)) ea_nil) cb_int) (ev_tp (ev_var rfl) h1) op_subI) ev_int op_eqI) ?_) rfl) fun v => rfl
          simp
        | str i =>
          have ht : tyD x1 = some "str" := by rw [← tyD_top, h1]; rfl
          refine ex_when (tst (c := false) ht rfl) (fun h => absurd h (by decide)) fun _ => ?_
          refine ex_when (et_B (ev_isT (ev_var rfl) ht rfl)) (fun h => absurd h (by decide)) fun _ => ?_
          refine ex_when (et_B (ev_isT (ev_var rfl) ht rfl)) (fun _ => ?_) fun h => absurd h (by decide)
          refine ex_ret (ev_is (ev_and (ev_isT (b := true) (ev_var rfl) (hty.trans ht) rfl) fun _ => ev_op (ev_tp (ev_var rfl) (he.trans h1)) (ev_tp (ev_var rfl) h1) op_eqStr) ?_) fun v => rfl
          simp
        | _ => rw [h1] at hA; cases hA
      · obtain ⟨ty, L, ht0, ht1, hN, hb, hi, hs, hdd, hL, hTu⟩ : ∃ (ty : String) (L : Bool), tyD x0 = some ty ∧ tyD x1 = some ty ∧ decide (ty = "NoneType") = false ∧ kitB ty "bool" = some false ∧ kitB ty "int" = some false ∧ kitB ty "str" = some false ∧ kitB ty "dict" = some false ∧ kitB ty "list" = some L ∧ kitB ty "tuple" = some (!L) := by
          rcases hT with ⟨a0, a1⟩ | ⟨a0, a1⟩
          · exact ⟨"tuple", false, by rw [← tyD_top, a0]; rfl, by rw [← tyD_top, a1]; rfl, rfl, rfl, rfl, rfl, rfl, rfl, rfl⟩
          · exact ⟨"list", true, by rw [← tyD_top, a0]; rfl, by rw [← tyD_top, a1]; rfl, rfl, rfl, rfl, rfl, rfl, rfl, rfl⟩
        have hx0 : x0.top = .tup xs ∨ x0.top = .lst xs := hT.imp (fun h => h.1) (fun h => h.1)
        have hx1 : x1.top = .tup ys ∨ x1.top = .lst ys := hT.imp (fun h => h.2) (fun h => h.2)
        refine ex_when (tst ht1 hb) (fun h => by rw [hN] at h; cases h) fun _ => ?_
        refine ex_when (et_B (ev_isT (ev_var rfl) ht1 hi)) (fun h => nomatch h) fun _ => ?_
        refine ex_when (et_B (ev_isT (ev_var rfl) ht1 hs)) (fun h => nomatch h) fun _ => ?_
        refine ex_when (et_B (ev_isT (ev_var rfl) ht1 hdd)) (fun h => nomatch h) fun _ => ?_
        refine ex_when (b := false) (et_is (et_or (et_not (et_B (ev_isi2 (ev_var rfl) ht1 hL hTu))) fun _ => et_not (et_B (ev_isi2 (ev_var rfl) ht0 hL hTu))) (by cases L <;> rfl)) (fun h => nomatch h) fun _ => ?_
        refine ex_when (b := false) (et_is (et_or (et_test (ev_op (ev_isT (ev_var rfl) ht0 hL) (ev_isT (ev_var rfl) ht1 hL) op_neB)) fun _ => et_test (ev_op (ev_cb (ea_cons (ev_top (ev_var rfl)) ea_nil) (cb_lenB hx0)) (ev_cb (ea_cons (ev_top (ev_var rfl)) ea_nil) (cb_lenB hx1)) op_neI)) (by rw [hlen]; simp)) (fun h => nomatch h) fun _ => ?_
        have hnil : keep (fun _ => false) (fun _ => D.non) ys.length = [] := by unfold keep; simp
        refine ex_ret (ev_op (ev_is (ev_lcRf (n := ys.length) (f := fun _ => false) (F := fun _ => .non) (ev_cb (ea_cons (ev_top (ev_var rfl)) ea_nil) (cb_lenB hx1)) (by omega) (by decide) fun i v hi => ⟨?_, fun h => nomatch h⟩) (by rw [hnil])) (ev_lst ea_nil (sz 0)) op_eqNil) fun v => rfl
        have e0 : xs[i]? = some xs[i] := List.getElem?_eq_getElem (by omega)
        have e1 : ys[i]? = some ys[i] := List.getElem?_eq_getElem hi
        exact et_is (et_not (et_B (ev_callSm (ea_cons (ev_op (ev_top (ev_var rfl)) (ev_var rfl) (op_ix hx0 (atI_natD e0))) (ea_cons (ev_op (ev_top (ev_var rfl)) (ev_var rfl) (op_ix hx1 (atI_natD e1))) ea_nil)) (hall i _ _ e0 e1)))) rfl
    · obtain ⟨m, rfl⟩ : ∃ m, n = m + 1 := ⟨n - 1, by omega⟩
      let kds : List (Key × D) := kvs.map fun kv => (kv.1, match kv.2 with | .int i => D.int i | _ => D.non)
      have hkd : kds = [] ∨ ∃ k i, kds = [(k, .int i)] := by
        rcases hk with rfl | ⟨k, i, rfl⟩
        · exact .inl rfl
        · exact .inr ⟨k, i, rfl⟩
      let G : Hp := fun b => if b = a then H a else none
      have hG : G a = some (.dK kvs) := by show (if a = a then H a else none) = _; rw [if_pos rfl, ha]
      have e : Ex G H := fun b o z => by
        by_cases hb : b = a
        · rw [hb] at z ⊢; rw [hG] at z; rw [ha]; exact z
        · have : G b = none := if_neg hb
          rw [this] at z; cases z
      have dk : DatK K G kvs kds := by
        rcases hk with rfl | ⟨k, i, rfl⟩
        · exact .nil
        · exact .cons (.int i) .nil
      have dv : Dat K G (.ref a) (.dct kds) := .dct hG dk
      refine EX.fin (W := fun _ _ _ _ => False) (d := .bl true) (good_start e (.cons dv (.cons dv .nil)) n_law_same) (fun v G' H' t dv => by obtain rfl := dv.blV; exact q H' t.hh) ?_
      show EX K ⟨G, H, none⟩ _ _ [Sl.val (.ref a) (.dct kds), Sl.val (.ref a) (.dct kds), Sl.un, Sl.un] _
      refine ex_when (b := false) (et_is (et_or (et_test (ev_isN (t := "dict") (ev_var rfl) rfl)) fun _ => et_B (ev_isT (b := false) (ev_var rfl) rfl rfl)) rfl) (fun h => nomatch h) fun _ => ?_
      refine ex_when (b := false) (et_B (ev_isT (ev_var rfl) rfl rfl)) (fun h => nomatch h) fun _ => ?_
      refine ex_when (b := false) (et_B (ev_isT (ev_var rfl) rfl rfl)) (fun h => nomatch h) fun _ => ?_
      refine ex_when (b := true) (et_B (ev_isT (ev_var rfl) rfl rfl)) (fun _ => ?_) fun h => nomatch h
      refine ex_when (b := false) (et_is (et_or (et_not (et_B (ev_isT (b := true) (ev_var rfl) rfl rfl))) fun _ => et_test (ev_op (ev_cb (ea_cons (ev_var rfl) ea_nil) cb_lenBD) (ev_cb (ea_cons (ev_var rfl) ea_nil) cb_lenBD) op_neI)) (by simp)) (fun h => nomatch h) fun _ => ?_
      exact ex_ret (ev_op (ev_dlc rfl rfl hkd rfl) (ev_lst ea_nil (sz 0)) op_eqNil) fun v => rfl
theorem ok_law_same (T : Tx K mg) : ∀ n, FnOk P w K mg base CX0 n T.f_law_same T.d_law_same p_law_same (spSm K n)
  | 0 => ⟨fun vs H Q E h => h.elim, fun _ _ _ _ _ _ _ _ _ _ _ _ _ h => h.elim⟩
  | n + 1 => ok_same_step T n (ok_law_same T n)
end
end Kx


set_option Elab.async false
set_option linter.all false
set_option maxRecDepth 100000
set_option maxHeartbeats 2000000
namespace Kx
open PySem PySem.Spec PyProof.Rows L2 DL
section
variable {P : Program} {w : World} {K : PySem.W.Frag} {mg : Str → Option Value} {base : Heap}
theorem ty_dl {x : D} {t : String} (e : tyD x = some t) : (∃ ds, t = "list" ∧ x.top = .lst ds) ∨ (∃ ds, t = "dict" ∧ x.top = .dct ds) ∨ (kitB t "list" = some false ∧ kitB t "dict" = some false) := by
  have nt := top_no (d := x)
  rw [← tyD_top] at e
  generalize x.top = y at e nt
  cases y with
  | lst ds => cases e; exact .inl ⟨ds, rfl, rfl⟩
  | dct ds => cases e; exact .inr (.inl ⟨ds, rfl, rfl⟩)
  | idn v d => exact absurd rfl (nt v d)
  | op v => cases e
  | _ => cases e; exact .inr (.inr ⟨rfl, rfl⟩)
def R_law_copy : List D → D → Prop
  | [x], d => tyD x ≠ none ∧ d = x.top
  | _, _ => False
theorem ok_law_copy (T : Tx K mg) : FnOk P w K mg base CX0 1 T.f_law_copy T.d_law_copy p_law_copy (spD K R_law_copy) := by
  refine T.F_law_copy.ok sc_law_copy (fun vs H Q E h => ?_) (fun cdv A outer s H vs Q E hr h => ?_)
  · obtain ⟨G, ds, d, e, hd, hR, q⟩ := h
    rw [hd.length]
    match ds, hR with
    | [_], _ => rfl
  · refine ⟨_, (pss_one (ps_ret (pe_ifExp (pt_val (pe_callB (call_isiK K) (by rfl) T.m_isinstance (by decide +kernel) (pa_cons (pv 0) (pa_cons (pe_bltn (v := .ty "list") (by rfl) T.m_list (by decide +kernel) rfl) pa_nil)))) (pe_callTy (call_list_ofK K) (by rfl) T.m_list (by decide +kernel) (pa_cons (pv 0) pa_nil)) (pe_ifExp (pt_val (pe_callB (call_isiK K) (by rfl) T.m_isinstance (by decide +kernel) (pa_cons (pv 0) (pa_cons (pe_bltn (v := .ty "dict") (by rfl) T.m_dict (by decide +kernel) rfl) pa_nil)))) (pe_callTy call_dictOf (by rfl) T.m_dict (by decide +kernel) (pa_cons (pv 0) pa_nil)) (pv 0))))), ?_⟩
    obtain ⟨G, ds, d, e, hd, hR, q⟩ := h
    have hl : ∃ x0, ds = [x0] := by
      match ds, hR with
      | [x0], _ => exact ⟨x0, rfl⟩
    obtain ⟨x0, rfl⟩ := hl
    cases hd with
    | @cons v0 vs0 _ _ dv0 hd =>
    cases hd
    refine EX.fin (W := fun _ _ _ _ => False) (good_start e ((.cons dv0 .nil)) n_law_copy) q ?_
    show EX K ⟨G, H, none⟩ _ _ [Sl.val v0 x0] _
    obtain ⟨h1, rfl⟩ := hR
    obtain ⟨t, ht⟩ := Option.ne_none_iff_exists'.mp h1
    rcases ty_dl ht with ⟨es, rfl, hx⟩ | ⟨es, rfl, hx⟩ | ⟨h1, h2⟩
    · exact ex_ret (ev_if (b := true) (et_B (ev_isT (ev_var rfl) ht rfl)) (fun _ => by rw [hx]; exact ev_cb (ea_cons (ev_tp (ev_var rfl) hx) ea_nil) cb_listOf) fun h => nomatch h) fun v => rfl
    · exact ex_ret (ev_if (b := false) (et_B (ev_isT (ev_var rfl) ht rfl)) (fun h => nomatch h) fun _ => ev_if (b := true) (et_B (ev_isT (ev_var rfl) ht rfl)) (fun _ => by rw [hx]; exact ev_cb (ea_cons (ev_tp (ev_var rfl) hx) ea_nil) cb_dictOf) fun h => nomatch h) fun v => rfl
    · exact ex_ret (ev_if (b := false) (et_B (ev_isT (ev_var rfl) ht h1)) (fun h => nomatch h) fun _ => ev_if (b := false) (et_B (ev_isT (ev_var rfl) ht h2)) (fun h => nomatch h) fun _ => ev_top (ev_var rfl)) fun v => rfl
def R_law_broken : List D → D → Prop
  | [t], d => ∃ (n : Nat) (f : Nat → Nat → Nat), t.top = tblD n f ∧ n ≤ 100 ∧ (∀ x y, x < n → y < n → f x y < n) ∧ (∀ x y z, x < n → y < n → z < n → f (f x y) z = f x (f y z)) ∧ d = .lst []
  | _, _ => False
theorem ok_law_broken (T : Tx K mg) : FnOk P w K mg base CX0 1 T.f_law_broken T.d_law_broken p_law_broken (spD K R_law_broken) := by
  refine T.F_law_broken.ok sc_law_broken (fun vs H Q E h => ?_) (fun cdv A outer s H vs Q E hr h => ?_)
  · obtain ⟨G, ds, d, e, hd, hR, q⟩ := h
    rw [hd.length]
    match ds, hR with
    | [_], _ => rfl
  · refine ⟨_, (pss_cons (ps_par (i := 1) (j := 2) rfl sc_law_broken.nd rfl rfl (by decide) rfl rfl (pa_cons (pe_callB (call_lenK K) (by rfl) T.m_len (by decide +kernel) (pa_cons (pv 0) pa_nil)) (pa_cons (pe_lst pa_nil) pa_nil)) (by rfl))
      (pss_cons (ps_for PassesOwn.never rfl (pi_range1 (by rfl) T.m_range (pa_cons (pv 1) pa_nil)) (pg_name (i := 3) sc_law_broken.nd rfl (.inr rfl))
      (pss_one (ps_for PassesOwn.never rfl (pi_range1 (by rfl) T.m_range (pa_cons (pv 1) pa_nil)) (pg_name (i := 4) sc_law_broken.nd rfl (.inr rfl))
      (pss_one (ps_set (i := 2) sc_law_broken.nd rfl (.inl rfl) (pe_op op_cat (pv 2) (pe_lc (own := [("z", 5)]) rfl sc_law_broken.nd (pi_range1 (by rfl) T.m_range (pa_cons (pv 1) pa_nil)) (blkOk_by (by rfl)) (fun _ _ _ _ _ => pg_name (i := 5) sc_law_broken.nd rfl (by first | exact .inl rfl | exact .inr rfl)) (fun _ _ _ _ _ => (pts_one (pt_cmpR op_ne (pe_ix (ix_seqK K) (pe_ix (ix_seqK K) (pv 0) (pe_ix (ix_seqK K) (pe_ix (ix_seqK K) (pv 0) (pv 3) (fun _ _ => rfl)) (pv 4) (fun _ _ => rfl)) (fun _ _ => rfl)) (pv 5) (fun _ _ => rfl)) (pe_ix (ix_seqK K) (pe_ix (ix_seqK K) (pv 0) (pv 3) (fun _ _ => rfl)) (pe_ix (ix_seqK K) (pe_ix (ix_seqK K) (pv 0) (pv 4) (fun _ _ => rfl)) (pv 5) (fun _ _ => rfl)) (fun _ _ => rfl)) (nomark _)))) (fun _ _ _ _ _ => (pe_tup (pa_cons (pv 3) (pa_cons (pv 4) (pa_cons (pv 5) pa_nil))))))))))))
      (pss_one (ps_ret (pv 2))))), ?_⟩
    obtain ⟨G, ds, d, e, hd, hR, q⟩ := h
    have hl : ∃ x0, ds = [x0] := by
      match ds, hR with
      | [x0], _ => exact ⟨x0, rfl⟩
    obtain ⟨x0, rfl⟩ := hl
    cases hd with
    | @cons v0 vs0 _ _ dv0 hd =>
    cases hd
    refine EX.fin (W := fun _ _ _ _ => False) (good_start e ((.cons dv0 .nil)) n_law_broken) q ?_
    show EX K ⟨G, H, none⟩ _ _ [Sl.val v0 x0, Sl.un, Sl.un, Sl.un, Sl.un, Sl.un] _
    obtain ⟨n, f, ht, hn, hc, ha, rfl⟩ := hR
    refine ex_parS (ea_cons (ev_cb (ea_cons (ev_tp (ev_var rfl) ht) ea_nil) cb_lenTbl) (ea_cons (ev_lst ea_nil (sz 0)) ea_nil)) fun v1 v2 => ?_
    refine ex_forRS (fun _ env' => ∃ u s3 s4, env' = [Sl.val v0 x0, Sl.val v1 (.int n), Sl.val u (.lst []), s3, s4, Sl.un]) (ev_var rfl) (by omega) ⟨_, _, _, rfl⟩ ?_ fun env' ⟨u, s3, s4, h⟩ => by subst h; exact ex_ret (ev_var rfl) fun v => rfl
    rintro a env' va hla ⟨u, s3, s4, rfl⟩
    refine ex_forR (fun _ env' => ∃ u s4, env' = [Sl.val v0 x0, Sl.val v1 (.int n), Sl.val u (.lst []), Sl.val va (.int (a : Nat)), s4, Sl.un]) (ev_var rfl) (by omega) ⟨_, _, rfl⟩ ?_ fun env' ⟨u, s4, h⟩ => ⟨_, _, _, h⟩
    rintro b env' vb hlb ⟨u, s4, rfl⟩
    have hnil : keep (fun _ => false) (fun _ => D.non) n = [] := by unfold keep; simp
    refine ex_asg (ev_is (ev_op (ev_var rfl) (ev_lcRf (n := n) (f := fun _ => false) (F := fun _ => .non) (ev_var rfl) (by omega) (by decide) fun c v hi => ⟨?_, fun h => nomatch h⟩) (op_catLD (by rw [hnil]; exact sz 0))) (by rw [hnil]; rfl)) fun v => ⟨_, _, rfl⟩
    refine et_is (et_test (ev_op (ev_row (ev_tbl (ev_tp (ev_var rfl) ht) (ev_row (ev_tbl (ev_tp (ev_var rfl) ht) (ev_var rfl) hla) (ev_var rfl) hlb) (hc a b hla hlb)) (ev_var rfl) hi) (ev_row (ev_tbl (ev_tp (ev_var rfl) ht) (ev_var rfl) hla) (ev_row (ev_tbl (ev_tp (ev_var rfl) ht) (ev_var rfl) hlb) (ev_var rfl) hi) (hc b c hlb hi)) op_neI)) ?_
    rw [ha a b c hla hlb hi]
    simp
theorem go_t {A B : Prop} {b : Bool} (hb : b = true) (h : A) : if b = true then A else B := by rw [if_pos hb]; exact h
theorem go_f {A B : Prop} {b : Bool} (hb : b = false) (h : B) : if b = true then A else B := by rw [hb, if_neg Bool.false_ne_true]; exact h
theorem atom_top {d : D} (h : isAtom d = true) : d.top = d := by cases d <;> first | rfl | cases h
theorem Sm_atom {d : D} (h : isAtom d = true) : ∀ n, Sm n d d
  | 0 => ⟨rfl, by rw [atom_top h]; exact h⟩
  | n + 1 => .inl ⟨rfl, by rw [atom_top h]; exact h⟩
theorem atomsL {G G' : Hp} : ∀ (ds : List D) (xs : List V), (∀ x ∈ ds, isAtom x = true) → DatL K G xs ds → DatL K G' xs ds
  | [], _, _, h => by cases h; exact .nil
  | d :: ds, _, h, hh => by
    cases hh with
    | cons a t =>
      refine .cons ?_ (atomsL ds _ (fun x hx => h x (List.mem_cons_of_mem _ hx)) t)
      have hd := h d List.mem_cons_self
      cases a with
      | non => exact .non
      | bl b => exact .bl b
      | int b => exact .int b
      | str b => exact .str b
      | _ => cases hd
theorem Sm_atoms {ds : List D} {d : D} (hd : d.top = .lst ds) (hl : ds.length < 10000) (h : ∀ x ∈ ds, isAtom x = true) (n : Nat) : Sm (n + 1) d d :=
  .inr ⟨ds, ds, .inr ⟨hd, hd⟩, rfl, hl, fun i a b ha hb => by
    rw [ha] at hb
    obtain rfl := Option.some.inj hb
    exact Sm_atom (h a (List.mem_of_getElem? ha)) n⟩
theorem same_call {H G : Hp} {v : V} {d : D} {Q : VK} {E : XK} {n : Nat} (e : Ex G H) (dv : Dat K G v d) (hs : Sm n d d) (q : ∀ H', Ex H H' → Q (.bl true) H') : spSm K (n + 1) [v, v] H Q E :=
  .inl ⟨G, [d, d], .bl true, e, .cons dv (.cons dv .nil), ⟨hs, rfl⟩, fun u G1 H1 t1 du => by obtain rfl := du.blV; exact q H1 t1.hh⟩
/-- a value that may stand as a wrong argument -/
def OkV (d : D) : Prop := (Sm 5 d d ∧ ∃ t, tyD d = some t ∧ kitB t "list" = some false ∧ kitB t "dict" = some false) ∨ (∃ ds, d.top = .lst ds ∧ ds.length < 1000 ∧ ∀ x ∈ ds, isAtom x = true) ∨ d.top = .dct []
def spSO (K : PySem.W.Frag) : Sp := fun vs H Q _ => ∃ (G : Hp) (v : V) (d : D), vs = [v, v] ∧ Ex G H ∧ Dat K G v d ∧ OkV d ∧ ∀ H', Ex H H' → Q (.bl true) H'
theorem ok_law_same_object (T : Tx K mg) : FnOk P w K mg base CX0 7 T.f_law_same_object T.d_law_same_object p_law_same_object (spSO K) := by
  refine T.F_law_same_object.ok sc_law_same_object (fun vs H Q E h => ?_) (fun cdv A outer s H vs Q E hr h => ?_)
  · obtain ⟨_, _, _, rfl, _⟩ := h; rfl
  · refine ⟨_, (pss_cons (ps_if (pt_not (pt_val (pe_call (ok_law_same T 6) (hr.mono (by omega)) (by rfl) T.g_law_same T.F_law_same.kp T.b_law_same .nil pass0 (pa_cons (pv 0) (pa_cons (pv 1) pa_nil))))) (pss_one (ps_ret pe_bl)) pss_nil)
      (pss_cons (ps_if (pt_val (pe_callB (call_isiK K) (by rfl) T.m_isinstance (by decide +kernel) (pa_cons (pv 1) (pa_cons (pe_bltn (v := .ty "list") (by rfl) T.m_list (by decide +kernel) rfl) pa_nil)))) (pss_cons (ps_expr (pe_bmK K PySem.F.plainAttrs_list PySem.F.slot_list_append PySem.F.type_list_append mt_append (pv 1) (pa_cons pe_str pa_nil)))
      (pss_cons (ps_set (i := 2) sc_law_same_object.nd rfl (.inl rfl) (pe_call (ok_law_same T 6) (hr.mono (by omega)) (by rfl) T.g_law_same T.F_law_same.kp T.b_law_same .nil pass0 (pa_cons (pv 0) (pa_cons (pv 1) pa_nil))))
      (pss_cons (ps_expr (pe_bm0 PySem.F.plainAttrs_list PySem.F.slot_list_pop PySem.F.type_list_pop mt_pop (pv 1)))
      (pss_one (ps_ret (pv 2)))))) pss_nil)
      (pss_cons (ps_if (pt_val (pe_callB (call_isiK K) (by rfl) T.m_isinstance (by decide +kernel) (pa_cons (pv 1) (pa_cons (pe_bltn (v := .ty "dict") (by rfl) T.m_dict (by decide +kernel) rfl) pa_nil)))) (pss_cons (ps_dput (hu_of hr) (pv 1) pe_str pe_int (by rfl))
      (pss_cons (ps_set (i := 2) sc_law_same_object.nd rfl (.inl rfl) (pe_call (ok_law_same T 6) (hr.mono (by omega)) (by rfl) T.g_law_same T.F_law_same.kp T.b_law_same .nil pass0 (pa_cons (pv 0) (pa_cons (pv 1) pa_nil))))
      (pss_cons (ps_expr (pe_dpop1 (pv 1) pe_str ⟨by rfl, by rfl, by rfl, by rfl⟩))
      (pss_one (ps_ret (pv 2)))))) pss_nil)
      (pss_one (ps_ret pe_bl))))), ?_⟩
    obtain ⟨G, v, d, rfl, e, dv, hd, q⟩ := h
    rcases hd with ⟨hs, t, ht, h1, h2⟩ | ⟨ds, hx, hl, hat⟩ | hx
    · refine ⟨v, rfl, v, rfl, same_call e dv hs fun H1 e1 => ⟨true, rfl, go_f rfl ?_⟩⟩
      refine ⟨v, rfl, _, _, _, _, false, rfl, .ty _, dv.ty (e.trans e1) ht, kit_ty h1, _, rfl, go_f rfl ?_⟩
      refine ⟨v, rfl, _, _, _, _, false, rfl, .ty _, dv.ty (e.trans e1) ht, kit_ty h2, _, rfl, go_f rfl ?_⟩
      exact q H1 e1
    · have hd := dv.top
      rw [hx] at hd
      cases hd with
      | @lst a xs _ ga dx =>
      have hlx : xs.length < 1000 := by rw [dx.length]; exact hl
      refine ⟨.ref a, rfl, .ref a, rfl, same_call e dv (Sm_atoms hx (by omega) hat 4) fun H1 e1 => ⟨true, rfl, go_f rfl ?_⟩⟩
      have h1 : H1 a = some (.lst xs) := e1 _ _ (e _ _ ga)
      refine ⟨.ref a, rfl, _, _, _, _, true, rfl, .ty _, .base (.lst h1), kit_ty (a := "list") rfl, _, rfl, go_t rfl ?_⟩
      refine ⟨.ref a, rfl, .inl ⟨rfl, xs, .of h1⟩, a, xs, _, rfl, rfl, h1, small1000 (by omega), ?_⟩
      have dx2 : ∀ G', DatL K G' (xs ++ [.str "more"]) (ds ++ [.str "more"]) := fun G' => (atomsL _ _ hat dx).append (.one (.str _))
      have hat2 : ∀ x ∈ ds ++ [D.str "more"], isAtom x = true := fun x hx => by
        rcases List.mem_append.mp hx with h | h
        · exact hat x h
        · rw [List.mem_singleton.mp h]; rfl
      refine ⟨.ref a, rfl, .ref a, rfl, same_call (G := upd (fun _ => none) a (.lst (xs ++ [.str "more"]))) (d := .lst (ds ++ [.str "more"])) (fun b o z => ?_) (.lst upd_same (dx2 _)) (Sm_atoms rfl (by rw [List.length_append]; show ds.length + 1 < 10000; omega) hat2 4) fun H3 e3 => ?_⟩
      · by_cases hb : b = a
        · rw [hb, upd_same] at z ⊢; exact z
        · rw [upd_ne hb] at z; cases z
      have h3 : H3 a = some (.lst (xs ++ [.str "more"])) := e3 _ _ upd_same
      refine ⟨.ref a, rfl, .inl ⟨rfl, _, .of h3⟩, a, _, .str "more", rfl, rfl, h3, by simp, ?_⟩
      refine ⟨.bl true, rfl, q _ fun b o z => ?_⟩
      by_cases hb : b = a
      · rw [hb, upd_same, List.dropLast_concat]
        rw [hb, e _ _ ga] at z
        exact z
      · rw [upd_ne hb]
        exact e3 _ _ (by rw [upd_ne hb]; exact e1 _ _ z)
    · have hd := dv.top
      rw [hx] at hd
      cases hd with
      | @dct a kvs _ ga dk =>
      cases dk
      have ha := e _ _ ga
      refine ⟨.ref a, rfl, .ref a, rfl, .inr ⟨by decide, a, [], rfl, ha, .inl rfl, fun H1 e1 => ⟨true, rfl, go_f rfl ?_⟩⟩⟩
      have h1 : H1 a = some (.dK []) := e1 _ _ ha
      refine ⟨.ref a, rfl, _, _, _, _, false, rfl, .ty _, .base (.dK h1), kit_ty (a := "dict") rfl, _, rfl, go_f rfl ?_⟩
      refine ⟨.ref a, rfl, _, _, _, _, true, rfl, .ty _, .base (.dK h1), kit_ty (a := "dict") rfl, _, rfl, go_t rfl ?_⟩
      refine ⟨.ref a, rfl, a, _, rfl, DPut.k (k := .inr "more") h1 (small1000 (by decide)), ?_⟩
      refine ⟨.ref a, rfl, .ref a, rfl, .inr ⟨by decide, a, _, rfl, upd_same, .inr ⟨.inr "more", 1, rfl⟩, fun H3 e3 => ?_⟩⟩
      have h3 : H3 a = some (.dK [(.inr "more", .int 1)]) := e3 _ _ upd_same
      refine ⟨.ref a, rfl, a, rfl, .inl ⟨_, .inl h3⟩, _, .inr "more", _, h3, rfl, rfl, ?_⟩
      refine ⟨.bl true, rfl, q _ fun b o z => ?_⟩
      by_cases hb : b = a
      · rw [hb, upd_same]
        rw [hb, ha] at z
        exact z
      · rw [upd_ne hb]
        exact e3 _ _ (by rw [upd_ne hb]; exact e1 _ _ z)
end
end Kx


set_option Elab.async false
set_option linter.all false
set_option maxRecDepth 100000
set_option maxHeartbeats 2000000
namespace Kx
open PySem PySem.Spec PyProof.Rows L2 DL
section
variable {P : Program} {w : World} {K : PySem.W.Frag} {mg : Str → Option Value} {base : Heap}
/-- the five makers of one number: the text, the def, the item -/
def doors (T : Tx K mg) : List (Str × Addr) := [("left", T.f_left_zeros), ("right", T.f_right_zeros), ("null", T.f_null), ("lowest", T.f_lowest), ("clock", T.f_clock)]
def R_done (F : Nat → Nat → Nat → Nat) (wd : Str) : List D → D → Prop
  | [a, b, c], d => ∃ w args nm, a = .str w ∧ b = .lst args ∧ c = .bl nm ∧ ((w = "monogenic" ∧ R_monogenic args d) ∨ (w = "rectangle" ∧ R_rectangle args d) ∨ (w = wd ∧ R_tab F args d))
  | _, _ => False
def E_done (T : Tx K mg) (wd : Str) (_ : List V) : List D → Value → Str → V → Prop
  | [a, b, e], c, f, u => ∃ w args nm, a = .str w ∧ b = .lst args ∧ e = .bl nm ∧ ((w = "monogenic" ∧ ∃ v0 x0 v1 x1, args = [.idn v0 x0, .idn v1 x1] ∧ E_monogenic T [v0, v1] [.idn v0 x0, .idn v1 x1] c f u) ∨ (w = "rectangle" ∧ ∃ v0 x0 v1 x1, args = [.idn v0 x0, .idn v1 x1] ∧ E_rectangle T [v0, v1] [.idn v0 x0, .idn v1 x1] c f u) ∨
      (w = wd ∧ ∃ v0 x0, args = [.idn v0 x0] ∧ E_check_many T [v0] [.idn v0 x0] c f u))
  | _, _, _, _ => False
theorem two_of {R : List D → D → Prop} {args : List D} {d : D} (h : R args d) (h0 : ∀ l d, R l d → l.length = 2) : ∃ a b, args = [a, b] := by
  have := h0 _ _ h
  match args, this with
  | [a, b], _ => exact ⟨a, b, rfl⟩
theorem ev_a0 {β : Bas} {env : Env'} {a : D} {r : List D} (i : Nat) {v : V} (h : env[i]? = some (.val v (.lst (a :: r)))) : EV K β (tOp (rIx K) (tVar i) (tC (.int 0))) env a := ev_op (ev_var h) ev_int (op_ix (.inr rfl) (atI_natD (j := 0) rfl))
theorem ev_a1 {β : Bas} {env : Env'} {a b : D} {r : List D} (i : Nat) {v : V} (h : env[i]? = some (.val v (.lst (a :: b :: r)))) : EV K β (tOp (rIx K) (tVar i) (tC (.int 1))) env b := ev_op (ev_var h) ev_int (op_ix (.inr rfl) (atI_natD (j := 1) rfl))
theorem perm2 {g : List V → List V} {a b : D} (hg : ∀ x y, g [x, y] = [y, x]) (G : Hp) (vs : List V) (h : DatL K G vs [b, a]) : DatL K G (g vs) [a, b] := by
  cases h with | cons x t => cases t with | cons y t => cases t; rw [hg]; exact .cons y (.cons x .nil)
theorem perm1 {g : List V → List V} {a : D} (hg : ∀ x, g [x] = [x]) (G : Hp) (vs : List V) (h : DatL K G vs [a]) : DatL K G (g vs) [a] := by
  cases h with | cons x t => cases t; rw [hg]; exact .cons x .nil
theorem perm2v {G : Hp} {v0 v1 : V} {a b : D} (h : DatL K G [v1, v0] [b, a]) : DatL K G [v0, v1] [a, b] := by
  cases h with | cons x t => cases t with | cons y t => cases t; exact .cons y (.cons x .nil)
theorem ok_done_step (T : Tx K mg) (F : Nat → Nat → Nat → Nat) (wd : Str) (f : Addr) (fd : FuncData) (dF : FnOk P w K mg base (L2.CX P w) 4 f fd ["many"] (spX K (R_tab F) (E_check_many T))) (dk : PySem.W.keepIn K (.ref f) = true) (db : Binds K fd ["many"] []) (dkb : KBinds K fd ["many"] ["many"] (fun us ws => match us, ws with | [], [a0] => [a0] | _, _ => []) (fun us ws => match us, ws with | [], [a0] => [a0] | _, _ => [])) (hw : inV (.str wd) [V.str "monogenic", V.str "rectangle"] = false) (hd : valV (mergeK [] ((doors T).map fun p => ((.inr p.1 : Key), V.ref p.2))) (.inr wd) = some (.ref f)) : FnOk P w K mg base (L2.CX P w) 5 T.f_law_done T.d_law_done p_law_done (spX K (R_done F wd) (E_done T wd)) := by
  refine T.F_law_done.okX sc_law_done (fun vs H Q E h => ?_) (fun cdv A outer s H vs Q E hr h => ?_)
  · obtain ⟨G, ds, e, hd, hR | hR⟩ := h
    · rw [hd.length]; obtain ⟨d, hR, q⟩ := hR
      match ds, hR with
      | [_, _, _], _ => rfl
    · rw [hd.length]; obtain ⟨c, f, v, hR, q⟩ := hR
      match ds, hR with
      | [_, _, _], _ => rfl
  · have tk : Takes (cxOf (L2.CX P w) P w K mg base n_law_done "_law_done" (defScope s_law_done) T.f_law_done cdv A outer s H E) (fun cls d _ H => E cls d H) := takes_of rfl rfl rfl rfl
    have hpass : PassesOwn _ _ _ (cxOf (L2.CX P w) P w K mg base n_law_done "_law_done" (defScope s_law_done) T.f_law_done cdv A outer s H E).xe := passes_of (X := cxOf (L2.CX P w) P w K mg base n_law_done "_law_done" (defScope s_law_done) T.f_law_done cdv A outer s H E) rfl
    refine ⟨_, (pss_cons (ps_if (pt_cmpR (op_inK K) (pv 0) (pe_lst (pa_cons pe_str (pa_cons pe_str pa_nil))) (by with_unfolding_all rfl)) (pss_cons (ps_if (pt_cmpR op_eq (pv 0) pe_str (nomark _)) (pss_one (ps_ret (pe_ifExp (pt_val (pv 2)) (pe_callK0S (ok_monogenic T) (hr.mono (by omega)) (by rfl) T.g_monogenic T.F_monogenic.kp T.kb_monogenic (fun σ => passAt tk σ) (pk_cons (pe_ix (ix_seqK K) (pv 1) pe_int (fun _ _ => rfl)) (pk_cons (pe_ix (ix_seqK K) (pv 1) pe_int (fun _ _ => rfl)) pk_nil))) (pe_callS (ok_monogenic T) (hr.mono (by omega)) (by rfl) T.g_monogenic T.F_monogenic.kp T.b_monogenic (fun σ => passAt tk σ) (pa_cons (pe_ix (ix_seqK K) (pv 1) pe_int (fun _ _ => rfl)) (pa_cons (pe_ix (ix_seqK K) (pv 1) pe_int (fun _ _ => rfl)) pa_nil)))))) pss_nil)
      (pss_one (ps_ret (pe_ifExp (pt_val (pv 2)) (pe_callK0S (ok_rectangle T) (hr.mono (by omega)) (by rfl) T.g_rectangle T.F_rectangle.kp T.kb_rectangle (fun σ => passAt tk σ) (pk_cons (pe_ix (ix_seqK K) (pv 1) pe_int (fun _ _ => rfl)) (pk_cons (pe_ix (ix_seqK K) (pv 1) pe_int (fun _ _ => rfl)) pk_nil))) (pe_callS (ok_rectangle T) (hr.mono (by omega)) (by rfl) T.g_rectangle T.F_rectangle.kp T.b_rectangle (fun σ => passAt tk σ) (pa_cons (pe_ix (ix_seqK K) (pv 1) pe_int (fun _ _ => rfl)) (pa_cons (pe_ix (ix_seqK K) (pv 1) pe_int (fun _ _ => rfl)) pa_nil))))))) pss_nil)
      (pss_cons (ps_set (i := 3) sc_law_done.nd rfl (.inl rfl) (pe_dget (hu_of hr) (pe_disp (pps_cons pe_str (pe_glob (v := .ref T.f_left_zeros) (by rfl) T.g_left_zeros rfl) (pps_cons pe_str (pe_glob (v := .ref T.f_right_zeros) (by rfl) T.g_right_zeros rfl) (pps_cons pe_str (pe_glob (v := .ref T.f_null) (by rfl) T.g_null rfl) (pps_cons pe_str (pe_glob (v := .ref T.f_lowest) (by rfl) T.g_lowest rfl) (pps_cons pe_str (pe_glob (v := .ref T.f_clock) (by rfl) T.g_clock rfl) pps_nil))))) (by rfl) (by rfl) (fun z => by cases z) (by decide)) (pv 0) (fun _ _ => rfl)))
      (pss_one (ps_ret (pe_ifExp (pt_val (pv 2)) (pe_callVK (i := 3) dF (hr.mono (by omega)) dk dkb (fun σ => passAt tk σ) (by rfl) (by first | exact Or.inl rfl | exact Or.inr (Or.inl rfl) | exact Or.inr (Or.inr rfl)) (pk_cons (pe_ix (ix_seqK K) (pv 1) pe_int (fun _ _ => rfl)) pk_nil)) (pe_callVS (i := 3) dF (hr.mono (by omega)) dk db (fun σ => passAt tk σ) (by rfl) (by first | exact Or.inl rfl | exact Or.inr (Or.inl rfl) | exact Or.inr (Or.inr rfl)) (pa_cons (pe_ix (ix_seqK K) (pv 1) pe_int (fun _ _ => rfl)) pa_nil))))))), ?_⟩
    obtain ⟨G, ds, e, hd, hh⟩ := h
    have hl : ∃ x0 x1 x2, ds = [x0, x1, x2] := by
      rcases hh with ⟨d, hR, _⟩ | ⟨c, f, v, hR, _⟩
      · match ds, hR with
        | [x0, x1, x2], _ => exact ⟨x0, x1, x2, rfl⟩
      · match ds, hR with
        | [x0, x1, x2], _ => exact ⟨x0, x1, x2, rfl⟩
    obtain ⟨x0, x1, x2, rfl⟩ := hl
    cases hd with
    | @cons v0 vs0 _ _ dv0 hd =>
    cases hd with
    | @cons v1 vs1 _ _ dv1 hd =>
    cases hd with
    | @cons v2 vs2 _ _ dv2 hd =>
    cases hd
    refine EX.finX (good_start e ((.cons dv0 (.cons dv1 (.cons dv2 .nil)))) n_law_done) (hh.imp (fun ⟨d, hR, q⟩ => ⟨d, q, ?_⟩) fun ⟨cls, f, v, hE, q⟩ => ⟨cls, f, v, q, ?_⟩) <;> show EX K ⟨G, H, none⟩ _ _ [Sl.val v0 x0, Sl.val v1 x1, Sl.val v2 x2, Sl.un] _
    · obtain ⟨w, args, nm, rfl, rfl, rfl, hk⟩ := hR
      rcases hk with ⟨rfl, h⟩ | ⟨rfl, h⟩ | ⟨rfl, h⟩
      · obtain ⟨a, b, rfl⟩ := two_of h fun l d h => by match l, h with | [_, _], _ => rfl
        refine ex_when (b := true) (et_test (ev_op (ev_var rfl) (ev_lst (ea_cons ev_str (ea_cons ev_str ea_nil)) (sz 2)) (op_inS (ws := ["monogenic", "rectangle"]) (by decide)))) (fun _ => ?_) fun h => nomatch h
        refine ex_when (b := true) (et_test (ev_is (ev_op (ev_var rfl) ev_str op_eqStr) (by rw [decide_eq_true rfl]))) (fun _ => ?_) fun h => nomatch h
        exact ex_ret (ev_if (et_B (ev_var rfl)) (fun _ => ev_callK (ea_cons (ev_a1 1 rfl) (ea_cons (ev_a0 1 rfl) ea_nil)) (perm2 fun _ _ => rfl) h) fun _ => ev_callX (ea_cons (ev_a0 1 rfl) (ea_cons (ev_a1 1 rfl) ea_nil)) h) fun v => rfl
      · obtain ⟨a, b, rfl⟩ := two_of h fun l d h => by match l, h with | [_, _], _ => rfl
        refine ex_when (b := true) (et_test (ev_op (ev_var rfl) (ev_lst (ea_cons ev_str (ea_cons ev_str ea_nil)) (sz 2)) (op_inS (ws := ["monogenic", "rectangle"]) (by decide)))) (fun _ => ?_) fun h => nomatch h
        refine ex_when (b := false) (et_test (ev_is (ev_op (ev_var rfl) ev_str op_eqStr) (by rw [decide_eq_false (by decide)]))) (fun h => nomatch h) fun _ => ?_
        exact ex_ret (ev_if (et_B (ev_var rfl)) (fun _ => ev_callK (ea_cons (ev_a1 1 rfl) (ea_cons (ev_a0 1 rfl) ea_nil)) (perm2 fun _ _ => rfl) h) fun _ => ev_callX (ea_cons (ev_a0 1 rfl) (ea_cons (ev_a1 1 rfl) ea_nil)) h) fun v => rfl
      · obtain ⟨a, rfl⟩ : ∃ a, args = [a] := by match args, h with | [a], _ => exact ⟨a, rfl⟩
        refine ex_when (b := false) (et_test (ev_op (ev_var rfl) (ev_lst (ea_cons ev_str (ea_cons ev_str ea_nil)) (sz 2)) (op_inS (ws := ["monogenic", "rectangle"]) hw))) (fun h => nomatch h) fun _ => ?_
        refine ex_letV (evv_op (ev_door (l := doors T) (ev_var rfl) (by show 5 ≤ 15; decide) hd)) ?_
        exact ex_ret (ev_if (et_B (ev_var rfl)) (fun _ => ev_callVK rfl (ea_cons (ev_a0 1 rfl) ea_nil) (perm1 fun _ => rfl) h) fun _ => ev_callV rfl (ea_cons (ev_a0 1 rfl) ea_nil) h) fun v => rfl
    · obtain ⟨w, args, nm, rfl, rfl, rfl, hk⟩ := hE
      rcases hk with ⟨rfl, u0, y0, u1, y1, rfl, h⟩ | ⟨rfl, u0, y0, u1, y1, rfl, h⟩ | ⟨rfl, u0, y0, rfl, h⟩
      · refine ex_when (b := true) (et_test (ev_op (ev_var rfl) (ev_lst (ea_cons ev_str (ea_cons ev_str ea_nil)) (sz 2)) (op_inS (ws := ["monogenic", "rectangle"]) (by decide)))) (fun _ => ?_) fun h => nomatch h
        refine ex_when (b := true) (et_test (ev_is (ev_op (ev_var rfl) ev_str op_eqStr) (by rw [decide_eq_true rfl]))) (fun _ => ?_) fun h => nomatch h
        exact ex_rsRet (rs_if (et_B (ev_var rfl)) (fun _ => rs_callK (eav_cons (evv_as (evv_idn (ev_a1 1 rfl))) (eav_cons (evv_as (evv_idn (ev_a0 1 rfl))) eav_nil)) (fun _ => perm2v) rfl h) fun _ => rs_call (eav_cons (evv_as (evv_idn (ev_a0 1 rfl))) (eav_cons (evv_as (evv_idn (ev_a1 1 rfl))) eav_nil)) h) ⟨rfl, rfl, rfl⟩
      · refine ex_when (b := true) (et_test (ev_op (ev_var rfl) (ev_lst (ea_cons ev_str (ea_cons ev_str ea_nil)) (sz 2)) (op_inS (ws := ["monogenic", "rectangle"]) (by decide)))) (fun _ => ?_) fun h => nomatch h
        refine ex_when (b := false) (et_test (ev_is (ev_op (ev_var rfl) ev_str op_eqStr) (by rw [decide_eq_false (by decide)]))) (fun h => nomatch h) fun _ => ?_
        exact ex_rsRet (rs_if (et_B (ev_var rfl)) (fun _ => rs_callK (eav_cons (evv_as (evv_idn (ev_a1 1 rfl))) (eav_cons (evv_as (evv_idn (ev_a0 1 rfl))) eav_nil)) (fun _ => perm2v) rfl h) fun _ => rs_call (eav_cons (evv_as (evv_idn (ev_a0 1 rfl))) (eav_cons (evv_as (evv_idn (ev_a1 1 rfl))) eav_nil)) h) ⟨rfl, rfl, rfl⟩
      · refine ex_when (b := false) (et_test (ev_op (ev_var rfl) (ev_lst (ea_cons ev_str (ea_cons ev_str ea_nil)) (sz 2)) (op_inS (ws := ["monogenic", "rectangle"]) hw))) (fun h => nomatch h) fun _ => ?_
        refine ex_letV (evv_op (ev_door (l := doors T) (ev_var rfl) (by show 5 ≤ 15; decide) hd)) ?_
        exact ex_rsRet (rs_if (et_B (ev_var rfl)) (fun _ => rs_callVK rfl (eav_cons (evv_as (evv_idn (ev_a0 1 rfl))) eav_nil) (fun _ h => h) rfl h) fun _ => rs_callV rfl (eav_cons (evv_as (evv_idn (ev_a0 1 rfl))) eav_nil) h) ⟨rfl, rfl, rfl⟩
end
end Kx


set_option Elab.async false
set_option linter.all false
set_option maxRecDepth 100000
set_option maxHeartbeats 2000000
namespace Kx
open PySem PySem.Spec PyProof.Rows L2 DL
section
variable {P : Program} {w : World} {K : PySem.W.Frag} {mg : Str → Option Value} {base : Heap}
def kinds : List ((Nat → Nat → Nat → Nat) × Str) := [(fun _ a _ => a, "left"), (fun _ _ b => b, "right"), (fun _ _ _ => 0, "null"), (fun _ a b => min a b, "lowest"), (fun n a b => (a + b) % n, "clock")]
def RD (ds : List D) (d : D) : Prop := ∃ p ∈ kinds, R_done p.1 p.2 ds d
def ED (T : Tx K mg) (vs : List V) (ds : List D) (c : Value) (f : Str) (u : V) : Prop := ∃ p ∈ kinds, E_done T p.2 vs ds c f u
theorem done_all (T : Tx K mg) : ∀ p ∈ kinds, FnOk P w K mg base (L2.CX P w) 5 T.f_law_done T.d_law_done p_law_done (spX K (R_done p.1 p.2) (E_done T p.2)) := by
  intro p hp
  rcases List.mem_cons.mp hp with rfl | hp
  · exact ok_done_step T _ "left" _ _ (ok_left_zeros T) T.F_left_zeros.kp T.b_left_zeros T.kb_left_zeros (by decide) rfl
  rcases List.mem_cons.mp hp with rfl | hp
  · exact ok_done_step T _ "right" _ _ (ok_right_zeros T) T.F_right_zeros.kp T.b_right_zeros T.kb_right_zeros (by decide) rfl
  rcases List.mem_cons.mp hp with rfl | hp
  · exact ok_done_step T _ "null" _ _ (ok_null T) T.F_null.kp T.b_null T.kb_null (by decide) rfl
  rcases List.mem_cons.mp hp with rfl | hp
  · exact ok_done_step T _ "lowest" _ _ (ok_lowest T) T.F_lowest.kp T.b_lowest T.kb_lowest (by decide) rfl
  rcases List.mem_cons.mp hp with rfl | hp
  · exact ok_done_step T _ "clock" _ _ (ok_clock T) T.F_clock.kp T.b_clock T.kb_clock (by decide) rfl
  cases hp
theorem done_split {T : Tx K mg} {vs : List V} {H : Hp} {Q : VK} {E : XK} (h : spX K RD (ED T) vs H Q E) : ∃ p ∈ kinds, spX K (R_done p.1 p.2) (E_done T p.2) vs H Q E := by
  obtain ⟨G, ds, e, hd, ⟨d, ⟨p, hp, hR⟩, q⟩ | ⟨c, f, v, ⟨p, hp, hE⟩, q⟩⟩ := h
  · exact ⟨p, hp, G, ds, e, hd, .inl ⟨d, hR, q⟩⟩
  · exact ⟨p, hp, G, ds, e, hd, .inr ⟨c, f, v, hE, q⟩⟩
theorem ok_law_done (T : Tx K mg) : FnOk P w K mg base (L2.CX P w) 5 T.f_law_done T.d_law_done p_law_done (spX K RD (ED T)) :=
  ⟨fun vs H Q E h => by obtain ⟨p, hp, h⟩ := done_split h; exact (done_all (P := P) (w := w) (base := base) T p hp).len vs H Q E h,
   fun A outer s H args us vs Q E hr he hb hv h => by obtain ⟨p, hp, h⟩ := done_split h; exact (done_all T p hp).run A outer s H args us vs Q E hr he hb hv h⟩
def R_law_asked (T : Tx K mg) : List D → D → Prop
  | [a, b, c], d => ∃ args, b = .lst args ∧ ((∃ t, RD [a, b, c] t ∧ d = .lst [.str "result", t]) ∨ (∃ u x, ED T [] [a, b, c] (.ref T.c_InvalidNumber) "given" u ∧ .idn u x ∈ args ∧ d = .lst [.str "number", .idn u x]) ∨ (∃ i, ED T [] [a, b, c] (.ref T.c_TooMany) "number" (.int i) ∧ d = .lst [.str "many", .int i]))
  | _, _ => False
theorem ok_law_asked (T : Tx K mg) : FnOk P w K mg base CX0 6 T.f_law_asked T.d_law_asked p_law_asked (spD K (R_law_asked T)) := by
  refine T.F_law_asked.ok sc_law_asked (fun vs H Q E h => ?_) (fun cdv A outer s H vs Q E hr h => ?_)
  · obtain ⟨G, ds, d, e, hd, hR, q⟩ := h
    rw [hd.length]
    match ds, hR with
    | [_, _, _], _ => rfl
  · refine ⟨_, (pss_one (ps_try_manyA rfl rfl takes_none5 (fun W pn xe tk hpass => (pss_one (ps_ret (pe_lst (pa_cons pe_str (pa_cons (pe_callS (ok_law_done T) (hr.mono (by omega)) (by rfl) T.g_law_done T.F_law_done.kp T.b_law_done (fun σ => passAt tk σ) (pa_cons (pv 0) (pa_cons (pv 1) (pa_cons (pv 2) pa_nil)))) pa_nil)))))) (HdsA.consA (i := 3) ⟨by rfl, by decide, .inl T.gc_InvalidNumber⟩ sc_law_asked.nd rfl rfl (fun a oe cls d pn hz hf => (pss_one (ps_ret (pe_lst (pa_cons (pe_ifExp (pt_val (pe_callB (call_isXK K T.e_InvalidNumber hz hf) (by rfl) T.m_isinstance (by decide +kernel) (pa_cons (pv 3) (pa_cons (pe_glob (v := .ref T.c_SemigroupError) (by rfl) T.gc_SemigroupError rfl) pa_nil)))) pe_str pe_str) (pa_cons (pe_xf T.e_InvalidNumber.xf T.e_InvalidNumber.nf hz hf (pv 3)) pa_nil)))))) (HdsA.consA (i := 3) ⟨by rfl, by decide, .inl T.gc_TooMany⟩ sc_law_asked.nd rfl rfl (fun a oe cls d pn hz hf => (pss_one (ps_ret (pe_lst (pa_cons (pe_ifExp (pt_val (pe_callB (call_isXK K T.e_TooMany hz hf) (by rfl) T.m_isinstance (by decide +kernel) (pa_cons (pv 3) (pa_cons (pe_glob (v := .ref T.c_SemigroupError) (by rfl) T.gc_SemigroupError rfl) pa_nil)))) pe_str pe_str) (pa_cons (pe_xf T.e_TooMany.xf T.e_TooMany.nf hz hf (pv 3)) pa_nil)))))) (HdsA.cons ⟨by rfl, by decide, .inl T.gc_SemigroupError⟩ (fun a oe cls d pn hz hf => (pss_one (ps_ret (pe_lst (pa_cons pe_str (pa_cons pe_non pa_nil)))))) HdsA.nil))))), ?_⟩
    obtain ⟨G, ds, d, e, hd, hR, q⟩ := h
    have hl : ∃ x0 x1 x2, ds = [x0, x1, x2] := by
      match ds, hR with
      | [x0, x1, x2], _ => exact ⟨x0, x1, x2, rfl⟩
    obtain ⟨x0, x1, x2, rfl⟩ := hl
    cases hd with
    | @cons v0 vs0 _ _ dv0 hd =>
    cases hd with
    | @cons v1 vs1 _ _ dv1 hd =>
    cases hd with
    | @cons v2 vs2 _ _ dv2 hd =>
    cases hd
    refine EX.finTry (tb := fun W => tRet (tLst (tCons (tC (.str "result")) (tCons (tCallS (spX K RD (ED T)) (WE W) (tCons (tVar 0) (tCons (tVar 1) (tCons (tVar 2) tNil)))) tNil)))) (good_start e ((.cons dv0 (.cons dv1 (.cons dv2 .nil)))) n_law_asked) q ?_
    show EX K ⟨G, H, none⟩ _ _ [Sl.val v0 x0, Sl.val v1 x1, Sl.val v2 x2, Sl.un] _
    obtain ⟨args, rfl, hk⟩ := hR
    have hv : ∀ {u : V} {x : D}, .idn u x ∈ args → ∀ σ G' H', Good K ⟨G, H, none⟩ σ [Sl.val v0 x0, Sl.val v1 (.lst args), Sl.val v2 x2, Sl.un] G' H' → Dat K G' u (.idn u x) := fun {u x} hm σ G' H' g => by
      obtain ⟨o, _, rfl, dv⟩ := g.sl.get (i := 1) (s := .val v1 (.lst args)) rfl
      obtain ⟨a, xs, rfl, ha, hx⟩ := dv.lstV
      obtain ⟨i, hi⟩ := List.mem_iff_getElem?.mp hm
      obtain ⟨z, hz, dz⟩ := hx.get hi
      obtain ⟨rfl, _⟩ := dz.idnV
      exact dz
    rcases hk with ⟨t, ht, rfl⟩ | ⟨u, x, hE, hm, rfl⟩ | ⟨i, hE, rfl⟩
    · refine ex_tryA (tb := fun W => tRet (tLst (tCons (tC (.str "result")) (tCons (tCallS (spX K RD (ED T)) (WE W) (tCons (tVar 0) (tCons (tVar 1) (tCons (tVar 2) tNil)))) tNil)))) (PX := fun _ _ _ _ => False) (fun W => ?_) fun _ _ _ _ h => h.elim
      exact ex_ret (ev_lst (ea_cons ev_str (ea_cons (ev_callX (ea_cons (ev_var rfl) (ea_cons (ev_var rfl) (ea_cons (ev_var rfl) ea_nil))) ht) ea_nil)) (sz 2)) fun v => rfl
    · refine ex_tryA (tb := fun W => tRet (tLst (tCons (tC (.str "result")) (tCons (tCallS (spX K RD (ED T)) (WE W) (tCons (tVar 0) (tCons (tVar 1) (tCons (tVar 2) tNil)))) tNil)))) (PX := fun c f' u' e' => c = .ref T.c_InvalidNumber ∧ f' = "given" ∧ u' = u ∧ e' = [Sl.val v0 x0, Sl.val v1 (.lst args), Sl.val v2 x2, Sl.un]) (fun W => ?_) fun c f' u' e' h => ?_
      · exact ex_rsRet (rs_lst (ra_next ev_str (ra_here (rs_call (eav_cons (evv_var rfl) (eav_cons (evv_var rfl) (eav_cons (evv_var rfl) eav_nil))) hE)))) ⟨rfl, rfl, rfl, rfl⟩
      · obtain ⟨rfl, rfl, rfl, rfl⟩ := h
        exact ⟨true, T.x_InvalidNumber_InvalidNumber, fun _ => exh_ret T.e_InvalidNumber T.y_InvalidNumber (by show 3 < 4; decide) (hv hm) fun u => rfl, fun h => nomatch h⟩
    · refine ex_tryA (tb := fun W => tRet (tLst (tCons (tC (.str "result")) (tCons (tCallS (spX K RD (ED T)) (WE W) (tCons (tVar 0) (tCons (tVar 1) (tCons (tVar 2) tNil)))) tNil)))) (PX := fun c f' u' e' => c = .ref T.c_TooMany ∧ f' = "number" ∧ u' = .int i ∧ e' = [Sl.val v0 x0, Sl.val v1 (.lst args), Sl.val v2 x2, Sl.un]) (fun W => ?_) fun c f' u' e' h => ?_
      · exact ex_rsRet (rs_lst (ra_next ev_str (ra_here (rs_call (eav_cons (evv_var rfl) (eav_cons (evv_var rfl) (eav_cons (evv_var rfl) eav_nil))) hE)))) ⟨rfl, rfl, rfl, rfl⟩
      · obtain ⟨rfl, rfl, rfl, rfl⟩ := h
        exact ⟨false, T.x_TooMany_InvalidNumber, (fun h => nomatch h), fun _ => ⟨true, T.x_TooMany_TooMany, fun _ => exh_ret T.e_TooMany T.y_TooMany (by show 3 < 4; decide) (fun _ _ _ _ => .int i) fun u => rfl, (fun h => nomatch h)⟩⟩
end
end Kx


set_option Elab.async false
set_option linter.all false
set_option maxRecDepth 100000
set_option maxHeartbeats 2000000
namespace Kx
open PySem PySem.Spec PyProof.Rows L2 DL
section
variable {P : Program} {w : World} {K : PySem.W.Frag} {mg : Str → Option Value} {base : Heap}
theorem Sm_row {n : Nat} {f : Nat → Nat} (hn : n < 10000) (k : Nat) : Sm (k + 1) (rowD n f) (rowD n f) :=
  .inr ⟨_, _, .inl ⟨rfl, rfl⟩, rfl, by rw [List.length_map, List.length_range]; exact hn, fun i a b ha hb => by
    rw [ha] at hb
    obtain rfl := Option.some.inj hb
    obtain ⟨y, _, rfl⟩ := List.mem_map.mp (List.mem_of_getElem? ha)
    exact Sm_atom rfl k⟩
theorem Sm_tbl {n : Nat} {f : Nat → Nat → Nat} (hn : n < 10000) (k : Nat) : Sm (k + 2) (tblD n f) (tblD n f) :=
  .inr ⟨_, _, .inl ⟨rfl, rfl⟩, rfl, by rw [List.length_map, List.length_range]; exact hn, fun i a b ha hb => by
    rw [ha] at hb
    obtain rfl := Option.some.inj hb
    obtain ⟨y, _, rfl⟩ := List.mem_map.mp (List.mem_of_getElem? ha)
    exact Sm_row hn k⟩
/-- lists of two: a text, and what is the same -/
theorem Sm_pair {s : Str} {x y : D} {k : Nat} (h : Sm k x y) : Sm (k + 1) (.lst [.str s, x]) (.lst [.str s, y]) :=
  .inr ⟨_, _, .inr ⟨rfl, rfl⟩, rfl, by show 2 < 10000; decide, fun i a b ha hb => by
    match i, ha, hb with
    | 0, ha, hb => cases ha; cases hb; exact Sm_atom rfl k
    | 1, ha, hb => cases ha; cases hb; exact h
    | i + 2, ha, hb => simp at ha⟩
def R_law_twice : List D → D → Prop
  | [wd, args, due, nm], d => ∃ aa nn n f, args = .lst aa ∧ nm = .bl nn ∧ due = tblD n f ∧ n < 10000 ∧ (∀ b, RD [wd, .lst aa, .bl b] (tblD n f)) ∧ d = .bl true
  | _, _ => False
theorem ok_law_twice (T : Tx K mg) : FnOk P w K mg base CX0 7 T.f_law_twice T.d_law_twice p_law_twice (spD K R_law_twice) := by
  refine T.F_law_twice.ok sc_law_twice (fun vs H Q E h => ?_) (fun cdv A outer s H vs Q E hr h => ?_)
  · obtain ⟨G, ds, d, e, hd, hR, q⟩ := h
    rw [hd.length]
    match ds, hR with
    | [_, _, _, _], _ => rfl
  · refine ⟨_, (pss_cons (ps_for PassesOwn.never rfl (pi_range1 (by rfl) T.m_range (pa_cons pe_int pa_nil)) (pg_name (i := 4) sc_law_twice.nd rfl (.inl rfl))
      (pss_cons (ps_set (i := 5) sc_law_twice.nd rfl (.inl rfl) (pe_call (ok_law_asked T) (hr.mono (by omega)) (by rfl) T.g_law_asked T.F_law_asked.kp T.b_law_asked .nil pass0 (pa_cons (pv 0) (pa_cons (pv 1) (pa_cons (pe_cmpR op_eq (pv 3) (pe_cmpR op_eq (pv 4) pe_int (nomark _)) (nomark _)) pa_nil)))))
      (pss_cons (ps_if (pt_not (pt_val (pe_call (ok_law_same T 6) (hr.mono (by omega)) (by rfl) T.g_law_same T.F_law_same.kp T.b_law_same .nil pass0 (pa_cons (pv 5) (pa_cons (pe_lst (pa_cons pe_str (pa_cons (pv 2) pa_nil))) pa_nil))))) (pss_one (ps_ret pe_bl)) pss_nil)
      (pss_one (ps_if (pt_val (pe_callB (call_isiK K) (by rfl) T.m_isinstance (by decide +kernel) (pa_cons (pe_ix (ix_seqK K) (pv 5) pe_int (fun _ _ => rfl)) (pa_cons (pe_bltn (v := .ty "list") (by rfl) T.m_list (by decide +kernel) rfl) pa_nil)))) (pss_one (ps_expr (pe_bmK K PySem.F.plainAttrs_list PySem.F.slot_list_append PySem.F.type_list_append mt_append (pe_ix (ix_seqK K) (pv 5) pe_int (fun _ _ => rfl)) (pa_cons pe_non pa_nil)))) pss_nil)))))
      (pss_one (ps_ret pe_bl))), ?_⟩
    obtain ⟨G, ds, d, e, hd, hR, q⟩ := h
    have hl : ∃ x0 x1 x2 x3, ds = [x0, x1, x2, x3] := by
      match ds, hR with
      | [x0, x1, x2, x3], _ => exact ⟨x0, x1, x2, x3, rfl⟩
    obtain ⟨x0, x1, x2, x3, rfl⟩ := hl
    cases hd with
    | @cons v0 vs0 _ _ dv0 hd =>
    cases hd with
    | @cons v1 vs1 _ _ dv1 hd =>
    cases hd with
    | @cons v2 vs2 _ _ dv2 hd =>
    cases hd with
    | @cons v3 vs3 _ _ dv3 hd =>
    cases hd
    refine EX.fin (W := fun _ _ _ _ => False) (good_start e ((.cons dv0 (.cons dv1 (.cons dv2 (.cons dv3 .nil))))) n_law_twice) q ?_
    show EX K ⟨G, H, none⟩ _ _ [Sl.val v0 x0, Sl.val v1 x1, Sl.val v2 x2, Sl.val v3 x3, Sl.un, Sl.un] _
    obtain ⟨aa, nn, n, f, rfl, rfl, rfl, hn, hRD, rfl⟩ := hR
    refine ex_forRS (n := 2) (fun _ env' => ∃ s4 s5, env' = [Sl.val v0 x0, Sl.val v1 (.lst aa), Sl.val v2 (tblD n f), Sl.val v3 (.bl nn), s4, s5]) ev_int (by decide) ⟨_, _, rfl⟩ ?_ fun env' ⟨s4, s5, h⟩ => by subst h; exact ex_ret ev_bl fun v => rfl
    rintro i env' vi hi ⟨s4, s5, rfl⟩
    refine ex_let (ev_call (ea_cons (ev_var rfl) (ea_cons (ev_var rfl) (ea_cons (ev_op (ev_var rfl) (ev_op (ev_var rfl) ev_int op_eqI) op_eqB) ea_nil))) ⟨aa, rfl, .inl ⟨_, hRD _, rfl⟩⟩) fun vt => ?_
    refine ex_when (b := false) (et_is (et_not (et_B (ev_callSm (ea_cons (ev_var rfl) (ea_cons (ev_lst (ea_cons ev_str (ea_cons (ev_var rfl) ea_nil)) (sz 2)) ea_nil)) (Sm_pair (Sm_tbl hn 2))))) rfl) (fun h => nomatch h) fun _ => ?_
    exact ex_if (et_B (ev_isT (b := false) (ev_op (ev_var rfl) ev_int (op_ix (.inr rfl) (atI_natD (j := 1) rfl))) rfl rfl)) (fun h => nomatch h) fun _ => ex_next ⟨_, _, rfl⟩
def R_law_item : List D → D → Prop
  | [wd, m, x, y], d => ∃ p ∈ kinds, ∃ n a b : Nat, wd = .str p.2 ∧ m = .int n ∧ x = .int a ∧ y = .int b ∧ 1 ≤ n ∧ d = .int (p.1 n a b : Nat)
  | _, _ => False
theorem ok_law_item (T : Tx K mg) : FnOk P w K mg base CX0 1 T.f_law_item T.d_law_item p_law_item (spD K R_law_item) := by
  refine T.F_law_item.ok sc_law_item (fun vs H Q E h => ?_) (fun cdv A outer s H vs Q E hr h => ?_)
  · obtain ⟨G, ds, d, e, hd, hR, q⟩ := h
    rw [hd.length]
    match ds, hR with
    | [_, _, _, _], _ => rfl
  · refine ⟨_, (pss_cons (ps_if (pt_cmpR (op_inK K) (pv 0) (pe_lst (pa_cons pe_str (pa_cons pe_str pa_nil))) (by with_unfolding_all rfl)) (pss_one (ps_ret (pe_ifExp (pt_cmpR op_eq (pv 0) pe_str (nomark _)) (pv 2) (pv 3)))) pss_nil)
      (pss_cons (ps_if (pt_cmpR op_eq (pv 0) pe_str (nomark _)) (pss_one (ps_ret pe_int)) pss_nil)
      (pss_one (ps_ret (pe_ifExp (pt_cmpR op_eq (pv 0) pe_str (nomark _)) (pe_callB (call_min2 rfl) (by rfl) T.m_min (by decide +kernel) (pa_cons (pv 2) (pa_cons (pv 3) pa_nil))) (pe_op op_mod (pe_callTy call_int1 (by rfl) T.m_int (by decide +kernel) (pa_cons (pe_op op_add (pv 2) (pv 3)) pa_nil)) (pv 1))))))), ?_⟩
    obtain ⟨G, ds, d, e, hd, hR, q⟩ := h
    have hl : ∃ x0 x1 x2 x3, ds = [x0, x1, x2, x3] := by
      match ds, hR with
      | [x0, x1, x2, x3], _ => exact ⟨x0, x1, x2, x3, rfl⟩
    obtain ⟨x0, x1, x2, x3, rfl⟩ := hl
    cases hd with
    | @cons v0 vs0 _ _ dv0 hd =>
    cases hd with
    | @cons v1 vs1 _ _ dv1 hd =>
    cases hd with
    | @cons v2 vs2 _ _ dv2 hd =>
    cases hd with
    | @cons v3 vs3 _ _ dv3 hd =>
    cases hd
    refine EX.fin (W := fun _ _ _ _ => False) (good_start e ((.cons dv0 (.cons dv1 (.cons dv2 (.cons dv3 .nil))))) n_law_item) q ?_
    show EX K ⟨G, H, none⟩ _ _ [Sl.val v0 x0, Sl.val v1 x1, Sl.val v2 x2, Sl.val v3 x3] _
    obtain ⟨p, hp, n, a, b, rfl, rfl, rfl, rfl, n1, rfl⟩ := hR
    rcases List.mem_cons.mp hp with rfl | hp
    · refine ex_when (b := true) (et_test (ev_op (ev_var rfl) (ev_lst (ea_cons ev_str (ea_cons ev_str ea_nil)) (sz 2)) (op_inS (ws := ["left", "right"]) (by decide)))) (fun _ => ?_) fun h => nomatch h
      exact ex_ret (ev_if (b := true) (et_test (ev_is (ev_op (ev_var rfl) ev_str op_eqStr) (by rw [decide_eq_true rfl]))) (fun _ => ev_var rfl) fun h => nomatch h) fun v => rfl
    rcases List.mem_cons.mp hp with rfl | hp
    · refine ex_when (b := true) (et_test (ev_op (ev_var rfl) (ev_lst (ea_cons ev_str (ea_cons ev_str ea_nil)) (sz 2)) (op_inS (ws := ["left", "right"]) (by decide)))) (fun _ => ?_) fun h => nomatch h
      exact ex_ret (ev_if (b := false) (et_test (ev_is (ev_op (ev_var rfl) ev_str op_eqStr) (by rw [decide_eq_false (by decide)]))) (fun h => nomatch h) fun _ => ev_var rfl) fun v => rfl
    rcases List.mem_cons.mp hp with rfl | hp
    · refine ex_when (b := false) (et_test (ev_op (ev_var rfl) (ev_lst (ea_cons ev_str (ea_cons ev_str ea_nil)) (sz 2)) (op_inS (ws := ["left", "right"]) (by decide)))) (fun h => nomatch h) fun _ => ?_
      refine ex_when (b := true) (et_test (ev_is (ev_op (ev_var rfl) ev_str op_eqStr) (by rw [decide_eq_true rfl]))) (fun _ => ?_) fun h => nomatch h
      exact ex_ret ev_int fun v => rfl
    rcases List.mem_cons.mp hp with rfl | hp
    · refine ex_when (b := false) (et_test (ev_op (ev_var rfl) (ev_lst (ea_cons ev_str (ea_cons ev_str ea_nil)) (sz 2)) (op_inS (ws := ["left", "right"]) (by decide)))) (fun h => nomatch h) fun _ => ?_
      refine ex_when (b := false) (et_test (ev_is (ev_op (ev_var rfl) ev_str op_eqStr) (by rw [decide_eq_false (by decide)]))) (fun h => nomatch h) fun _ => ?_
      refine ex_ret (ev_if (b := true) (et_test (ev_is (ev_op (ev_var rfl) ev_str op_eqStr) (by rw [decide_eq_true rfl]))) (fun _ => ev_is (ev_cb (ea_cons (ev_var rfl) (ea_cons (ev_var rfl) ea_nil)) cb_min2) ?_) fun h => nomatch h) fun v => rfl
      show D.int _ = D.int ((min a b : Nat) : Int)
      congr 1
      split <;> omega
    rcases List.mem_cons.mp hp with rfl | hp
    · refine ex_when (b := false) (et_test (ev_op (ev_var rfl) (ev_lst (ea_cons ev_str (ea_cons ev_str ea_nil)) (sz 2)) (op_inS (ws := ["left", "right"]) (by decide)))) (fun h => nomatch h) fun _ => ?_
      refine ex_when (b := false) (et_test (ev_is (ev_op (ev_var rfl) ev_str op_eqStr) (by rw [decide_eq_false (by decide)]))) (fun h => nomatch h) fun _ => ?_
      refine ex_ret (ev_if (b := false) (et_test (ev_is (ev_op (ev_var rfl) ev_str op_eqStr) (by rw [decide_eq_false (by decide)]))) (fun h => nomatch h) fun _ => ev_is (ev_op (ev_cb (ea_cons (ev_op (ev_var rfl) (ev_var rfl) op_addI) ea_nil) cb_int) (ev_var rfl) (op_modI (by omega))) ?_) fun v => rfl
      show D.int _ = D.int (((a + b) % n : Nat) : Int)
      push_cast
      rfl
    cases hp
end
end Kx


set_option Elab.async false
set_option linter.all false
set_option maxRecDepth 100000
set_option maxHeartbeats 2000000
namespace Kx
open PySem PySem.Spec PyProof.Rows L2 DL
section
variable {P : Program} {w : World} {K : PySem.W.Frag} {mg : Str → Option Value} {base : Heap}
theorem pow_down {i p c : Nat} (p1 : 1 ≤ p) (i1 : 1 ≤ i) (h : i + p - 1 < c) : powAt i p (c - p) = powAt i p c := by
  unfold powAt
  rw [if_neg (by omega), if_neg (by omega)]
  have e : c - i = (c - p - i) + p := by omega
  rw [e, Nat.add_mod_right]
theorem pow_low {i p c : Nat} (p1 : 1 ≤ p) (i1 : 1 ≤ i) (c1 : 1 ≤ c) (h : c ≤ i + p - 1) : powAt i p c = c - 1 := by
  unfold powAt
  by_cases hc : c < i
  · rw [if_pos hc]
  · rw [if_neg hc, Nat.mod_eq_of_lt (by omega)]
    omega
def R_law_of_powers : List D → D → Prop
  | [x, y], d => ∃ i p : Nat, x = .int i ∧ y = .int p ∧ 1 ≤ i ∧ 1 ≤ p ∧ i + p ≤ 11 ∧ d = tblD (i + p - 1) (fun a b => powAt i p (a + b + 2))
  | _, _ => False
theorem ok_law_of_powers (T : Tx K mg) : FnOk P w K mg base CX0 1 T.f_law_of_powers T.d_law_of_powers p_law_of_powers (spD K R_law_of_powers) := by
  refine T.F_law_of_powers.ok sc_law_of_powers (fun vs H Q E h => ?_) (fun cdv A outer s H vs Q E hr h => ?_)
  · obtain ⟨G, ds, d, e, hd, hR, q⟩ := h
    rw [hd.length]
    match ds, hR with
    | [_, _], _ => rfl
  · refine ⟨_, (pss_cons (ps_set (i := 2) sc_law_of_powers.nd rfl (.inl rfl) (pe_op op_sub (pe_op op_add (pv 0) (pv 1)) pe_int))
      (pss_cons (ps_set (i := 3) sc_law_of_powers.nd rfl (.inl rfl) (pe_lst pa_nil))
      (pss_cons (ps_for PassesOwn.never rfl (pi_range1 (by rfl) T.m_range (pa_cons (pv 2) pa_nil)) (pg_name (i := 4) sc_law_of_powers.nd rfl (.inl rfl))
      (pss_cons (ps_set (i := 5) sc_law_of_powers.nd rfl (.inl rfl) (pe_lst pa_nil))
      (pss_cons (ps_for PassesOwn.never rfl (pi_range1 (by rfl) T.m_range (pa_cons (pv 2) pa_nil)) (pg_name (i := 6) sc_law_of_powers.nd rfl (.inl rfl))
      (pss_cons (ps_set (i := 7) sc_law_of_powers.nd rfl (.inl rfl) (pe_op op_add (pe_op op_add (pv 4) (pv 6)) pe_int))
      (pss_cons (ps_while PassesOwn.never (pt_cmpR op_gt (pv 7) (pv 2) (nomark _)) (pss_one (ps_set (i := 7) sc_law_of_powers.nd rfl (.inl rfl) (pe_op op_sub (pv 7) (pv 1)))))
      (pss_one (ps_expr (pe_bmK K PySem.F.plainAttrs_list PySem.F.slot_list_append PySem.F.type_list_append mt_append (pv 5) (pa_cons (pe_op op_sub (pv 7) pe_int) pa_nil)))))))
      (pss_one (ps_expr (pe_bmK K PySem.F.plainAttrs_list PySem.F.slot_list_append PySem.F.type_list_append mt_append (pv 3) (pa_cons (pe_tupleOfK K (by rfl) T.m_tuple (pv 5)) pa_nil)))))))
      (pss_one (ps_ret (pe_tupleOfK K (by rfl) T.m_tuple (pv 3))))))), ?_⟩
    obtain ⟨G, ds, d, e, hd, hR, q⟩ := h
    have hl : ∃ x0 x1, ds = [x0, x1] := by
      match ds, hR with
      | [x0, x1], _ => exact ⟨x0, x1, rfl⟩
    obtain ⟨x0, x1, rfl⟩ := hl
    cases hd with
    | @cons v0 vs0 _ _ dv0 hd =>
    cases hd with
    | @cons v1 vs1 _ _ dv1 hd =>
    cases hd
    refine EX.fin (W := fun _ _ _ _ => False) (good_start e ((.cons dv0 (.cons dv1 .nil))) n_law_of_powers) q ?_
    show EX K ⟨G, H, none⟩ _ _ [Sl.val v0 x0, Sl.val v1 x1, Sl.un, Sl.un, Sl.un, Sl.un, Sl.un, Sl.un] _
    obtain ⟨i, p, rfl, rfl, i1, p1, hm, rfl⟩ := hR
    refine ex_let (ev_is (ev_op (ev_op (ev_var rfl) (ev_var rfl) op_addI) ev_int op_subI) (show D.int _ = D.int ((i + p - 1 : Nat) : Int) from congrArg D.int (by omega))) fun vm => ?_
    refine ex_newS ea_nil (sz 0) fun a => ?_
    refine ex_forRS (fun k env' => ∃ s4 s5 s6 s7, env' = [Sl.val v0 (.int i), Sl.val v1 (.int p), Sl.val vm (.int ((i + p - 1 : Nat) : Int)), Sl.own a ((List.range k).map fun x => rowD (i + p - 1) fun y => powAt i p (x + y + 2)), s4, s5, s6, s7]) (ev_var rfl) (by omega) ⟨_, _, _, _, rfl⟩ ?_ fun env' ⟨_, _, _, _, h⟩ => by subst h; exact ex_ret (ev_tupOwn rfl) fun v => rfl
    rintro k env' vk hk ⟨s4, s5, s6, s7, rfl⟩
    refine ex_newS ea_nil (sz 0) fun b => ?_
    refine ex_forRS (fun j env' => ∃ s6 s7, env' = [Sl.val v0 (.int i), Sl.val v1 (.int p), Sl.val vm (.int ((i + p - 1 : Nat) : Int)), Sl.own a ((List.range k).map fun x => rowD (i + p - 1) fun y => powAt i p (x + y + 2)), Sl.val vk (.int (k : Nat)), Sl.own b ((List.range j).map fun y => .int (powAt i p (k + y + 2) : Nat)), s6, s7]) (ev_var rfl) (by omega) ⟨_, _, rfl⟩ ?_ fun env' ⟨s6', s7', h⟩ => ?_
    · rintro j env' vj hj ⟨s6, s7, rfl⟩
      refine ex_let (ev_is (ev_op (ev_op (ev_var rfl) (ev_var rfl) op_addI) ev_int op_addI) (show D.int _ = D.int ((k + j + 2 : Nat) : Int) from congrArg D.int (by omega))) fun vn => ?_
      refine ex_whileS (fun e => ∃ (v : V) (c : Nat), 1 ≤ c ∧ powAt i p c = powAt i p (k + j + 2) ∧ e = [Sl.val v0 (.int i), Sl.val v1 (.int p), Sl.val vm (.int ((i + p - 1 : Nat) : Int)), Sl.own a ((List.range k).map fun x => rowD (i + p - 1) fun y => powAt i p (x + y + 2)), Sl.val vk (.int (k : Nat)), Sl.own b ((List.range j).map fun y => .int (powAt i p (k + y + 2) : Nat)), Sl.val vj (.int (j : Nat)), Sl.val v (.int (c : Nat))]) (fun e => (slotInt e 7).toNat)
        (tt := fun e => decide (((i + p - 1 : Nat) : Int) < slotInt e 7)) ⟨vn, k + j + 2, by omega, rfl, rfl⟩ ?_ ?_ ?_
      · rintro e ⟨v, c, c1, hc, rfl⟩
        exact et_test (ev_op (ev_var rfl) (ev_var rfl) op_gtI)
      · rintro e ⟨v, c, c1, hc, rfl⟩ ht
        have hlt : i + p - 1 < c := by have z : ((i + p - 1 : Nat) : Int) < (c : Int) := of_decide_eq_true ht; omega
        refine ex_asg (ev_is (ev_op (ev_var rfl) (ev_var rfl) op_subI) (show D.int _ = D.int ((c - p : Nat) : Int) from congrArg D.int (by omega))) fun u => ⟨⟨u, c - p, by omega, (pow_down p1 i1 hlt).trans hc, rfl⟩, ?_⟩
        show ((c - p : Nat) : Int).toNat < ((c : Nat) : Int).toNat
        omega
      · rintro e ⟨v, c, c1, hc, rfl⟩ ht
        have hle : c ≤ i + p - 1 := by have z := of_decide_eq_false (p := ((i + p - 1 : Nat) : Int) < (c : Int)) ht; omega
        refine ex_app rfl (ev_is (ev_op (ev_var rfl) ev_int op_subI) (show D.int _ = D.int ((powAt i p (k + j + 2) : Nat) : Int) from congrArg D.int (by rw [← hc, pow_low p1 i1 c1 hle]; omega))) (by rw [List.length_map, List.length_range]; exact small1000 (by omega)) ⟨Sl.val vj (.int (j : Nat)), Sl.val v (.int (c : Nat)), ?_⟩
        rw [List.range_succ, List.map_append]
        rfl
    · subst h
      refine ex_app rfl (ev_tupOwn rfl) (by rw [List.length_map, List.length_range]; exact small1000 (by omega)) ⟨Sl.val vk (.int (k : Nat)), Sl.own b ((List.range (i + p - 1)).map fun y => .int (powAt i p (k + y + 2) : Nat)), s6', s7', ?_⟩
      rw [List.range_succ, List.map_append]
      rfl
def R_law_of_pairs : List D → D → Prop
  | [x, y], d => ∃ l r : Nat, x = .int l ∧ y = .int r ∧ 1 ≤ l ∧ 1 ≤ r ∧ l * r ≤ 10 ∧ d = tblD (l * r) (fun a b => a / r * r + b % r)
  | _, _ => False
def prs (r k : Nat) : List (Int × Int) := (List.range (k * r)).map fun a => (((a / r : Nat) : Int), ((a % r : Nat) : Int))
theorem prs_succ {r k : Nat} (r1 : 1 ≤ r) : (prs r (k + 1)).map pairZD = (prs r k).map pairZD ++ (List.range r).map fun j => D.tup [.int (k : Nat), .int (j : Nat)] := by
  unfold prs
  rw [Nat.succ_mul, List.range_add, List.map_append, List.map_append]
  congr 1
  rw [List.map_map, List.map_map]
  refine List.map_congr_left fun j hj => ?_
  have hj' := List.mem_range.mp hj
  show pairZD (((k * r + j) / r : Nat), ((k * r + j) % r : Nat)) = _
  have h1 : (k * r + j) / r = k := by rw [Nat.mul_comm, Nat.mul_add_div (by omega), Nat.div_eq_of_lt hj', Nat.add_zero]
  have h2 : (k * r + j) % r = j := by rw [Nat.mul_comm, Nat.mul_add_mod, Nat.mod_eq_of_lt hj']
  rw [h1, h2]
  rfl
theorem prs_get {r k a : Nat} (h : a < k * r) : (prs r k)[a]? = some (((a / r : Nat) : Int), ((a % r : Nat) : Int)) := by
  unfold prs
  rw [List.getElem?_map, List.getElem?_range h]
  rfl
theorem ok_law_of_pairs (T : Tx K mg) : FnOk P w K mg base CX0 1 T.f_law_of_pairs T.d_law_of_pairs p_law_of_pairs (spD K R_law_of_pairs) := by
  refine T.F_law_of_pairs.ok sc_law_of_pairs (fun vs H Q E h => ?_) (fun cdv A outer s H vs Q E hr h => ?_)
  · obtain ⟨G, ds, d, e, hd, hR, q⟩ := h
    rw [hd.length]
    match ds, hR with
    | [_, _], _ => rfl
  · refine ⟨_, (pss_cons (ps_set (i := 2) sc_law_of_pairs.nd rfl (.inr rfl) (pe_lst pa_nil))
      (pss_cons (ps_for PassesOwn.never rfl (pi_range1 (by rfl) T.m_range (pa_cons (pv 0) pa_nil)) (pg_name (i := 3) sc_law_of_pairs.nd rfl (.inr rfl))
      (pss_one (ps_set (i := 2) sc_law_of_pairs.nd rfl (.inr rfl) (pe_op op_cat (pv 2) (pe_lc (own := [("j", 4)]) rfl sc_law_of_pairs.nd (pi_range1 (by rfl) T.m_range (pa_cons (pv 1) pa_nil)) (blkOk_by (by rfl)) (fun _ _ _ _ _ => pg_name (i := 4) sc_law_of_pairs.nd rfl (by first | exact .inl rfl | exact .inr rfl)) (fun _ _ _ _ _ => pts_nil) (fun _ _ _ _ _ => (pe_tup (pa_cons (pv 3) (pa_cons (pv 4) pa_nil)))))))))
      (pss_one (ps_ret (pe_tupleOfK K (by rfl) T.m_tuple (pe_lc (own := [("one", 6)]) rfl sc_law_of_pairs.nd (pi_listK K (pv 2)) (blkOk_by (by rfl)) (fun _ _ _ _ _ => pg_name (i := 6) sc_law_of_pairs.nd rfl (by first | exact .inl rfl | exact .inr rfl)) (fun _ _ _ _ _ => pts_nil) (fun _ _ _ _ _ => (pe_tupleOfK K (by rfl) T.m_tuple (pe_lc (own := [("other", 5)]) rfl sc_law_of_pairs.nd (pi_listK K (pv 2)) (blkOk_by (by rfl)) (fun _ _ _ _ _ => pg_name (i := 5) sc_law_of_pairs.nd rfl (by first | exact .inl rfl | exact .inr rfl)) (fun _ _ _ _ _ => pts_nil) (fun _ _ _ _ _ => (pe_bmK K PySem.F.plainAttrs_list PySem.F.slot_list_index PySem.F.type_list_index (mt_indexDK K (hu65 hr)) (pv 2) (pa_cons (pe_tup (pa_cons (pe_ix (ix_seqK K) (pv 6) pe_int (fun _ _ => rfl)) (pa_cons (pe_ix (ix_seqK K) (pv 5) pe_int (fun _ _ => rfl)) pa_nil))) pa_nil)))))))))))), ?_⟩
    obtain ⟨G, ds, d, e, hd, hR, q⟩ := h
    have hl : ∃ x0 x1, ds = [x0, x1] := by
      match ds, hR with
      | [x0, x1], _ => exact ⟨x0, x1, rfl⟩
    obtain ⟨x0, x1, rfl⟩ := hl
    cases hd with
    | @cons v0 vs0 _ _ dv0 hd =>
    cases hd with
    | @cons v1 vs1 _ _ dv1 hd =>
    cases hd
    refine EX.fin (W := fun _ _ _ _ => False) (good_start e ((.cons dv0 (.cons dv1 .nil))) n_law_of_pairs) q ?_
    show EX K ⟨G, H, none⟩ _ _ [Sl.val v0 x0, Sl.val v1 x1, Sl.un, Sl.un, Sl.un, Sl.un, Sl.un] _
    obtain ⟨l, r, rfl, rfl, l1, r1, hm, rfl⟩ := hR
    have hl : l ≤ 10 := Nat.le_trans (Nat.le_mul_of_pos_right l r1) hm
    have hr10 : r ≤ 10 := Nat.le_trans (Nat.le_mul_of_pos_left r l1) hm
    refine ex_let (ev_lst ea_nil (sz 0)) fun vp => ?_
    have e0 : prs r 0 = [] := by unfold prs; rw [Nat.zero_mul]; rfl
    refine ex_forRS (fun k env' => ∃ u s3, env' = [Sl.val v0 (.int l), Sl.val v1 (.int r), Sl.val u (.lst ((prs r k).map pairZD)), s3, Sl.un, Sl.un, Sl.un]) (ev_var rfl) (by omega) ⟨vp, _, by rw [e0]; rfl⟩ ?_ fun env' ⟨u, s3, h⟩ => ?_
    · rintro k env' vk hk ⟨u, s3, rfl⟩
      have hk2 : (k + 1) * r ≤ 10 := Nat.le_trans (Nat.mul_le_mul_right r hk) hm
      refine ex_asg (ev_is (ev_op (ev_var rfl) (ev_lcR (ev_var rfl) (by omega) (by decide) fun j v hj => ev_tup (ea_cons (ev_var rfl) (ea_cons (ev_var rfl) ea_nil)) (sz 2)) (op_catLD ?_)) (by rw [prs_succ r1])) fun v => ⟨_, _, rfl⟩
      rw [List.length_map, List.length_map, List.length_range]
      unfold prs
      rw [List.length_map, List.length_range]
      rw [Nat.succ_mul] at hk2
      exact Nat.le_trans hk2 (sz 10)
    · subst h
      have hlen : ((prs r l).map pairZD).length = l * r := by unfold prs; rw [List.length_map, List.length_map, List.length_range]
      have hget : ∀ {a : Nat} {d : D}, ((prs r l).map pairZD)[a]? = some d → a < l * r ∧ d = pairZD (((a / r : Nat) : Int), ((a % r : Nat) : Int)) := fun {a d} hd => by
        have ha : a < l * r := by rw [← hlen]; exact (List.getElem?_eq_some_iff.mp hd).1
        rw [List.getElem?_map, prs_get ha] at hd
        exact ⟨ha, (Option.some.inj hd).symm⟩
      refine ex_ret (ev_is (ev_then (ev_lcA (F := fun a => rowD (l * r) fun b => a / r * r + b % r) (ei_list (ev_var rfl)) (by rw [hlen]; exact small1000 (by omega)) (by decide) fun a u1 d1 hd1 => ?_) un_tupL) (by rw [hlen]; rfl)) fun v => rfl
      obtain ⟨ha, rfl⟩ := hget hd1
      refine ev_is (ev_then (ev_lcA (F := fun b => .int ((a / r * r + b % r : Nat) : Int)) (ei_list (ev_var rfl)) (by rw [hlen]; exact small1000 (by omega)) (by decide) fun b u2 d2 hd2 => ?_) un_tupL) (by rw [hlen]; rfl)
      obtain ⟨hb, rfl⟩ := hget hd2
      have hbr : b % r < r := Nat.mod_lt b r1
      have had : a / r < l := Nat.div_lt_of_lt_mul (by rw [Nat.mul_comm]; exact ha)
      have ht : a / r * r + b % r < l * r := Nat.lt_of_lt_of_le (Nat.add_lt_add_left hbr _) (by rw [← Nat.succ_mul]; exact Nat.mul_le_mul_right r had)
      have h1 : (a / r * r + b % r) / r = a / r := by rw [Nat.mul_comm, Nat.mul_add_div (by omega), Nat.div_eq_of_lt hbr, Nat.add_zero]
      have h2 : (a / r * r + b % r) % r = b % r := by rw [Nat.mul_comm, Nat.mul_add_mod, Nat.mod_eq_of_lt hbr]
      refine ev_index (L := prs r l) (p := (((a / r : Nat) : Int), ((b % r : Nat) : Int))) (ev_var rfl) (ev_tup (ea_cons (ev_op (ev_var rfl) ev_int (op_ix (.inl rfl) (atI_natD (j := 0) rfl))) (ea_cons (ev_op (ev_var rfl) ev_int (op_ix (.inl rfl) (atI_natD (j := 1) rfl))) ea_nil)) (sz 2)) (by rw [prs_get ht, h1, h2]) fun m hlt hm2 => ?_
      rw [prs_get (Nat.lt_trans hlt ht)] at hm2
      have hp := Option.some.inj hm2
      have q1 : ((m / r : Nat) : Int) = ((a / r : Nat) : Int) := congrArg Prod.fst hp
      have q2 : ((m % r : Nat) : Int) = ((b % r : Nat) : Int) := congrArg Prod.snd hp
      have q3 := Nat.div_add_mod m r
      have q1' : m / r = a / r := by omega
      have q2' : m % r = b % r := by omega
      rw [q1', q2', Nat.mul_comm] at q3
      omega
end
end Kx


set_option Elab.async false
set_option linter.all false
set_option maxRecDepth 100000
set_option maxHeartbeats 2000000
namespace Kx
open PySem PySem.Spec PyProof.Rows L2 DL
section
variable {P : Program} {w : World} {K : PySem.W.Frag} {mg : Str → Option Value} {base : Heap}
def RowOk (T : Tx K mg) (d : D) : Prop := ∃ (w : Str) (gi : D) (E : Nat) (os : List D), d = .tup [.str w, .lst (List.replicate E gi), .lst (List.replicate E (.str "number")), .lst (List.replicate E (.lst os))] ∧ 1 ≤ os.length ∧ os.length ≤ 100 ∧ E ≤ 2 ∧
  (∀ x ∈ os, x.top = x ∧ tyD x ≠ none ∧ OkV x) ∧
  (∀ (a : Nat) (args : List D) (nn : Bool), a < E → args.length = E → (∀ k, k < a → ∃ v, args[k]? = some (.idn v gi)) → (∀ k, k < E → ∃ v x, args[k]? = some (.idn v x) ∧ (x = gi ∨ x ∈ os)) → ∀ u x, args[a]? = some (.idn u x) → x ∈ os →
    ED T [] [.str w, .lst args, .bl nn] (.ref T.c_InvalidNumber) "given" u)
def R_refusals (T : Tx K mg) : List D → (D → Prop) → Prop
  | [rows, nm], Pd => ∃ rs nn, rows = .lst rs ∧ nm = .bl nn ∧ rs.length ≤ 20 ∧ (∀ d ∈ rs, RowOk T d) ∧ Pd (.bl true)
  | _, _ => False
theorem take_ok {m : Nat} (h1 : 1 ≤ m) (h2 : m < 1073741824) : R_law_take [.int m] (fun d => ∃ t : Nat, t < m ∧ d = .int t) := ⟨m, rfl, h1, h2, fun i hi => ⟨i, hi, rfl⟩⟩
/-- the arguments so far -/
def ArgsI (gi : D) (E : Nat) (os : List D) (a i : Nat) (ds : List D) : Prop := ds.length = E ∧ (∀ k, k < a → ∃ v, ds[k]? = some (.idn v gi)) ∧ (∀ k, k < E → ∃ v x, ds[k]? = some (.idn v x) ∧ (x = gi ∨ x ∈ os)) ∧ (1 ≤ i → ∃ u x, ds[a]? = some (.idn u x) ∧ x ∈ os)
theorem args0 {gi : D} {E a : Nat} {os : List D} {xs : List V} (h : xs.length = E) (ha : a < E) : ArgsI gi E os a 0 (List.zipWith D.idn xs (List.replicate E gi)) := by
  have get : ∀ k, k < E → ∃ v, (List.zipWith D.idn xs (List.replicate E gi))[k]? = some (.idn v gi) := fun k hk => by
    refine ⟨xs[k], ?_⟩
    rw [List.getElem?_zipWith, List.getElem?_eq_getElem (by omega : k < xs.length), List.getElem?_replicate, if_pos hk]
  refine ⟨by rw [List.length_zipWith, List.length_replicate, h, Nat.min_self], fun k hk => get k (by omega), fun k hk => ?_, fun z => absurd z (by decide)⟩
  obtain ⟨v, hv⟩ := get k hk
  exact ⟨v, gi, hv, .inl rfl⟩
theorem args_set {gi : D} {E a i : Nat} {os : List D} {ds : List D} {v : V} {x : D} (h : ArgsI gi E os a i ds) (hi : a + i < E) (hx : x ∈ os) : ArgsI gi E os a (i + 1) (ds.set (a + i) (.idn v x)) := by
  obtain ⟨h1, h2, h3, h4⟩ := h
  refine ⟨by rw [List.length_set, h1], fun k hk => ?_, fun k hk => ?_, fun _ => ?_⟩
  · rw [List.getElem?_set_ne (by omega)]; exact h2 k hk
  · by_cases e : a + i = k
    · subst e; rw [List.getElem?_set_self (by omega)]; exact ⟨v, x, rfl, .inr hx⟩
    · rw [List.getElem?_set_ne e]; exact h3 k hk
  · by_cases e : i = 0
    · subst e; rw [Nat.add_zero, List.getElem?_set_self (by omega)]; exact ⟨v, x, rfl, hx⟩
    · rw [List.getElem?_set_ne (by omega)]; exact h4 (by omega)
theorem args_keep {gi : D} {E a i : Nat} {os : List D} {ds : List D} (h : ArgsI gi E os a i ds) (hi : 1 ≤ i) : ArgsI gi E os a (i + 1) ds := ⟨h.1, h.2.1, h.2.2.1, fun _ => h.2.2.2 hi⟩
theorem rep_get {α : Type} {E k : Nat} {x : α} (h : k < E) : (List.replicate E x)[k]? = some x := by rw [List.getElem?_replicate, if_pos h]
theorem ok_law_refusals_right (T : Tx K mg) : FnOk P w K mg base CX0 9 T.f_law_refusals_right T.d_law_refusals_right p_law_refusals_right (spB K 120 (R_refusals T)) := by
  refine T.F_law_refusals_right.ok sc_law_refusals_right (fun vs H Q E h => ?_) (fun cdv A outer s H vs Q E hr h => ?_)
  · obtain ⟨G, b, n, xs, bs, ws, ds, Pd, rfl, hG, hH, hx, hbx, hn, e, hd, hR, q⟩ := h
    rw [List.length_cons, hd.length]
    match ds, hR with
    | [_, _], _ => rfl
  · refine ⟨_, (pss_cons (ps_for PassesOwn.never rfl (pi_listK K (pv 1)) (pg_tupK K rfl (pgs_cons (pg_name (i := 3) sc_law_refusals_right.nd rfl (.inl rfl)) (pgs_cons (pg_name (i := 4) sc_law_refusals_right.nd rfl (.inl rfl)) (pgs_cons (pg_name (i := 5) sc_law_refusals_right.nd rfl (.inl rfl)) (pgs_cons (pg_name (i := 6) sc_law_refusals_right.nd rfl (.inl rfl)) pgs_nil)))))
      (pss_one (ps_for PassesOwn.never rfl (pi_range1 (by rfl) T.m_range (pa_cons (pe_callB (call_lenK K) (by rfl) T.m_len (by decide +kernel) (pa_cons (pv 5) pa_nil)) pa_nil)) (pg_name (i := 7) sc_law_refusals_right.nd rfl (.inl rfl))
      (pss_cons (ps_par (i := 8) (j := 9) rfl sc_law_refusals_right.nd rfl rfl (by decide) rfl rfl (pa_cons (pe_callTy (call_list_ofK K) (by rfl) T.m_list (by decide +kernel) (pa_cons (pv 4) pa_nil)) (pa_cons (pe_call (ok_law_take T) (hr.mono (by omega)) (by rfl) T.g_law_take T.F_law_take.kp T.b_law_take .nil pass0 (pa_cons (pv 0) (pa_cons pe_int pa_nil))) pa_nil)) (by rfl))
      (pss_cons (ps_for PassesOwn.never rfl (pi_range2 (by rfl) T.m_range (pa_cons (pv 7) (pa_cons (pe_callB (call_lenK K) (by rfl) T.m_len (by decide +kernel) (pa_cons (pv 5) pa_nil)) pa_nil))) (pg_name (i := 10) sc_law_refusals_right.nd rfl (.inl rfl))
      (pss_one (ps_if (PW.pt (pw_or (pt_cmpR op_eq (pv 10) (pv 7) (nomark _)) (pw_or1 (pt_cmpR op_eq (pv 9) pe_int (nomark _))))) (pss_one (ps_asg (pe_call (ok_law_copy T) (hr.mono (by omega)) (by rfl) T.g_law_copy T.F_law_copy.kp T.b_law_copy .nil pass0 (pa_cons (pe_ix (ix_seqK K) (pe_ix (ix_seqK K) (pv 6) (pv 10) (fun _ _ => rfl)) (pe_call (ok_law_take T) (hr.mono (by omega)) (by rfl) T.g_law_take T.F_law_take.kp T.b_law_take .nil pass0 (pa_cons (pv 0) (pa_cons (pe_callB (call_lenK K) (by rfl) T.m_len (by decide +kernel) (pa_cons (pe_ix (ix_seqK K) (pv 6) (pv 10) (fun _ _ => rfl)) pa_nil)) pa_nil))) (fun _ _ => rfl)) pa_nil)) (pg_sub (pv 8) (pv 10) set_list))) pss_nil)))
      (pss_cons (ps_set (i := 11) sc_law_refusals_right.nd rfl (.inl rfl) (pe_call (ok_law_asked T) (hr.mono (by omega)) (by rfl) T.g_law_asked T.F_law_asked.kp T.b_law_asked .nil pass0 (pa_cons (pv 3) (pa_cons (pv 8) (pa_cons (pv 2) pa_nil)))))
      (pss_cons (ps_if (PW.pt (pw_or (pt_cmpR op_ne (pe_ix (ix_seqK K) (pv 11) pe_int (fun _ _ => rfl)) (pe_ix (ix_seqK K) (pv 5) (pv 7) (fun _ _ => rfl)) (nomark _)) (pw_or1 (pt_not (pt_val (pe_call (ok_law_same_object T) (hr.mono (by omega)) (by rfl) T.g_law_same_object T.F_law_same_object.kp T.b_law_same_object .nil pass0 (pa_cons (pe_ix (ix_seqK K) (pv 11) pe_int (fun _ _ => rfl)) (pa_cons (pe_ix (ix_seqK K) (pv 8) (pv 7) (fun _ _ => rfl)) pa_nil)))))))) (pss_one (ps_ret pe_bl)) pss_nil)
      (pss_one (ps_set (i := 2) sc_law_refusals_right.nd rfl (.inl rfl) (pe_not (pv 2)))))))))))
      (pss_one (ps_ret pe_bl))), ?_⟩
    obtain ⟨G, b, n, xs, bs, ws, ds, Pd, rfl, hG, hH, hx, hbx, hn, e, hd, hR, q⟩ := h
    have hl : ∃ x1 x2, ds = [x1, x2] := by
      match ds, hR with
      | [x1, x2], _ => exact ⟨x1, x2, rfl⟩
    obtain ⟨x1, x2, rfl⟩ := hl
    cases hd with
    | @cons v1 vs0 _ _ dv1 hd =>
    cases hd with
    | @cons v2 vs1 _ _ dv2 hd =>
    cases hd
    refine EX.finB (W := fun _ _ _ _ => False) (k := 120) (n := n) (env := [Sl.own b bs, Sl.val v1 x1, Sl.val v2 x2, Sl.un, Sl.un, Sl.un, Sl.un, Sl.un, Sl.un, Sl.un, Sl.un, Sl.un]) rfl (good_box e hG hH hx ((.cons dv1 (.cons dv2 .nil))) n_law_refusals_right) q ?_
    obtain ⟨rs, nn, rfl, rfl, hlen, hrow, hP⟩ := hR
    refine ex_forS (fun i env' => ∃ bs' nn' u2 s3 s4 s5 s6 s7 s8 s9 s10 s11, BoxD (n + 6 * i) bs' ∧ env' = [Sl.own b bs', Sl.val v1 (.lst rs), Sl.val u2 (.bl nn'), s3, s4, s5, s6, s7, s8, s9, s10, s11]) (ei_list (ev_var rfl)) ⟨_, _, _, _, _, _, _, _, _, _, _, _, hbx, rfl⟩ ?_ fun env' h => ?_
    rotate_left
    · obtain ⟨bs', nn', u2, s3, s4, s5, s6, s7, s8, s9, s10, s11, hB, rfl⟩ := h
      exact ex_ret ev_bl fun v => ⟨hP, bs', hB.mono (by omega), rfl⟩
    rintro i env' v d hd ⟨bs0, nn0, u2, s3, s4, s5, s6, s7, s8, s9, s10, s11, hB0, rfl⟩
    have hi20 : i < 20 := Nat.lt_of_lt_of_le (List.getElem?_eq_some_iff.mp hd).1 hlen
    obtain ⟨w', gi, N, os, rfl, ho1, ho2, hN, hos, hask⟩ := hrow d (List.mem_of_getElem? hd)
    refine ⟨_, eg_four, fun env2 ⟨w3, w4, w5, w6, h⟩ => ?_⟩
    subst h
    refine ex_forR (n := N) (fun a env' => ∃ bs' nn' u2 s7 s8 s9 s10 s11, BoxD (n + 6 * i + 3 * a) bs' ∧ env' = [Sl.own b bs', Sl.val v1 (.lst rs), Sl.val u2 (.bl nn'), Sl.val w3 (.str w'), Sl.val w4 (.lst (List.replicate N gi)), Sl.val w5 (.lst (List.replicate N (.str "number"))), Sl.val w6 (.lst (List.replicate N (.lst os))), s7, s8, s9, s10, s11])
      (ev_is (ev_cb (ea_cons (ev_var rfl) ea_nil) cb_lenL) (by rw [List.length_replicate])) (by omega) ⟨_, _, _, _, _, _, _, _, hB0, rfl⟩ ?_ fun env' h => ?_
    rotate_left
    · obtain ⟨bs', nn', u2, s7, s8, s9, s10, s11, hB, rfl⟩ := h
      exact ⟨_, _, _, _, _, _, _, _, _, _, _, _, hB.mono (by omega), rfl⟩
    rintro a env' va ha ⟨bs1, nn1, u2', s7, s8, s9, s10, s11, hB1, rfl⟩
    -- args, later
    refine ex_seq (N := fun e => ∃ p xs u t bs', xs.length = N ∧ t < 2 ∧ BoxD (n + 6 * i + 3 * a + 1) bs' ∧ e = [Sl.own b bs', Sl.val v1 (.lst rs), Sl.val u2' (.bl nn1), Sl.val w3 (.str w'), Sl.val w4 (.lst (List.replicate N gi)), Sl.val w5 (.lst (List.replicate N (.str "number"))), Sl.val w6 (.lst (List.replicate N (.lst os))), Sl.val va (.int (a : Nat)), Sl.own p (List.zipWith D.idn xs (List.replicate N gi)), Sl.val u (.int (t : Nat)), s10, s11])
      (ex_parL2 (ev_var rfl) (xe_callB rfl hB1 (by omega) (ea_cons ev_int ea_nil) (take_ok (m := 2) (by decide) (by decide))) fun p xs u d e hx hp => ?_) fun env' h => ?_
    · obtain ⟨⟨t, ht, rfl⟩, bs', hB', rfl⟩ := hp
      exact ⟨p, xs, u, t, bs', by rw [hx, List.length_replicate], ht, hB', rfl⟩
    obtain ⟨p, xs, ul, t, bs2, hxl, ht2, hB2, rfl⟩ := h
    refine ex_forNS (fun i2 e => ∃ bs' ds s10, BoxD (n + 6 * i + 3 * a + 1 + i2) bs' ∧ ArgsI gi N os a i2 ds ∧ e = [Sl.own b bs', Sl.val v1 (.lst rs), Sl.val u2' (.bl nn1), Sl.val w3 (.str w'), Sl.val w4 (.lst (List.replicate N gi)), Sl.val w5 (.lst (List.replicate N (.str "number"))), Sl.val w6 (.lst (List.replicate N (.lst os))), Sl.val va (.int (a : Nat)), Sl.own p ds, Sl.val ul (.int (t : Nat)), s10, s11])
      (ei_rng2 (m := (a : Nat)) (n := ((List.replicate N (D.str "number")).length : Nat)) (ea_cons (ev_var rfl) (ea_cons (ev_cb (ea_cons (ev_var rfl) ea_nil) cb_lenL) ea_nil)) (by rw [List.length_replicate]; omega)) ⟨_, _, _, hB2, args0 hxl ha, rfl⟩ ?_ fun env' h => ?_
    · rintro i2 env' vk dk hdk ⟨bs3, ds, s10', hB3, hA, rfl⟩
      have hlt : i2 < N - a := by
        have := (List.getElem?_eq_some_iff.mp hdk).1
        rw [rgD_length, List.length_replicate] at this
        omega
      obtain rfl : dk = .int ((a + i2 : Nat) : Int) := by
        rw [rgD_get (by rw [List.length_replicate]; omega)] at hdk
        rw [← Option.some.inj hdk]
        congr 1
      refine ex_if (et_or (et_test (ev_op (ev_var rfl) (ev_var rfl) op_eqI)) fun _ => et_test (ev_op (ev_var rfl) ev_int op_eqI)) (fun _ => ?_) fun hf => ?_
      · refine ex_setOwnX (P1 := fun v d e => d ∈ os ∧ ∃ bs', BoxD (n + 6 * i + 3 * a + 1 + i2 + 1) bs' ∧ e = [Sl.own b bs', Sl.val v1 (.lst rs), Sl.val u2' (.bl nn1), Sl.val w3 (.str w'), Sl.val w4 (.lst (List.replicate N gi)), Sl.val w5 (.lst (List.replicate N (.str "number"))), Sl.val w6 (.lst (List.replicate N (.lst os))), Sl.val va (.int (a : Nat)), Sl.own p ds, Sl.val ul (.int (t : Nat)), Sl.val vk (.int ((a + i2 : Nat) : Int)), s11]) ?_ fun v d e hp => ?_
        · refine xe_call (P1 := fun vs xs e => ∃ x, xs = [x] ∧ x ∈ os ∧ ∃ bs', BoxD (n + 6 * i + 3 * a + 1 + i2 + 1) bs' ∧ e = [Sl.own b bs', Sl.val v1 (.lst rs), Sl.val u2' (.bl nn1), Sl.val w3 (.str w'), Sl.val w4 (.lst (List.replicate N gi)), Sl.val w5 (.lst (List.replicate N (.str "number"))), Sl.val w6 (.lst (List.replicate N (.lst os))), Sl.val va (.int (a : Nat)), Sl.own p ds, Sl.val ul (.int (t : Nat)), Sl.val vk (.int ((a + i2 : Nat) : Int)), s11]) ?_ fun vs xs e hp => ?_
          · refine xa_cons (P2 := fun _ _ vs ds9 e => vs = [] ∧ ds9 = [] ∧ ∃ bs', BoxD (n + 6 * i + 3 * a + 1 + i2 + 1) bs' ∧ e = [Sl.own b bs', Sl.val v1 (.lst rs), Sl.val u2' (.bl nn1), Sl.val w3 (.str w'), Sl.val w4 (.lst (List.replicate N gi)), Sl.val w5 (.lst (List.replicate N (.str "number"))), Sl.val w6 (.lst (List.replicate N (.lst os))), Sl.val va (.int (a : Nat)), Sl.own p ds, Sl.val ul (.int (t : Nat)), Sl.val vk (.int ((a + i2 : Nat) : Int)), s11])
              (P1 := fun v d e => d ∈ os ∧ ∃ bs', BoxD (n + 6 * i + 3 * a + 1 + i2 + 1) bs' ∧ e = [Sl.own b bs', Sl.val v1 (.lst rs), Sl.val u2' (.bl nn1), Sl.val w3 (.str w'), Sl.val w4 (.lst (List.replicate N gi)), Sl.val w5 (.lst (List.replicate N (.str "number"))), Sl.val w6 (.lst (List.replicate N (.lst os))), Sl.val va (.int (a : Nat)), Sl.own p ds, Sl.val ul (.int (t : Nat)), Sl.val vk (.int ((a + i2 : Nat) : Int)), s11]) ?_ (fun v d e hp => ?_) fun v d e vs xs e2 h1 h2 => ?_
            · have evW : EV K ⟨G, H, some b⟩ (tOp (rIx K) (tVar 6) (tVar 10)) [Sl.own b bs3, Sl.val v1 (.lst rs), Sl.val u2' (.bl nn1), Sl.val w3 (.str w'), Sl.val w4 (.lst (List.replicate N gi)), Sl.val w5 (.lst (List.replicate N (.str "number"))), Sl.val w6 (.lst (List.replicate N (.lst os))), Sl.val va (.int (a : Nat)), Sl.own p ds, Sl.val ul (.int (t : Nat)), Sl.val vk (.int ((a + i2 : Nat) : Int)), s11] (.lst os) :=
                ev_op (ev_var rfl) (ev_var rfl) (op_ix (.inr rfl) (atI_natD (rep_get (by omega))))
              refine xe_op (P2 := fun _ v d e => ∃ t2 : Nat, t2 < os.length ∧ d = .int t2 ∧ ∃ bs', BoxD (n + 6 * i + 3 * a + 1 + i2 + 1) bs' ∧ e = [Sl.own b bs', Sl.val v1 (.lst rs), Sl.val u2' (.bl nn1), Sl.val w3 (.str w'), Sl.val w4 (.lst (List.replicate N gi)), Sl.val w5 (.lst (List.replicate N (.str "number"))), Sl.val w6 (.lst (List.replicate N (.lst os))), Sl.val va (.int (a : Nat)), Sl.own p ds, Sl.val ul (.int (t : Nat)), Sl.val vk (.int ((a + i2 : Nat) : Int)), s11]) evW.xe (fun v d e h => ?_) fun v d e v' d' e' h1 h2 => ?_
              · obtain ⟨rfl, rfl⟩ := h
                refine (xe_callB rfl hB3 (by omega) (ea_cons (ev_cb (ea_cons evW ea_nil) cb_lenL) ea_nil) (take_ok (m := os.length) ho1 (by omega))).imp fun v d e h => ?_
                obtain ⟨⟨t2, h1, rfl⟩, bs', hB', rfl⟩ := h
                exact ⟨t2, h1, rfl, bs', hB', rfl⟩
              · obtain ⟨rfl, _⟩ := h1
                obtain ⟨t2, ht, rfl, bs', hB', rfl⟩ := h2
                exact ⟨os[t2], op_ix (.inr rfl) (atI_natD (List.getElem?_eq_getElem ht)), fun v => ⟨List.getElem_mem _, bs', hB', rfl⟩⟩
            · obtain ⟨_, bs', hB', rfl⟩ := hp
              exact fun σ G H g Q q => q [] [] _ G H g (.refl g.gh) rfl .nil ⟨rfl, rfl, bs', hB', rfl⟩
            · obtain ⟨hd, _⟩ := h1
              obtain ⟨rfl, rfl, bs', hB', rfl⟩ := h2
              exact ⟨d, rfl, hd, bs', hB', rfl⟩
          · obtain ⟨x, rfl, hx, bs', hB', rfl⟩ := hp
            exact ⟨x, ⟨(hos x hx).2.1, (hos x hx).1.symm⟩, fun v => ⟨hx, bs', hB', rfl⟩⟩
        · obtain ⟨hd, bs', hB', rfl⟩ := hp
          exact ⟨p, ds, ((a + i2 : Nat) : Int), a + i2, rfl, ev_var rfl, by rw [hA.1]; exact ixN_nat (by omega), bs', _, _, hB'.mono (by omega), args_set hA (by omega) hd, rfl⟩
      · have hne : ¬ (((a + i2 : Nat) : Int) = (a : Int)) := fun z => by rw [decide_eq_true z] at hf; cases hf
        exact ex_next ⟨bs3, ds, _, hB3.mono (by omega), args_keep hA (by omega), rfl⟩
    obtain ⟨bs3, ds, s10', hB3, hA, rfl⟩ := h
    rw [rgD_length, List.length_replicate] at hB3 hA
    obtain ⟨u, x, hux, hxo⟩ := hA.2.2.2 (by omega)
    have hED := hask a ds nn1 ha hA.1 hA.2.1 hA.2.2.1 u x hux hxo
    refine ex_commit' (i := 8) rfl (fun σ G' H' g z => ?_) ?_
    · have hbp : b = p := Option.some.inj z
      have nd : (b :: p :: ([s10', s11].filterMap ownA)).Nodup := g.nd
      exact (List.nodup_cons.mp nd).1 (by rw [hbp]; exact List.mem_cons_self)
    refine ex_let (ev_call (ea_cons (ev_var rfl) (ea_cons (ev_var rfl) (ea_cons (ev_var rfl) ea_nil))) ⟨ds, rfl, .inr (.inl ⟨u, x, hED, List.mem_of_getElem? hux, rfl⟩)⟩) fun vt => ?_
    refine ex_when (b := false) (et_is (et_or (et_test (ev_op (ev_op (ev_var rfl) ev_int (op_ix (.inr rfl) (atI_natD (j := 0) rfl))) (ev_op (ev_var rfl) (ev_var rfl) (op_ix (.inr rfl) (atI_natD (rep_get ha)))) op_neStr)) fun _ => et_not (et_B (ev_callR (d := .bl true) (vs := [u, u]) (ds := [.idn u x, .idn u x]) (eav_cons (evv_as (evv_idn (ev_op (ev_var rfl) ev_int (op_ix (.inr rfl) (atI_natD (j := 1) rfl))))) (eav_cons (evv_as (evv_idn (ev_op (ev_var rfl) (ev_var rfl) (op_ix (.inr rfl) (atI_natD hux))))) eav_nil)) fun σ G' H' g dl Q q => ?_))) (by simp)) (fun h => nomatch h) fun _ => ?_
    · cases dl with
      | cons dx _ =>
      exact ⟨G', u, x, rfl, g.gh, dx.strip, (hos x hxo).2.2, fun H2 e2 => q _ G' H2 ⟨.refl _, e2, g.gh.trans e2, fun _ h _ => h⟩ (.bl true)⟩
    exact ex_asg (ev_not (ev_var rfl)) fun v => ⟨_, _, _, _, _, _, _, _, hB3.mono (by omega), rfl⟩
end
end Kx


set_option Elab.async false
set_option linter.all false
set_option maxRecDepth 100000
set_option maxHeartbeats 2000000
namespace Kx
open PySem PySem.Spec PyProof.Rows L2 DL
theorem hu64 {k : Nat} {A : Around} (hr : Room k A) : A.units + 64 < cLine := by have := hr.un; omega
section
variable {P : Program} {w : World} {K : PySem.W.Frag} {mg : Str → Option Value} {base : Heap}

theorem good_two (n : Nat) : (if (n : Int) < 4 then (n : Int) else 4) = ((min 4 n : Nat) : Int) := by split <;> omega
theorem F_lt {p : (Nat → Nat → Nat → Nat) × Str} (hp : p ∈ kinds) {n x y : Nat} (hx : x < n) (hy : y < n) : p.1 n x y < n := by
  rcases List.mem_cons.mp hp with rfl | hp
  · exact hx
  rcases List.mem_cons.mp hp with rfl | hp
  · exact hy
  rcases List.mem_cons.mp hp with rfl | hp
  · show 0 < n; omega
  rcases List.mem_cons.mp hp with rfl | hp
  · show min x y < n; omega
  rcases List.mem_cons.mp hp with rfl | hp
  · exact Nat.mod_lt _ (by omega)
  cases hp
theorem F_ass {p : (Nat → Nat → Nat → Nat) × Str} (hp : p ∈ kinds) {n x y z : Nat} (hx : x < n) (hy : y < n) (hz : z < n) : p.1 n (p.1 n x y) z = p.1 n x (p.1 n y z) := by
  rcases List.mem_cons.mp hp with rfl | hp
  · rfl
  rcases List.mem_cons.mp hp with rfl | hp
  · rfl
  rcases List.mem_cons.mp hp with rfl | hp
  · rfl
  rcases List.mem_cons.mp hp with rfl | hp
  · show min (min x y) z = min x (min y z); omega
  rcases List.mem_cons.mp hp with rfl | hp
  · show ((x + y) % n + z) % n = (x + (y + z) % n) % n
    rw [Nat.mod_add_mod, Nat.add_mod_mod, Nat.add_assoc]
  cases hp
theorem RD_tab {p : (Nat → Nat → Nat → Nat) × Str} (hp : p ∈ kinds) {n : Nat} (h1 : 1 ≤ n) (h2 : n ≤ 10) (bb : Bool) : RD [.str p.2, .lst [.int n], .bl bb] (tblD n (p.1 n)) :=
  ⟨p, hp, p.2, [.int n], bb, rfl, rfl, rfl, .inr (.inr ⟨rfl, n, h1, h2, rfl, rfl⟩)⟩
variable {β : Bas} {env : Env'}
theorem ev_lenS {a : Addr} {ns : List Int} (hb : β.bx = none) (hS : SqL K β.H a (ns.map V.int)) (h : env[0]? = some (.val (.ref a) (.op (.ref a)))) : EV K β (tCB (DL.rLen K) (tCons (tVar 0) tNil)) env (.int ns.length) := fun σ G H g Q q =>
  ⟨.ref a, slot_val g h, .ref a, (ns.map V.int).length, rfl, .inl ⟨_, ex_l (fun b o e => g.hh b o (by rw [hb]; exact (fun z => nomatch z)) e) hS, rfl⟩, by rw [List.length_map]; exact q _ G H (.refl g.gh) (.int _)⟩
theorem ev_cell {a : Addr} {ns : List Int} {k : Nat} {vk : V} {E : XK} (hb : β.bx = none) (hS : SqL K β.H a (ns.map V.int)) (h : env[0]? = some (.val (.ref a) (.op (.ref a)))) (hk : env[1]? = some (.val vk (.int (k : Nat)))) :
    EV K β (tCall (spCellL K) [] E (tCons (tVar 0) (tCons (tVar 1) tNil))) env (.int (cellF ns k)) :=
  ev_callR (eav_cons (evv_var h) (eav_cons (evv_intV (ev_var hk)) eav_nil)) fun σ G H g dl Q q => ⟨a, ns, k, rfl, ex_l (fun b o e => g.hh b o (by rw [hb]; exact (fun z => nomatch z)) e) hS, fun H' e' => q _ G H' ⟨.refl _, e', g.gh.trans e', fun _ h _ => h⟩ (.int _)⟩
theorem xe_take {i n m : Nat} {b : Addr} {bs : List D} {tm : TE} {E : XK} (hi : env[i]? = some (.own b bs)) (hB : BoxD n bs) (hn : n < 1000000000) (hm : EV K β tm env (.int (m : Nat))) (h1 : 1 ≤ m) (h2 : m < 1073741824) :
    XE K β (tCall (spB K 1 R_law_take) [] E (tCons (tVar i) (tCons tm tNil))) env (fun _ d e => ∃ t : Nat, t < m ∧ d = .int (t : Nat) ∧ ∃ bs', BoxD (n + 1) bs' ∧ e = env.set i (.own b bs')) :=
  (xe_callB hi hB (by omega) (ea_cons hm ea_nil) (take_ok h1 h2)).imp fun v d e ⟨⟨t, ht, hd⟩, bs', hB', he⟩ => ⟨t, ht, hd, bs', hB', he⟩
/-- 1 + a draw -/
theorem xe_take1 {i n m : Nat} {b : Addr} {bs : List D} {tm : TE} {E : XK} (hi : env[i]? = some (.own b bs)) (hB : BoxD n bs) (hn : n < 1000000000) (hm : EV K β tm env (.int (m : Nat))) (h1 : 1 ≤ m) (h2 : m < 1073741824) :
    XE K β (tOp (rI0 fun i j => .int (i + j)) (tC (.int 1)) (tCall (spB K 1 R_law_take) [] E (tCons (tVar i) (tCons tm tNil)))) env (fun _ d e => ∃ t : Nat, 1 ≤ t ∧ t ≤ m ∧ d = .int (t : Nat) ∧ ∃ bs', BoxD (n + 1) bs' ∧ e = env.set i (.own b bs')) :=
  xe_op (P2 := fun _ _ d e => ∃ t : Nat, t < m ∧ d = .int (t : Nat) ∧ ∃ bs', BoxD (n + 1) bs' ∧ e = env.set i (.own b bs')) (ev_int (i := 1)).xe (fun v d e h => by obtain ⟨rfl, rfl⟩ := h; exact xe_take hi hB hn hm h1 h2) fun v1 d1 e1 v2 d2 e2 p1 p2 => by
    obtain ⟨rfl, _⟩ := p1
    obtain ⟨t, ht, rfl, bs', hB', rfl⟩ := p2
    exact ⟨_, op_addI, fun v => ⟨t + 1, by omega, by omega, congrArg D.int (by omega), bs', hB', rfl⟩⟩
/-- a draw == 0 -/
theorem xe_take0 {i n m : Nat} {b : Addr} {bs : List D} {tm : TE} {E : XK} (hi : env[i]? = some (.own b bs)) (hB : BoxD n bs) (hn : n < 1000000000) (hm : EV K β tm env (.int (m : Nat))) (h1 : 1 ≤ m) (h2 : m < 1073741824) :
    XE K β (tOp rEq (tCall (spB K 1 R_law_take) [] E (tCons (tVar i) (tCons tm tNil))) (tC (.int 0))) env (fun _ d e => ∃ t : Bool, d = .bl t ∧ ∃ bs', BoxD (n + 1) bs' ∧ e = env.set i (.own b bs')) :=
  xe_op (P2 := fun _ _ d e => d = .int 0 ∧ ∃ bs', BoxD (n + 1) bs' ∧ e = env.set i (.own b bs')) (xe_take hi hB hn hm h1 h2) (fun v d e h => by
    obtain ⟨t, ht, rfl, bs', hB', rfl⟩ := h
    exact (ev_int (i := 0)).xe.imp fun v d e ⟨h1, h2⟩ => ⟨h1, bs', hB', h2⟩) fun v1 d1 e1 v2 d2 e2 p1 p2 => by
    obtain ⟨t, ht, rfl, _⟩ := p1
    obtain ⟨rfl, bs', hB', rfl⟩ := p2
    exact ⟨_, op_eqI, fun v => ⟨_, rfl, bs', hB', rfl⟩⟩
/-- [1 + take(10), 10 if take(4) == 0 else 1 + take(3)] -/
theorem xe_many {n : Nat} {b : Addr} {bs : List D} {E : XK} {s0 s1 : Sl} {r : Env'} (hB : BoxD n bs) (hn : n < 900000000) :
    XE K β (tLst (tCons (tOp (rI0 fun i j => .int (i + j)) (tC (.int 1)) (tCall (spB K 1 R_law_take) [] E (tCons (tVar 2) (tCons (tC (.int 10)) tNil))))
      (tCons (tIf (tTest (tOp rEq (tCall (spB K 1 R_law_take) [] E (tCons (tVar 2) (tCons (tC (.int 4)) tNil))) (tC (.int 0)))) (tC (.int 10)) (tOp (rI0 fun i j => .int (i + j)) (tC (.int 1)) (tCall (spB K 1 R_law_take) [] E (tCons (tVar 2) (tCons (tC (.int 3)) tNil))))) tNil)))
      (s0 :: s1 :: Sl.own b bs :: r) (fun _ d e => ∃ m1 m2 : Nat, 1 ≤ m1 ∧ m1 ≤ 10 ∧ 1 ≤ m2 ∧ m2 ≤ 10 ∧ d = .lst [.int (m1 : Nat), .int (m2 : Nat)] ∧ ∃ bs', BoxD (n + 3) bs' ∧ e = s0 :: s1 :: Sl.own b bs' :: r) := by
  refine xe_lst (P1 := fun _ ds e => ∃ m1 m2 : Nat, 1 ≤ m1 ∧ m1 ≤ 10 ∧ 1 ≤ m2 ∧ m2 ≤ 10 ∧ ds = [.int (m1 : Nat), .int (m2 : Nat)] ∧ ∃ bs', BoxD (n + 3) bs' ∧ e = s0 :: s1 :: Sl.own b bs' :: r) ?_ fun vs ds e h => ?_
  · refine xa_cons (P2 := fun _ _ _ ds e => ∃ m2 : Nat, 1 ≤ m2 ∧ m2 ≤ 10 ∧ ds = [.int (m2 : Nat)] ∧ ∃ bs', BoxD (n + 3) bs' ∧ e = s0 :: s1 :: Sl.own b bs' :: r) (xe_take1 (m := 10) rfl hB (by omega) (ev_int (i := 10)) (by decide) (by decide)) (fun v d e h => ?_) fun v d e vs ds e2 h1 h2 => ?_
    · obtain ⟨m1, a1, a2, rfl, bs1, hB1, rfl⟩ := h
      refine xa_cons (P1 := fun _ d e => ∃ m2 : Nat, 1 ≤ m2 ∧ m2 ≤ 10 ∧ d = .int (m2 : Nat) ∧ ∃ bs', BoxD (n + 3) bs' ∧ e = s0 :: s1 :: Sl.own b bs' :: r) (P2 := fun _ _ _ ds e => ds = [] ∧ ∃ bs', BoxD (n + 3) bs' ∧ e = s0 :: s1 :: Sl.own b bs' :: r) ?_ (fun v d e h => ?_) fun v d e vs ds e2 h1 h2 => ?_
      · refine xe_if (P1 := fun _ e => ∃ bs', BoxD (n + 2) bs' ∧ e = s0 :: s1 :: Sl.own b bs' :: r) (xt_test (xe_take0 (m := 4) rfl hB1 (by omega) (ev_int (i := 4)) (by decide) (by decide)) fun v d e h => ?_) (fun e h => ?_) fun e h => ?_
        · obtain ⟨t, rfl, bs2, hB2, rfl⟩ := h
          exact ⟨t, rfl, bs2, hB2, rfl⟩
        · obtain ⟨bs2, hB2, rfl⟩ := h
          exact (ev_int (i := 10)).xe.imp fun v d e ⟨h1, h2⟩ => ⟨10, by decide, by decide, h1, bs2, hB2.mono (by omega), h2⟩
        · obtain ⟨bs2, hB2, rfl⟩ := h
          refine (xe_take1 (m := 3) rfl hB2 (by omega) (ev_int (i := 3)) (by decide) (by decide)).imp fun v d e h => ?_
          obtain ⟨t, a1, a2, rfl, bs3, hB3, rfl⟩ := h
          exact ⟨t, a1, by omega, rfl, bs3, hB3, rfl⟩
      · obtain ⟨m2, b1, b2, rfl, bs2, hB2, rfl⟩ := h
        exact xa_nilP ⟨rfl, bs2, hB2, rfl⟩
      · obtain ⟨m2, b1, b2, rfl, _⟩ := h1
        obtain ⟨rfl, bs2, hB2, rfl⟩ := h2
        exact ⟨m2, b1, b2, rfl, bs2, hB2, rfl⟩
    · obtain ⟨m1, a1, a2, rfl, _⟩ := h1
      obtain ⟨m2, b1, b2, rfl, bs2, hB2, rfl⟩ := h2
      exact ⟨m1, m2, a1, a2, b1, b2, rfl, bs2, hB2, rfl⟩
  · obtain ⟨m1, m2, a1, a2, b1, b2, rfl, bs2, hB2, rfl⟩ := h
    exact ⟨sz 2, fun v => ⟨m1, m2, a1, a2, b1, b2, rfl, bs2, hB2, rfl⟩⟩

/-- two draws, each one more -/
theorem xa_two {n m1 m2 : Nat} {b : Addr} {bs : List D} {E : XK} {tm1 tm2 : TE} {s0 s1 : Sl} {r : Env'} (hB : BoxD n bs) (hn : n < 900000000) (h1 : EV K β tm1 (s0 :: s1 :: Sl.own b bs :: r) (.int (m1 : Nat))) (h2 : ∀ bs', EV K β tm2 (s0 :: s1 :: Sl.own b bs' :: r) (.int (m2 : Nat)))
    (a1 : 1 ≤ m1) (a2 : m1 < 1073741824) (b1 : 1 ≤ m2) (b2 : m2 < 1073741824) :
    XA K β (tCons (tOp (rI0 fun i j => .int (i + j)) (tC (.int 1)) (tCall (spB K 1 R_law_take) [] E (tCons (tVar 2) (tCons tm1 tNil))))
      (tCons (tOp (rI0 fun i j => .int (i + j)) (tC (.int 1)) (tCall (spB K 1 R_law_take) [] E (tCons (tVar 2) (tCons tm2 tNil)))) tNil))
      (s0 :: s1 :: Sl.own b bs :: r) (fun _ ds e => ∃ t1 t2 : Nat, 1 ≤ t1 ∧ t1 ≤ m1 ∧ 1 ≤ t2 ∧ t2 ≤ m2 ∧ ds = [.int (t1 : Nat), .int (t2 : Nat)] ∧ ∃ bs', BoxD (n + 2) bs' ∧ e = s0 :: s1 :: Sl.own b bs' :: r) := by
  refine xa_cons (P2 := fun _ _ _ ds e => ∃ t2 : Nat, 1 ≤ t2 ∧ t2 ≤ m2 ∧ ds = [.int (t2 : Nat)] ∧ ∃ bs', BoxD (n + 2) bs' ∧ e = s0 :: s1 :: Sl.own b bs' :: r) (xe_take1 rfl hB (by omega) h1 a1 a2) (fun v d e h => ?_) fun v d e vs ds e2 p1 p2 => ?_
  · obtain ⟨t1, _, _, rfl, bs1, hB1, rfl⟩ := h
    refine xa_cons (P2 := fun _ _ _ ds e => ds = [] ∧ ∃ bs', BoxD (n + 2) bs' ∧ e = s0 :: s1 :: Sl.own b bs' :: r) (xe_take1 rfl hB1 (by omega) (h2 bs1) b1 b2) (fun v d e h => ?_) fun v d e vs ds e2 p1 p2 => ?_
    · obtain ⟨t2, _, _, rfl, bs2, hB2, rfl⟩ := h
      exact xa_nilP ⟨rfl, bs2, hB2, rfl⟩
    · obtain ⟨t2, c1, c2, rfl, _⟩ := p1
      obtain ⟨rfl, bs2, hB2, rfl⟩ := p2
      exact ⟨t2, c1, c2, rfl, bs2, hB2, rfl⟩
  · obtain ⟨t1, c1, c2, rfl, _⟩ := p1
    obtain ⟨t2, d1, d2, rfl, bs2, hB2, rfl⟩ := p2
    exact ⟨t1, t2, c1, c2, d1, d2, rfl, bs2, hB2, rfl⟩
theorem kind0 : ((fun _ a _ => a, "left") : (Nat → Nat → Nat → Nat) × Str) ∈ kinds := List.mem_cons_self
theorem RD_mono {i p : Nat} {v8 v9 : V} (i1 : 1 ≤ i) (p1 : 1 ≤ p) (h : i + p ≤ 11) (bb : Bool) : RD [.str "monogenic", .lst [.idn v8 (.int (i : Nat)), .idn v9 (.int (p : Nat))], .bl bb] (tblD (i + p - 1) fun a b => powAt i p (a + b + 2)) :=
  ⟨_, kind0, "monogenic", _, bb, rfl, rfl, rfl, .inl ⟨rfl, i, p, rfl, rfl, i1, p1, h, rfl⟩⟩
theorem ED_mono (T : Tx K mg) {i p : Int} {v8 v9 : V} (i1 : 1 ≤ i) (p1 : 1 ≤ p) (h : 11 < i + p) (bb : Bool) : ED T [] [.str "monogenic", .lst [.idn v8 (.int i), .idn v9 (.int p)], .bl bb] (.ref T.c_TooMany) "number" (.int (i + p - 1)) :=
  ⟨_, kind0, "monogenic", _, bb, rfl, rfl, rfl, .inl ⟨rfl, v8, _, v9, _, rfl, .inr ⟨i, p, rfl, rfl, i1, p1, h, rfl, rfl, rfl⟩⟩⟩
theorem RD_rect {l r : Nat} {v8 v9 : V} (l1 : 1 ≤ l) (r1 : 1 ≤ r) (l10 : l ≤ 10) (r10 : r ≤ 10) (h : l * r ≤ 10) (bb : Bool) : RD [.str "rectangle", .lst [.idn v8 (.int (l : Nat)), .idn v9 (.int (r : Nat))], .bl bb] (tblD (l * r) fun a b => a / r * r + b % r) :=
  ⟨_, kind0, "rectangle", _, bb, rfl, rfl, rfl, .inr (.inl ⟨rfl, l, r, rfl, rfl, l1, r1, l10, r10, h, rfl⟩)⟩
theorem ED_rect (T : Tx K mg) {i p : Int} {v8 v9 : V} (i1 : 1 ≤ i) (p1 : 1 ≤ p) (p2 : p ≤ 100) (h : 10 < i * p) (bb : Bool) : ED T [] [.str "rectangle", .lst [.idn v8 (.int i), .idn v9 (.int p)], .bl bb] (.ref T.c_TooMany) "number" (.int (i * p)) :=
  ⟨_, kind0, "rectangle", _, bb, rfl, rfl, rfl, .inr (.inl ⟨rfl, v8, _, v9, _, rfl, .inr ⟨i, p, rfl, rfl, i1, p1, p2, h, rfl, rfl, rfl⟩⟩)⟩
theorem pow_lt {i p k : Nat} (i1 : 1 ≤ i) (p1 : 1 ≤ p) (k1 : 1 ≤ k) : powAt i p k < i + p - 1 := by
  unfold powAt
  by_cases h : k < i
  · rw [if_pos h]; omega
  · rw [if_neg h]
    have := Nat.mod_lt (k - i) p1
    omega
theorem pow_rep {i p k c : Nat} (i1 : 1 ≤ i) (p1 : 1 ≤ p) (k1 : 1 ≤ k) : powAt i p (powAt i p k + 1 + c) = powAt i p (k + c) := by
  by_cases h : k < i
  · have e : powAt i p k = k - 1 := by unfold powAt; rw [if_pos h]
    rw [e, show k - 1 + 1 + c = k + c by omega]
  · have e : powAt i p k = i - 1 + (k - i) % p := by unfold powAt; rw [if_neg h]
    rw [e]
    unfold powAt
    rw [if_neg (by omega), if_neg (by omega), show i - 1 + (k - i) % p + 1 + c - i = (k - i) % p + c by omega, Nat.mod_add_mod, show k - i + c = k + c - i by omega]
theorem pow_ass {i p x y z : Nat} (i1 : 1 ≤ i) (p1 : 1 ≤ p) : powAt i p (powAt i p (x + y + 2) + z + 2) = powAt i p (x + powAt i p (y + z + 2) + 2) := by
  rw [show powAt i p (x + y + 2) + z + 2 = powAt i p (x + y + 2) + 1 + (z + 1) by omega, pow_rep i1 p1 (by omega), show x + powAt i p (y + z + 2) + 2 = powAt i p (y + z + 2) + 1 + (x + 1) by omega, pow_rep i1 p1 (by omega)]
  congr 1
  omega
theorem isN_dec {G : Hp} {v : V} {d : D} {t : String} (dv : Dat K G v d) (ht : tyD d = some t) : decide (v = .non) = decide (t = "NoneType") := by
  have dt := Dat.top dv
  have nt := top_no (d := d)
  rw [← tyD_top] at ht
  generalize d.top = y at dt ht nt
  cases dt with
  | non => cases ht; rfl
  | bl => cases ht; rfl
  | int => cases ht; rfl
  | str => cases ht; rfl
  | tup => cases ht; rfl
  | lst => cases ht; rfl
  | dct => cases ht; rfl
  | op => cases ht
  | idn a => exact absurd rfl (nt _ _)
theorem ev_notN {te : TE} {d : D} {t : String} (h : EV K β te env d) (ht : tyD d = some t) : EV K β (tOp rNotN te (tC .non)) env (.bl (!decide (t = "NoneType"))) := fun σ G H g Q q =>
  h σ G H g _ fun v G1 H1 t1 dv => ⟨rfl, by rw [isN_dec dv ht]; exact q _ G1 H1 t1 (.bl _)⟩
theorem ev_negI {i : Int} : EV K β (tUn (rU fun i => .int (-i)) (tC (.int i))) env (.int (-i)) := fun σ G H g Q q => ⟨i, rfl, q _ G H (.refl g.gh) (.int _)⟩
theorem ev_dnew : EV K β tDNewK env (.dct []) := fun σ G H g Q q p hp => q _ (upd G p (.dK [])) _ (.new g.gh hp) (.dct upd_same .nil)
theorem ev_intVv (i : Int) : EVv K β (tC (.int i)) env (.int i) (.int i) := fun σ G H g Q q => q G H (.refl g.gh) (.int i)
theorem Sm_two {x1 x2 y1 y2 : D} {n : Nat} (h1 : Sm n x1 y1) (h2 : Sm n x2 y2) : Sm (n + 1) (.lst [x1, x2]) (.lst [y1, y2]) :=
  .inr ⟨_, _, .inr ⟨rfl, rfl⟩, rfl, by show 2 < 10000; decide, fun i a b ha hb => by
    match i, ha, hb with
    | 0, ha, hb => cases ha; cases hb; exact h1
    | 1, ha, hb => cases ha; cases hb; exact h2
    | i + 2, ha, hb => simp at ha⟩
def wrongD : List D := [.non, .int 0, .int (-1), .bl true, .str "3", .tup [.int 3], .lst [.int 3], .dct []]
def oddD : List D := [.non, .int 0, .int 11, .int (-1), .bl true, .str "3", .tup [.int 3], .lst [.int 3], .dct [], .int ((10 : Int) ^ 30)]
def row1 (w : Str) : D := .tup [.str w, .lst [.int 3], .lst [.str "number"], .lst [.lst oddD]]
def row2 (w : Str) : D := .tup [.str w, .lst [.int 2, .int 2], .lst [.str "number", .str "number"], .lst [.lst wrongD, .lst wrongD]]
def rows1 : List D := (List.range 5).map fun i => row1 ((kinds.map fun p => p.2).getD i "")
def rows2 : List D := rows1 ++ (List.range 2).map fun i => row2 ((["monogenic", "rectangle"] : List Str).getD i "")
theorem tup3 : Sm 5 (.tup [.int 3]) (.tup [.int 3]) := .inr ⟨_, _, .inl ⟨rfl, rfl⟩, rfl, by show 1 < 10000; decide, fun i a b ha hb => by
    match i, ha, hb with
    | 0, ha, hb => cases ha; cases hb; exact Sm_atom rfl 4
    | i + 1, ha, hb => simp at ha⟩
theorem ok_atom {d : D} {t : String} (h : isAtom d = true) (ht : tyD d = some t) (h1 : kitB t "list" = some false) (h2 : kitB t "dict" = some false) : OkV d := .inl ⟨Sm_atom h 5, t, ht, h1, h2⟩
theorem lst3 : OkV (.lst [.int 3]) := .inr (.inl ⟨[.int 3], rfl, by decide, fun x hx => by rw [List.mem_singleton.mp hx]; rfl⟩)
theorem odd_ok : ∀ x ∈ oddD, (x.top = x ∧ tyD x ≠ none ∧ OkV x) ∧ inRg x 1 10 = false := by
  intro x hx
  simp only [oddD, List.mem_cons, List.not_mem_nil, or_false] at hx
  rcases hx with rfl | rfl | rfl | rfl | rfl | rfl | rfl | rfl | rfl | rfl
  · exact ⟨⟨rfl, (fun z => nomatch z), ok_atom rfl rfl rfl rfl⟩, rfl⟩
  · exact ⟨⟨rfl, (fun z => nomatch z), ok_atom rfl rfl rfl rfl⟩, by decide⟩
  · exact ⟨⟨rfl, (fun z => nomatch z), ok_atom rfl rfl rfl rfl⟩, by decide⟩
  · exact ⟨⟨rfl, (fun z => nomatch z), ok_atom rfl rfl rfl rfl⟩, by decide⟩
  · exact ⟨⟨rfl, (fun z => nomatch z), ok_atom rfl rfl rfl rfl⟩, rfl⟩
  · exact ⟨⟨rfl, (fun z => nomatch z), ok_atom rfl rfl rfl rfl⟩, rfl⟩
  · exact ⟨⟨rfl, (fun z => nomatch z), .inl ⟨tup3, "tuple", rfl, rfl, rfl⟩⟩, rfl⟩
  · exact ⟨⟨rfl, (fun z => nomatch z), lst3⟩, rfl⟩
  · exact ⟨⟨rfl, (fun z => nomatch z), .inr (.inr rfl)⟩, rfl⟩
  · exact ⟨⟨rfl, (fun z => nomatch z), ok_atom rfl rfl rfl rfl⟩, by decide⟩
theorem wrong_ok : ∀ x ∈ wrongD, (x.top = x ∧ tyD x ≠ none ∧ OkV x) ∧ pos1 x = false := by
  intro x hx
  simp only [wrongD, List.mem_cons, List.not_mem_nil, or_false] at hx
  rcases hx with rfl | rfl | rfl | rfl | rfl | rfl | rfl | rfl
  · exact ⟨⟨rfl, (fun z => nomatch z), ok_atom rfl rfl rfl rfl⟩, rfl⟩
  · exact ⟨⟨rfl, (fun z => nomatch z), ok_atom rfl rfl rfl rfl⟩, by decide⟩
  · exact ⟨⟨rfl, (fun z => nomatch z), ok_atom rfl rfl rfl rfl⟩, by decide⟩
  · exact ⟨⟨rfl, (fun z => nomatch z), ok_atom rfl rfl rfl rfl⟩, rfl⟩
  · exact ⟨⟨rfl, (fun z => nomatch z), ok_atom rfl rfl rfl rfl⟩, rfl⟩
  · exact ⟨⟨rfl, (fun z => nomatch z), .inl ⟨tup3, "tuple", rfl, rfl, rfl⟩⟩, rfl⟩
  · exact ⟨⟨rfl, (fun z => nomatch z), lst3⟩, rfl⟩
  · exact ⟨⟨rfl, (fun z => nomatch z), .inr (.inr rfl)⟩, rfl⟩
theorem row1_ok (T : Tx K mg) {p : (Nat → Nat → Nat → Nat) × Str} (hp : p ∈ kinds) : RowOk T (row1 p.2) :=
  ⟨p.2, .int 3, 1, oddD, rfl, by decide, by decide, by decide, fun x hx => (odd_ok x hx).1, fun a args nn ha hl _ _ u x hux hx => by
    obtain rfl : a = 0 := by omega
    match args, hl, hux with
    | [y], _, hux =>
      cases hux
      exact ⟨p, hp, p.2, _, nn, rfl, rfl, rfl, .inr (.inr ⟨rfl, u, x, rfl, (odd_ok x hx).1.2.1, (odd_ok x hx).2, rfl, rfl, rfl⟩)⟩⟩
theorem two_counts (T : Tx K mg) {a : Nat} {args : List D} (ha : a < 2) (hl : args.length = 2) (hg : ∀ k, k < a → ∃ v, args[k]? = some (.idn v (.int 2))) (hi : ∀ k, k < 2 → ∃ v x, args[k]? = some (.idn v x) ∧ (x = .int 2 ∨ x ∈ wrongD)) {u : V} {x : D} (hux : args[a]? = some (.idn u x)) (hx : x ∈ wrongD) :
    ∃ v0 x0 v1 x1, args = [.idn v0 x0, .idn v1 x1] ∧ E_check_counts T [v0, v1] [.idn v0 x0, .idn v1 x1] (.ref T.c_InvalidNumber) "given" u := by
  have ty : ∀ {z : D}, (z = .int 2 ∨ z ∈ wrongD) → tyD z ≠ none := fun {z} h => by
    rcases h with rfl | h
    · exact (fun z => nomatch z)
    · exact (wrong_ok z h).1.2.1
  match args, hl with
  | [y0, y1], _ =>
    obtain ⟨v0, x0, e0, h0⟩ := hi 0 (by decide)
    obtain ⟨v1, x1, e1, h1⟩ := hi 1 (by decide)
    cases e0
    cases e1
    refine ⟨v0, x0, v1, x1, rfl, v0, v1, rfl, (show tyD x0 ≠ none from ty h0), (show tyD x1 ≠ none from ty h1), rfl, rfl, ?_⟩
    rcases a with _ | _ | a
    · cases hux
      exact .inl ⟨(wrong_ok _ hx).2, rfl⟩
    · cases hux
      obtain ⟨v, hv⟩ := hg 0 (by decide)
      cases hv
      exact .inr ⟨rfl, (wrong_ok _ hx).2, rfl⟩
    · omega
theorem row2m_ok (T : Tx K mg) : RowOk T (row2 "monogenic") :=
  ⟨"monogenic", .int 2, 2, wrongD, rfl, by decide, by decide, by decide, fun x hx => (wrong_ok x hx).1, fun a args nn ha hl hg hi u x hux hx => by
    obtain ⟨v0, x0, v1, x1, he, hE⟩ := two_counts T ha hl hg hi hux hx
    exact ⟨_, kind0, "monogenic", args, nn, rfl, rfl, rfl, .inl ⟨rfl, v0, x0, v1, x1, he, .inl hE⟩⟩⟩
theorem row2r_ok (T : Tx K mg) : RowOk T (row2 "rectangle") :=
  ⟨"rectangle", .int 2, 2, wrongD, rfl, by decide, by decide, by decide, fun x hx => (wrong_ok x hx).1, fun a args nn ha hl hg hi u x hux hx => by
    obtain ⟨v0, x0, v1, x1, he, hE⟩ := two_counts T ha hl hg hi hux hx
    exact ⟨_, kind0, "rectangle", args, nn, rfl, rfl, rfl, .inr (.inl ⟨rfl, v0, x0, v1, x1, he, .inl hE⟩)⟩⟩
theorem rows2_ok (T : Tx K mg) : ∀ d ∈ rows2, RowOk T d := by
  intro d hd
  rcases List.mem_append.mp hd with hd | hd
  · obtain ⟨i, hi, rfl⟩ := List.mem_map.mp hd
    have hi := List.mem_range.mp hi
    rcases i with _ | _ | _ | _ | _ | i
    · exact row1_ok T (List.mem_of_getElem? (i := 0) rfl)
    · exact row1_ok T (List.mem_of_getElem? (i := 1) rfl)
    · exact row1_ok T (List.mem_of_getElem? (i := 2) rfl)
    · exact row1_ok T (List.mem_of_getElem? (i := 3) rfl)
    · exact row1_ok T (List.mem_of_getElem? (i := 4) rfl)
    · omega
  · obtain ⟨i, hi, rfl⟩ := List.mem_map.mp hd
    have hi := List.mem_range.mp hi
    rcases i with _ | _ | i
    · exact row2m_ok T
    · exact row2r_ok T
    · omega
theorem rows_ok (T : Tx K mg) : ∀ d ∈ rows2 ++ rows2.drop 5, RowOk T d := fun d hd => by
  rcases List.mem_append.mp hd with h | h
  · exact rows2_ok T d h
  · exact rows2_ok T d (List.mem_of_mem_drop h)

def spLaw (K : PySem.W.Frag) : Sp := fun vs H Q _ => ∃ (a : Addr) (ns : List Int), vs = [.ref a] ∧ ns.length ≤ 63 ∧ SqL K H a (ns.map V.int) ∧ ∀ H', Q (.bl true) H'
theorem ok_law (T : Tx K mg) : FnOk P w K mg base CX0 10 T.f_law T.d_law p_law (spLaw K) := by
  refine T.F_law.ok sc_law (fun vs H Q E h => ?_) (fun cdv A outer s H vs Q E hr h => ?_)
  · obtain ⟨_, _, rfl, _⟩ := h; rfl
  · refine ⟨_, (pss_cons (ps_for PassesOwn.never rfl (pi_range1 (by rfl) T.m_range (pa_cons (pe_callB (call_max2 rfl) (by rfl) T.m_max (by decide +kernel) (pa_cons pe_int (pa_cons (pe_callB (call_min2 rfl) (by rfl) T.m_min (by decide +kernel) (pa_cons pe_int (pa_cons (pe_callB (call_lenK K) (by rfl) T.m_len (by decide +kernel) (pa_cons (pv 0) pa_nil)) pa_nil))) pa_nil))) pa_nil)) (pg_name (i := 1) sc_law.nd rfl (.inl rfl))
      (pss_cons (ps_set (i := 2) sc_law.nd rfl (.inl rfl) (pe_call (ok_law_box T) (hr.mono (by omega)) (by rfl) T.g_law_box T.F_law_box.kp T.b_law_box .nil pass0 (pa_cons (pe_call (ok_law_cell T) (hr.mono (by omega)) (by rfl) T.g_law_cell T.F_law_cell.kp T.b_law_cell .nil pass0 (pa_cons (pv 0) (pa_cons (pv 1) pa_nil))) pa_nil)))
      (pss_cons (ps_set (i := 3) sc_law.nd rfl (.inl rfl) (pe_cmpR op_eq (pe_call (ok_law_take T) (hr.mono (by omega)) (by rfl) T.g_law_take T.F_law_take.kp T.b_law_take .nil pass0 (pa_cons (pv 2) (pa_cons pe_int pa_nil))) pe_int (nomark _)))
      (pss_cons (ps_for PassesOwn.never rfl (pi_listK K (pe_lst (pa_cons pe_str (pa_cons pe_str (pa_cons pe_str (pa_cons pe_str (pa_cons pe_str pa_nil))))))) (pg_name (i := 4) sc_law.nd rfl (.inr rfl))
      (pss_cons (ps_for PassesOwn.never rfl (pi_listK K (pe_lst (pa_cons (pe_op op_add pe_int (pe_call (ok_law_take T) (hr.mono (by omega)) (by rfl) T.g_law_take T.F_law_take.kp T.b_law_take .nil pass0 (pa_cons (pv 2) (pa_cons pe_int pa_nil)))) (pa_cons (pe_ifExp (pt_cmpR op_eq (pe_call (ok_law_take T) (hr.mono (by omega)) (by rfl) T.g_law_take T.F_law_take.kp T.b_law_take .nil pass0 (pa_cons (pv 2) (pa_cons pe_int pa_nil))) pe_int (nomark _)) pe_int (pe_op op_add pe_int (pe_call (ok_law_take T) (hr.mono (by omega)) (by rfl) T.g_law_take T.F_law_take.kp T.b_law_take .nil pass0 (pa_cons (pv 2) (pa_cons pe_int pa_nil))))) pa_nil)))) (pg_name (i := 5) sc_law.nd rfl (.inr rfl))
      (pss_cons (ps_set (i := 6) sc_law.nd rfl (.inl rfl) (pe_tupleOfK K (by rfl) T.m_tuple (pe_lc (own := [("x", 18)]) rfl sc_law.nd (pi_range1 (by rfl) T.m_range (pa_cons (pv 5) pa_nil)) (blkOk_by (by rfl)) (fun _ _ _ _ _ => pg_name (i := 18) sc_law.nd rfl (by first | exact .inl rfl | exact .inr rfl)) (fun _ _ _ _ _ => pts_nil) (fun _ _ _ _ _ => (pe_tupleOfK K (by rfl) T.m_tuple (pe_lc (own := [("y", 17)]) rfl sc_law.nd (pi_range1 (by rfl) T.m_range (pa_cons (pv 5) pa_nil)) (blkOk_by (by rfl)) (fun _ _ _ _ _ => pg_name (i := 17) sc_law.nd rfl (by first | exact .inl rfl | exact .inr rfl)) (fun _ _ _ _ _ => pts_nil) (fun _ _ _ _ _ => (pe_call (ok_law_item T) (hr.mono (by omega)) (by rfl) T.g_law_item T.F_law_item.kp T.b_law_item .nil pass0 (pa_cons (pv 4) (pa_cons (pv 5) (pa_cons (pv 18) (pa_cons (pv 17) pa_nil))))))))))))
      (pss_one (ps_if (PW.pt (pw_or (pt_not (pt_val (pe_call (ok_law_twice T) (hr.mono (by omega)) (by rfl) T.g_law_twice T.F_law_twice.kp T.b_law_twice .nil pass0 (pa_cons (pv 4) (pa_cons (pe_lst (pa_cons (pv 5) pa_nil)) (pa_cons (pv 6) (pa_cons (pv 3) pa_nil))))))) (pw_or1 (pt_cmpR (op_neD (hu64 hr)) (pe_call (ok_law_broken T) (hr.mono (by omega)) (by rfl) T.g_law_broken T.F_law_broken.kp T.b_law_broken .nil pass0 (pa_cons (pv 6) pa_nil)) (pe_lst pa_nil) (nomark _))))) (pss_one (ps_ret pe_bl)) pss_nil))))
      (pss_one (ps_set (i := 3) sc_law.nd rfl (.inl rfl) (pe_not (pv 3))))))
      (pss_cons (ps_for PassesOwn.never rfl (pi_range1 (by rfl) T.m_range (pa_cons pe_int pa_nil)) (pg_name (i := 7) sc_law.nd rfl (.inl rfl))
      (pss_cons (ps_par (i := 8) (j := 9) rfl sc_law.nd rfl rfl (by decide) rfl rfl (pa_cons (pe_op op_add pe_int (pe_call (ok_law_take T) (hr.mono (by omega)) (by rfl) T.g_law_take T.F_law_take.kp T.b_law_take .nil pass0 (pa_cons (pv 2) (pa_cons pe_int pa_nil)))) (pa_cons (pe_op op_add pe_int (pe_call (ok_law_take T) (hr.mono (by omega)) (by rfl) T.g_law_take T.F_law_take.kp T.b_law_take .nil pass0 (pa_cons (pv 2) (pa_cons pe_int pa_nil)))) pa_nil)) (by rfl))
      (pss_cons (ps_if (pt_cmpR op_eq (pv 7) pe_int (nomark _)) (pss_cons (ps_set (i := 8) sc_law.nd rfl (.inl rfl) (pe_op op_add pe_int (pe_call (ok_law_take T) (hr.mono (by omega)) (by rfl) T.g_law_take T.F_law_take.kp T.b_law_take .nil pass0 (pa_cons (pv 2) (pa_cons pe_int pa_nil)))))
      (pss_one (ps_set (i := 9) sc_law.nd rfl (.inl rfl) (pe_op op_sub pe_int (pv 8))))) pss_nil)
      (pss_cons (ps_set (i := 5) sc_law.nd rfl (.inr rfl) (pe_op op_sub (pe_op op_add (pv 8) (pv 9)) pe_int))
      (pss_cons (ps_set (i := 6) sc_law.nd rfl (.inl rfl) (pe_ifExp (pt_cmpR op_lt (pv 5) pe_int (nomark _)) (pe_call (ok_law_of_powers T) (hr.mono (by omega)) (by rfl) T.g_law_of_powers T.F_law_of_powers.kp T.b_law_of_powers .nil pass0 (pa_cons (pv 8) (pa_cons (pv 9) pa_nil))) pe_non))
      (pss_cons (ps_set (i := 10) sc_law.nd rfl (.inl rfl) (pe_call (ok_law_asked T) (hr.mono (by omega)) (by rfl) T.g_law_asked T.F_law_asked.kp T.b_law_asked .nil pass0 (pa_cons pe_str (pa_cons (pe_lst (pa_cons (pv 8) (pa_cons (pv 9) pa_nil))) (pa_cons (pv 3) pa_nil)))))
      (pss_cons (ps_if (PW.pt (pw_or (PW.pt (pw_and (pt_cmpR op_gt (pv 5) pe_int (nomark _)) (pw_and1 (pt_not (pt_val (pe_call (ok_law_same T 6) (hr.mono (by omega)) (by rfl) T.g_law_same T.F_law_same.kp T.b_law_same .nil pass0 (pa_cons (pv 10) (pa_cons (pe_lst (pa_cons pe_str (pa_cons (pv 5) pa_nil))) pa_nil)))))))) (pw_or1 (PW.pt (pw_and (pt_cmpR op_lt (pv 5) pe_int (nomark _)) (pw_and1 (pt_not (pt_val (pe_call (ok_law_twice T) (hr.mono (by omega)) (by rfl) T.g_law_twice T.F_law_twice.kp T.b_law_twice .nil pass0 (pa_cons pe_str (pa_cons (pe_lst (pa_cons (pv 8) (pa_cons (pv 9) pa_nil))) (pa_cons (pv 6) (pa_cons (pv 3) pa_nil))))))))))))) (pss_one (ps_ret pe_bl)) pss_nil)
      (pss_cons (ps_if (PW.pt (pw_and (pt_cmpR op_notN1 (pv 6) pe_non (nomark _)) (pw_and1 (pt_cmpR (op_neD (hu64 hr)) (pe_call (ok_law_broken T) (hr.mono (by omega)) (by rfl) T.g_law_broken T.F_law_broken.kp T.b_law_broken .nil pass0 (pa_cons (pv 6) pa_nil)) (pe_lst pa_nil) (nomark _))))) (pss_one (ps_ret pe_bl)) pss_nil)
      (pss_cons (ps_par (i := 11) (j := 12) rfl sc_law.nd rfl rfl (by decide) rfl rfl (pa_cons (pe_op op_add pe_int (pe_call (ok_law_take T) (hr.mono (by omega)) (by rfl) T.g_law_take T.F_law_take.kp T.b_law_take .nil pass0 (pa_cons (pv 2) (pa_cons (pe_ix (ix_seqK K) (pe_lst (pa_cons pe_int (pa_cons pe_int pa_nil))) (pe_op op_mod (pv 7) pe_int) (fun _ _ => rfl)) pa_nil)))) (pa_cons (pe_op op_add pe_int (pe_call (ok_law_take T) (hr.mono (by omega)) (by rfl) T.g_law_take T.F_law_take.kp T.b_law_take .nil pass0 (pa_cons (pv 2) (pa_cons (pe_ix (ix_seqK K) (pe_lst (pa_cons pe_int (pa_cons pe_int pa_nil))) (pe_op op_mod (pv 7) pe_int) (fun _ _ => rfl)) pa_nil)))) pa_nil)) (by rfl))
      (pss_cons (ps_set (i := 10) sc_law.nd rfl (.inl rfl) (pe_call (ok_law_asked T) (hr.mono (by omega)) (by rfl) T.g_law_asked T.F_law_asked.kp T.b_law_asked .nil pass0 (pa_cons pe_str (pa_cons (pe_lst (pa_cons (pv 11) (pa_cons (pv 12) pa_nil))) (pa_cons (pe_not (pv 3)) pa_nil)))))
      (pss_cons (ps_if (PW.pt (pw_and (pt_cmpR op_gt (pe_op op_mul (pv 11) (pv 12)) pe_int (nomark _)) (pw_and1 (pt_not (pt_val (pe_call (ok_law_same T 6) (hr.mono (by omega)) (by rfl) T.g_law_same T.F_law_same.kp T.b_law_same .nil pass0 (pa_cons (pv 10) (pa_cons (pe_lst (pa_cons pe_str (pa_cons (pe_op op_mul (pv 11) (pv 12)) pa_nil))) pa_nil)))))))) (pss_one (ps_ret pe_bl)) pss_nil)
      (pss_one (ps_if (PW.pt (pw_and (pt_cmpR op_lt (pe_op op_mul (pv 11) (pv 12)) pe_int (nomark _)) (pw_and1 (pt_not (pt_val (pe_call (ok_law_twice T) (hr.mono (by omega)) (by rfl) T.g_law_twice T.F_law_twice.kp T.b_law_twice .nil pass0 (pa_cons pe_str (pa_cons (pe_lst (pa_cons (pv 11) (pa_cons (pv 12) pa_nil))) (pa_cons (pe_call (ok_law_of_pairs T) (hr.mono (by omega)) (by rfl) T.g_law_of_pairs T.F_law_of_pairs.kp T.b_law_of_pairs .nil pass0 (pa_cons (pv 11) (pa_cons (pv 12) pa_nil))) (pa_cons (pv 3) pa_nil)))))))))) (pss_one (ps_ret pe_bl)) pss_nil)))))))))))))
      (pss_cons (ps_set (i := 13) sc_law.nd rfl (.inl rfl) (pe_op op_add (pe_op op_pow pe_int pe_int) (pe_call (ok_law_take T) (hr.mono (by omega)) (by rfl) T.g_law_take T.F_law_take.kp T.b_law_take .nil pass0 (pa_cons (pv 2) (pa_cons pe_int pa_nil)))))
      (pss_cons (ps_if (pt_not (pt_val (pe_call (ok_law_same T 6) (hr.mono (by omega)) (by rfl) T.g_law_same T.F_law_same.kp T.b_law_same .nil pass0 (pa_cons (pe_lst (pa_cons (pe_call (ok_law_asked T) (hr.mono (by omega)) (by rfl) T.g_law_asked T.F_law_asked.kp T.b_law_asked .nil pass0 (pa_cons pe_str (pa_cons (pe_lst (pa_cons (pv 13) (pa_cons pe_int pa_nil))) (pa_cons (pv 3) pa_nil)))) (pa_cons (pe_call (ok_law_asked T) (hr.mono (by omega)) (by rfl) T.g_law_asked T.F_law_asked.kp T.b_law_asked .nil pass0 (pa_cons pe_str (pa_cons (pe_lst (pa_cons (pv 13) (pa_cons pe_int pa_nil))) (pa_cons (pv 3) pa_nil)))) pa_nil))) (pa_cons (pe_lst (pa_cons (pe_lst (pa_cons pe_str (pa_cons (pe_op op_add (pv 13) pe_int) pa_nil))) (pa_cons (pe_lst (pa_cons pe_str (pa_cons (pe_op op_mul pe_int (pv 13)) pa_nil))) pa_nil))) pa_nil))))) (pss_one (ps_ret pe_bl)) pss_nil)
      (pss_cons (ps_asg (pe_tup (pa_cons (pe_lst (pa_cons pe_non (pa_cons pe_int (pa_cons pe_int (pa_cons (pe_un un_neg pe_int) (pa_cons pe_bl (pa_cons pe_str (pa_cons (pe_tup (pa_cons pe_int pa_nil)) (pa_cons (pe_lst (pa_cons pe_int pa_nil)) (pa_cons pe_dnewK (pa_cons (pe_op op_pow pe_int pe_int) pa_nil))))))))))) (pa_cons (pe_lst (pa_cons pe_non (pa_cons pe_int (pa_cons (pe_un un_neg pe_int) (pa_cons pe_bl (pa_cons pe_str (pa_cons (pe_tup (pa_cons pe_int pa_nil)) (pa_cons (pe_lst (pa_cons pe_int pa_nil)) (pa_cons pe_dnewK pa_nil))))))))) pa_nil))) (pg_tupK K rfl (pgs_cons (pg_name (i := 14) sc_law.nd rfl (.inr rfl)) (pgs_cons (pg_name (i := 15) sc_law.nd rfl (.inr rfl)) pgs_nil))))
      (pss_cons (ps_setLc (i := 16) (own := [("word", 4)]) rfl sc_law.nd rfl rfl (sw_true rfl rfl rfl (by decide +kernel)) (pi_listK K (pe_lst (pa_cons pe_str (pa_cons pe_str (pa_cons pe_str (pa_cons pe_str (pa_cons pe_str pa_nil))))))) (blkOk_by (by rfl)) (fun _ _ _ _ _ => pg_name (i := 4) sc_law.nd rfl (by first | exact .inl rfl | exact .inr rfl)) (fun _ _ _ _ _ => pts_nil) (fun _ _ _ _ _ => (pe_tup (pa_cons (pv 4) (pa_cons (pe_lst (pa_cons pe_int pa_nil)) (pa_cons (pe_lst (pa_cons pe_str pa_nil)) (pa_cons (pe_lst (pa_cons (pv 14) pa_nil)) pa_nil)))))))
      (pss_cons (ps_set (i := 16) sc_law.nd rfl (.inl rfl) (pe_op op_cat (pv 16) (pe_lc (own := [("word", 4)]) rfl sc_law.nd (pi_listK K (pe_lst (pa_cons pe_str (pa_cons pe_str pa_nil)))) (blkOk_by (by rfl)) (fun _ _ _ _ _ => pg_name (i := 4) sc_law.nd rfl (by first | exact .inl rfl | exact .inr rfl)) (fun _ _ _ _ _ => pts_nil) (fun _ _ _ _ _ => (pe_tup (pa_cons (pv 4) (pa_cons (pe_lst (pa_cons pe_int (pa_cons pe_int pa_nil))) (pa_cons (pe_lst (pa_cons pe_str (pa_cons pe_str pa_nil))) (pa_cons (pe_lst (pa_cons (pv 15) (pa_cons (pv 15) pa_nil))) pa_nil)))))))))
      (pss_one (ps_if (pt_not (pt_val (pe_call (ok_law_refusals_right T) (hr.mono (by omega)) (by rfl) T.g_law_refusals_right T.F_law_refusals_right.kp T.b_law_refusals_right .nil pass0 (pa_cons (pv 2) (pa_cons (pe_op op_cat (pv 16) (pe_slice (sl_listK K) (pv 16) (po_some pe_int) po_none)) (pa_cons (pv 3) pa_nil)))))) (pss_one (ps_ret pe_bl)) pss_nil))))))))))))
      (pss_one (ps_ret pe_bl))), ?_⟩
    obtain ⟨a, ns, rfl, hlen, hS, q⟩ := h
    refine EX.fin (K := K) (W := fun _ _ _ _ => False) (d := .bl true) (good_start (G := fun _ => none) (ds := [.op (.ref a)]) (fun _ _ e => by cases e) (.cons (.op _) .nil) n_law) (fun v G' H' t dv => by obtain rfl := dv.blV; exact q H') ?_
    show EX K ⟨fun _ => none, H, none⟩ _ _ [Sl.val (.ref a) (.op (.ref a)), Sl.un, Sl.un, Sl.un, Sl.un, Sl.un, Sl.un, Sl.un, Sl.un, Sl.un, Sl.un, Sl.un, Sl.un, Sl.un, Sl.un, Sl.un, Sl.un, Sl.un, Sl.un] _
    refine ex_forRS (n := max 2 (min 4 ns.length)) (fun _ env' => ∃ s1 s2 s3 s4 s5 s6 s7 s8 s9 s10 s11 s12 s13 s14 s15 s16 s17 s18, env' = [Sl.val (.ref a) (.op (.ref a)), s1, s2, s3, s4, s5, s6, s7, s8, s9, s10, s11, s12, s13, s14, s15, s16, s17, s18]) (ev_is (ev_cb (ea_cons ev_int (ea_cons (ev_cb (ea_cons ev_int (ea_cons (ev_lenS rfl hS rfl) ea_nil)) cb_min2) ea_nil)) cb_max2) (congrArg D.int (by split <;> split <;> omega))) (by omega) ⟨_, _, _, _, _, _, _, _, _, _, _, _, _, _, _, _, _, _, rfl⟩ ?_ fun env' ⟨_, _, _, _, _, _, _, _, _, _, _, _, _, _, _, _, _, _, h⟩ => by subst h; exact ex_ret ev_bl fun v => rfl
    rintro k env' vk hk ⟨s1, s2, s3, s4, s5, s6, s7, s8, s9, s10, s11, s12, s13, s14, s15, s16, s17, s18, rfl⟩
    refine ex_letNew (ea_cons (ev_cell rfl hS rfl rfl) ea_nil) ⟨_, rfl, rfl⟩ fun b => ?_
    generalize hg : (if cellF ns k < 0 then -cellF ns k else cellF ns k) = gg
    have hg0 : 0 ≤ gg := by rw [← hg]; split <;> omega
    have hB0 : BoxD 0 [.int gg, .bl (decide ((10 : Int) ^ 18 ≤ gg)), .int (gg % 2147483629), .int 0] := ⟨gg, _, _, 0, rfl, hg0, Int.emod_nonneg _ (by decide), by have := Int.emod_lt_of_pos gg (show (0 : Int) < 2147483629 by decide); omega, by decide, by decide⟩
    generalize [D.int gg, D.bl (decide ((10 : Int) ^ 18 ≤ gg)), D.int (gg % 2147483629), D.int 0] = bs0 at hB0
    refine ex_letX (xe_take0 (i := 2) (m := 2) rfl hB0 (by decide) (ev_int (i := 2)) (by decide) (by decide)) fun u3 d e h => ?_
    obtain ⟨nn, rfl, bs, hB, rfl⟩ := h
    clear hB0 hg0 hg
    show EX K ⟨fun _ => none, H, none⟩ _ _ [Sl.val (.ref a) (.op (.ref a)), Sl.val vk (.int (k : Nat)), Sl.own b bs, Sl.val u3 (.bl nn), s4, s5, s6, s7, s8, s9, s10, s11, s12, s13, s14, s15, s16, s17, s18] _
    -- the five of one number
    refine ex_forNS (ds := kinds.map fun p => .str p.2) (fun i env' => ∃ bs u3 nn s4 s5 s6, BoxD (1 + 3 * i) bs ∧ env' = [Sl.val (.ref a) (.op (.ref a)), Sl.val vk (.int (k : Nat)), Sl.own b bs, Sl.val u3 (.bl nn), s4, s5, s6, s7, s8, s9, s10, s11, s12, s13, s14, s15, s16, s17, s18]) (ei_list (ev_lst (ds := [.str "left", .str "right", .str "null", .str "lowest", .str "clock"]) (ea_cons ev_str (ea_cons ev_str (ea_cons ev_str (ea_cons ev_str (ea_cons ev_str ea_nil))))) (sz 5))) ⟨_, _, _, _, _, _, hB, rfl⟩ ?_ fun env' h => ?_
    · rintro i env' vw dw hdw ⟨bs, u3, nn, s4, s5, s6, hB, rfl⟩
      rw [List.getElem?_map] at hdw
      obtain ⟨p, hpi, rfl⟩ := Option.map_eq_some_iff.mp hdw
      have hi5 : i < 5 := (List.getElem?_eq_some_iff.mp hpi).1
      have hp : p ∈ kinds := List.mem_of_getElem? hpi
      refine ex_forXLS (fun e => ∃ bs s5 s6, BoxD (1 + 3 * i + 3) bs ∧ e = [Sl.val (.ref a) (.op (.ref a)), Sl.val vk (.int (k : Nat)), Sl.own b bs, Sl.val u3 (.bl nn), Sl.val vw (.str p.2), s5, s6, s7, s8, s9, s10, s11, s12, s13, s14, s15, s16, s17, s18]) (xe_many hB (by omega)) (fun v d e h => ?_) fun env' h => ?_
      · obtain ⟨m1, m2, a1, a2, b1, b2, rfl, bs', hB', rfl⟩ := h
        refine ⟨_, rfl, fun _ e => ∃ s5 s6, e = [Sl.val (.ref a) (.op (.ref a)), Sl.val vk (.int (k : Nat)), Sl.own b bs', Sl.val u3 (.bl nn), Sl.val vw (.str p.2), s5, s6, s7, s8, s9, s10, s11, s12, s13, s14, s15, s16, s17, s18], ⟨_, _, rfl⟩, ?_, fun env' ⟨s5, s6, h⟩ => ⟨bs', s5, s6, hB', h⟩⟩
        rintro j env' vm dm hdm ⟨s5, s6, rfl⟩
        obtain ⟨m, hm1, hm10, rfl⟩ : ∃ m : Nat, 1 ≤ m ∧ m ≤ 10 ∧ dm = .int (m : Nat) := by
          rcases j with _ | _ | j
          · cases hdm; exact ⟨m1, a1, a2, rfl⟩
          · cases hdm; exact ⟨m2, b1, b2, rfl⟩
          · simp at hdm
        refine ex_let (ev_is (ev_then (ev_lcR (n := m) (ev_var rfl) (by omega) (by decide) fun x vx hx => ev_then (ev_lcR (n := m) (ev_var rfl) (by omega) (by decide) fun y vy hy => ev_call (ea_cons (ev_var rfl) (ea_cons (ev_var rfl) (ea_cons (ev_var rfl) (ea_cons (ev_var rfl) ea_nil)))) ⟨p, hp, m, x, y, rfl, rfl, rfl, rfl, hm1, rfl⟩) un_tupL) un_tupL) (map_tbl (f := p.1 m) fun x hx => map_row fun y hy => rfl)) fun vd => ?_
        refine ex_if (b := false) (et_is (et_or (et_not (et_B (ev_call (ea_cons (ev_var rfl) (ea_cons (ev_lst (ea_cons (ev_var rfl) ea_nil) (sz 1)) (ea_cons (ev_var rfl) (ea_cons (ev_var rfl) ea_nil)))) ⟨_, _, m, p.1 m, rfl, rfl, rfl, by omega, fun bb => RD_tab hp hm1 hm10 bb, rfl⟩))) fun _ => et_test (ev_op (ev_call (ea_cons (ev_var rfl) ea_nil) ⟨m, p.1 m, rfl, by omega, fun x y hx hy => F_lt hp hx hy, fun x y z hx hy hz => F_ass hp hx hy hz, rfl⟩) (ev_lst ea_nil (sz 0)) op_neNil)) rfl) (fun h => nomatch h) fun _ => ex_next ⟨_, _, rfl⟩
      · obtain ⟨bs', s5, s6, hB', rfl⟩ := h
        exact ex_asg (ev_not (ev_var rfl)) fun v => ⟨bs', _, _, _, _, _, hB'.mono (by omega), rfl⟩
    obtain ⟨bs, u3, nn, s4, s5, s6, hB, rfl⟩ := h
    have hB1 : BoxD 16 bs := hB.mono (by decide)
    refine ex_forRS (n := 4) (fun t env' => ∃ bs s5 s6 s7 s8 s9 s10 s11 s12, BoxD (16 + 5 * t) bs ∧ env' = [Sl.val (.ref a) (.op (.ref a)), Sl.val vk (.int (k : Nat)), Sl.own b bs, Sl.val u3 (.bl nn), s4, s5, s6, s7, s8, s9, s10, s11, s12, s13, s14, s15, s16, s17, s18]) ev_int (by decide) ⟨_, _, _, _, _, _, _, _, _, hB1, rfl⟩ ?_ fun env' h => ?_
    · rintro t env' vt ht ⟨bs, s5, s6, s7, s8, s9, s10, s11, s12, hB2, rfl⟩
      -- index, period
      refine ex_seq (N := fun e => ∃ (v8 v9 : V) (ii pp : Nat) (bs1 : List D), 1 ≤ ii ∧ ii ≤ 6 ∧ 1 ≤ pp ∧ pp ≤ 6 ∧ BoxD (16 + 5 * t + 2) bs1 ∧ e = [Sl.val (.ref a) (.op (.ref a)), Sl.val vk (.int (k : Nat)), Sl.own b bs1, Sl.val u3 (.bl nn), s4, s5, s6, Sl.val vt (.int (t : Nat)), Sl.val v8 (.int (ii : Nat)), Sl.val v9 (.int (pp : Nat)), s10, s11, s12, s13, s14, s15, s16, s17, s18]) (ex_parX (xa_two (m1 := 6) (m2 := 6) hB2 (by omega) ev_int (fun _ => ev_int) (by decide) (by decide) (by decide) (by decide)) fun vs ds e h => ?_) fun env' h => ?_
      · obtain ⟨t1, t2, a1, a2, b1, b2, rfl, bs', hB', rfl⟩ := h
        exact ⟨_, _, rfl, fun v8 v9 _ => ⟨v8, v9, t1, t2, bs', a1, a2, b1, b2, hB', rfl⟩⟩
      obtain ⟨v8, v9, ii, pp, bs1, i1, i6, p1, p6, hB3, rfl⟩ := h
      refine ex_seq (N := fun e => ∃ (v8 v9 : V) (ii pp : Nat) (bs1 : List D), 1 ≤ ii ∧ ii ≤ 10 ∧ 1 ≤ pp ∧ pp ≤ 10 ∧ BoxD (16 + 5 * t + 3) bs1 ∧ e = [Sl.val (.ref a) (.op (.ref a)), Sl.val vk (.int (k : Nat)), Sl.own b bs1, Sl.val u3 (.bl nn), s4, s5, s6, Sl.val vt (.int (t : Nat)), Sl.val v8 (.int (ii : Nat)), Sl.val v9 (.int (pp : Nat)), s10, s11, s12, s13, s14, s15, s16, s17, s18]) (ex_if (et_test (ev_op (ev_var rfl) ev_int op_eqI)) (fun _ => ?_) fun _ => ex_next ⟨v8, v9, ii, pp, bs1, i1, by omega, p1, by omega, hB3.mono (by omega), rfl⟩) fun env' h => ?_
      · refine ex_letX (xe_take1 (m := 10) rfl hB3 (by omega) ev_int (by decide) (by decide)) fun u8 d e h => ?_
        obtain ⟨t1, a1, a2, rfl, bs', hB', rfl⟩ := h
        exact ex_asg (ev_is (ev_op ev_int (ev_var rfl) op_subI) (show D.int _ = D.int ((11 - t1 : Nat) : Int) from congrArg D.int (by omega))) fun u9 => ⟨u8, u9, t1, 11 - t1, bs', a1, a2, by omega, by omega, hB', rfl⟩
      clear i6 p6 i1 p1 hB3
      obtain ⟨v8, v9, ii, pp, bs2, i1, i10, p1, p10, hB3, rfl⟩ := h
      refine ex_let (ev_is (ev_op (ev_op (ev_var rfl) (ev_var rfl) op_addI) ev_int op_subI) (show D.int _ = D.int ((ii + pp - 1 : Nat) : Int) from congrArg D.int (by omega))) fun v5 => ?_
      -- due
      refine ex_seq (N := fun e => ∃ v6 dd, ((ii + pp ≤ 11 ∧ dd = tblD (ii + pp - 1) fun a b => powAt ii pp (a + b + 2)) ∨ (11 < ii + pp ∧ dd = .non)) ∧ e = [Sl.val (.ref a) (.op (.ref a)), Sl.val vk (.int (k : Nat)), Sl.own b bs2, Sl.val u3 (.bl nn), s4, Sl.val v5 (.int ((ii + pp - 1 : Nat) : Int)), Sl.val v6 dd, Sl.val vt (.int (t : Nat)), Sl.val v8 (.int (ii : Nat)), Sl.val v9 (.int (pp : Nat)), s10, s11, s12, s13, s14, s15, s16, s17, s18]) ?_ fun env' h => ?_
      · by_cases hs : ii + pp ≤ 11
        · exact ex_asg (ev_if (b := true) (et_is (et_test (ev_op (ev_var rfl) ev_int op_ltI)) (decide_eq_true (by omega))) (fun _ => ev_call (ea_cons (ev_var rfl) (ea_cons (ev_var rfl) ea_nil)) ⟨ii, pp, rfl, rfl, i1, p1, hs, rfl⟩) fun h => nomatch h) fun v => ⟨v, _, .inl ⟨hs, rfl⟩, rfl⟩
        · exact ex_asg (ev_if (b := false) (et_is (et_test (ev_op (ev_var rfl) ev_int op_ltI)) (decide_eq_false (by omega))) (fun h => nomatch h) fun _ => ev_non) fun v => ⟨v, _, .inr ⟨by omega, rfl⟩, rfl⟩
      obtain ⟨v6, dd, hdd, rfl⟩ := h
      -- told
      refine ex_seq (N := fun e => ∃ v10 tt, ((ii + pp ≤ 11) ∨ (11 < ii + pp ∧ tt = .lst [.str "many", .int ((ii + pp - 1 : Nat) : Int)])) ∧ e = [Sl.val (.ref a) (.op (.ref a)), Sl.val vk (.int (k : Nat)), Sl.own b bs2, Sl.val u3 (.bl nn), s4, Sl.val v5 (.int ((ii + pp - 1 : Nat) : Int)), Sl.val v6 dd, Sl.val vt (.int (t : Nat)), Sl.val v8 (.int (ii : Nat)), Sl.val v9 (.int (pp : Nat)), Sl.val v10 tt, s11, s12, s13, s14, s15, s16, s17, s18]) ?_ fun env' h => ?_
      · by_cases hs : ii + pp ≤ 11
        · exact ex_asg (ev_call (ea_cons ev_str (ea_cons (ev_lst (ea_cons (ev_idn (evv_var rfl)) (ea_cons (ev_idn (evv_var rfl)) ea_nil)) (sz 2)) (ea_cons (ev_var rfl) ea_nil))) ⟨_, rfl, .inl ⟨_, RD_mono i1 p1 hs _, rfl⟩⟩) fun v => ⟨v, _, .inl hs, rfl⟩
        · exact ex_asg (ev_call (ea_cons ev_str (ea_cons (ev_lst (ea_cons (ev_idn (evv_var rfl)) (ea_cons (ev_idn (evv_var rfl)) ea_nil)) (sz 2)) (ea_cons (ev_var rfl) ea_nil))) ⟨_, rfl, .inr (.inr ⟨_, ED_mono T (i := (ii : Nat)) (p := (pp : Nat)) (by omega) (by omega) (by omega) _, rfl⟩)⟩) fun v => ⟨v, _, .inr ⟨by omega, by rw [show ((ii : Nat) : Int) + ((pp : Nat) : Int) - 1 = ((ii + pp - 1 : Nat) : Int) by omega]⟩, rfl⟩
      obtain ⟨v10, tt, htt, rfl⟩ := h
      refine ex_when (b := false) (et_is (et_or (et_and (b := false) (et_test (ev_op (ev_var rfl) ev_int op_gtI)) fun h => ?_) fun _ => et_and (b := false) (et_test (ev_op (ev_var rfl) ev_int op_ltI)) fun h => ?_) (by rw [Bool.and_false, Bool.and_false]; rfl)) (fun h => nomatch h) fun _ => ?_
      · have hb : 11 < ii + pp := by have z := of_decide_eq_true h; omega
        rcases htt with z | ⟨_, rfl⟩
        · omega
        · exact et_is (et_not (et_B (ev_callSm (ea_cons (ev_var rfl) (ea_cons (ev_lst (ea_cons ev_str (ea_cons (ev_var rfl) ea_nil)) (sz 2)) ea_nil)) (Sm_pair (Sm_atom rfl 4))))) rfl
      · have hs : ii + pp ≤ 11 := by have z := of_decide_eq_true h; omega
        rcases hdd with ⟨_, rfl⟩ | ⟨z, _⟩
        · exact et_is (et_not (et_B (ev_call (ea_cons ev_str (ea_cons (ev_lst (ea_cons (ev_idn (evv_var rfl)) (ea_cons (ev_idn (evv_var rfl)) ea_nil)) (sz 2)) (ea_cons (ev_var rfl) (ea_cons (ev_var rfl) ea_nil)))) ⟨_, _, ii + pp - 1, _, rfl, rfl, rfl, by omega, fun bb => RD_mono i1 p1 hs bb, rfl⟩))) rfl
        · omega
      refine ex_when (b := false) ?_ (fun h => nomatch h) fun _ => ?_
      · rcases hdd with ⟨hs, rfl⟩ | ⟨_, rfl⟩
        · exact et_is (et_and (b := false) (et_test (ev_notN (t := "tuple") (ev_var rfl) rfl)) fun _ => et_test (ev_op (ev_call (ea_cons (ev_var rfl) ea_nil) ⟨ii + pp - 1, _, rfl, by omega, fun x y hx hy => pow_lt i1 p1 (by omega), fun x y z hx hy hz => pow_ass i1 p1, rfl⟩) (ev_lst ea_nil (sz 0)) op_neNil)) (by rw [Bool.and_false])
        · exact et_is (et_and (b := false) (et_test (ev_notN (t := "NoneType") (ev_var rfl) rfl)) fun h => absurd h (by decide)) (by rw [Bool.and_false])
      -- left, right
      obtain ⟨q1, hq1, q11, q12⟩ : ∃ m : Nat, [D.int 10, D.int 4][t % 2]? = some (.int (m : Nat)) ∧ 1 ≤ m ∧ m ≤ 10 := by
        rcases Nat.mod_two_eq_zero_or_one t with z | z <;> rw [z]
        · exact ⟨10, rfl, by decide, by decide⟩
        · exact ⟨4, rfl, by decide, by decide⟩
      obtain ⟨q2, hq2, q21, q22⟩ : ∃ m : Nat, [D.int 3, D.int 4][t % 2]? = some (.int (m : Nat)) ∧ 1 ≤ m ∧ m ≤ 4 := by
        rcases Nat.mod_two_eq_zero_or_one t with z | z <;> rw [z]
        · exact ⟨3, rfl, by decide, by decide⟩
        · exact ⟨4, rfl, by decide, by decide⟩
      refine ex_seq (N := fun e => ∃ (v11 v12 : V) (ll rr : Nat) (bs3 : List D), 1 ≤ ll ∧ ll ≤ 10 ∧ 1 ≤ rr ∧ rr ≤ 4 ∧ BoxD (16 + 5 * t + 5) bs3 ∧ e = [Sl.val (.ref a) (.op (.ref a)), Sl.val vk (.int (k : Nat)), Sl.own b bs3, Sl.val u3 (.bl nn), s4, Sl.val v5 (.int ((ii + pp - 1 : Nat) : Int)), Sl.val v6 dd, Sl.val vt (.int (t : Nat)), Sl.val v8 (.int (ii : Nat)), Sl.val v9 (.int (pp : Nat)), Sl.val v10 tt, Sl.val v11 (.int (ll : Nat)), Sl.val v12 (.int (rr : Nat)), s13, s14, s15, s16, s17, s18]) (ex_parX (xa_two (m1 := q1) (m2 := q2) hB3 (by omega) (ev_op (ev_lst (ea_cons ev_int (ea_cons ev_int ea_nil)) (sz 2)) (ev_is (ev_op (ev_var rfl) ev_int (op_modI (by decide))) (show D.int _ = D.int ((t % 2 : Nat) : Int) by push_cast; rfl)) (op_ix (.inr rfl) (atI_natD hq1)))
        (fun _ => ev_op (ev_lst (ea_cons ev_int (ea_cons ev_int ea_nil)) (sz 2)) (ev_is (ev_op (ev_var rfl) ev_int (op_modI (by decide))) (show D.int _ = D.int ((t % 2 : Nat) : Int) by push_cast; rfl)) (op_ix (.inr rfl) (atI_natD hq2))) q11 (by omega) q21 (by omega)) fun vs ds e h => ?_) fun env' h => ?_
      · obtain ⟨t1, t2, a1, a2, b1, b2, rfl, bs', hB', rfl⟩ := h
        exact ⟨_, _, rfl, fun v8 v9 _ => ⟨v8, v9, t1, t2, bs', a1, by omega, b1, by omega, hB', rfl⟩⟩
      obtain ⟨v11, v12, ll, rr, bs3, l1, l10, r1, r4, hB4, rfl⟩ := h
      have hmul : ((ll : Nat) : Int) * ((rr : Nat) : Int) = ((ll * rr : Nat) : Int) := by push_cast; rfl
      refine ex_seq (N := fun e => ∃ v13 t2, ((ll * rr ≤ 10) ∨ (10 < ll * rr ∧ t2 = .lst [.str "many", .int ((ll * rr : Nat) : Int)])) ∧ e = [Sl.val (.ref a) (.op (.ref a)), Sl.val vk (.int (k : Nat)), Sl.own b bs3, Sl.val u3 (.bl nn), s4, Sl.val v5 (.int ((ii + pp - 1 : Nat) : Int)), Sl.val v6 dd, Sl.val vt (.int (t : Nat)), Sl.val v8 (.int (ii : Nat)), Sl.val v9 (.int (pp : Nat)), Sl.val v13 t2, Sl.val v11 (.int (ll : Nat)), Sl.val v12 (.int (rr : Nat)), s13, s14, s15, s16, s17, s18]) ?_ fun env' h => ?_
      · by_cases hs : ll * rr ≤ 10
        · exact ex_asg (ev_call (ea_cons ev_str (ea_cons (ev_lst (ea_cons (ev_idn (evv_var rfl)) (ea_cons (ev_idn (evv_var rfl)) ea_nil)) (sz 2)) (ea_cons (ev_not (ev_var rfl)) ea_nil))) ⟨_, rfl, .inl ⟨_, RD_rect l1 r1 l10 (by omega) hs _, rfl⟩⟩) fun v => ⟨v, _, .inl hs, rfl⟩
        · exact ex_asg (ev_call (ea_cons ev_str (ea_cons (ev_lst (ea_cons (ev_idn (evv_var rfl)) (ea_cons (ev_idn (evv_var rfl)) ea_nil)) (sz 2)) (ea_cons (ev_not (ev_var rfl)) ea_nil))) ⟨_, rfl, .inr (.inr ⟨_, ED_rect T (i := (ll : Nat)) (p := (rr : Nat)) (by omega) (by omega) (by omega) (by rw [hmul]; omega) _, rfl⟩)⟩) fun v => ⟨v, _, .inr ⟨by omega, by rw [hmul]⟩, rfl⟩
      obtain ⟨v13, t2, ht2, rfl⟩ := h
      refine ex_when (b := false) (et_is (et_and (b := false) (et_test (ev_op (ev_is (ev_op (ev_var rfl) (ev_var rfl) (op_mulI (.inl (by omega)))) (congrArg D.int hmul)) ev_int op_gtI)) fun h => ?_) (by rw [Bool.and_false])) (fun h => nomatch h) fun _ => ?_
      · have hb : 10 < ll * rr := by have z := of_decide_eq_true h; omega
        rcases ht2 with z | ⟨_, rfl⟩
        · omega
        · exact et_is (et_not (et_B (ev_callSm (ea_cons (ev_var rfl) (ea_cons (ev_lst (ea_cons ev_str (ea_cons (ev_is (ev_op (ev_var rfl) (ev_var rfl) (op_mulI (.inl (by omega)))) (congrArg D.int hmul)) ea_nil)) (sz 2)) ea_nil)) (Sm_pair (Sm_atom rfl 4))))) rfl
      refine ex_if (b := false) (et_is (et_and (b := false) (et_test (ev_op (ev_is (ev_op (ev_var rfl) (ev_var rfl) (op_mulI (.inl (by omega)))) (congrArg D.int hmul)) ev_int op_ltI)) fun h => ?_) (by rw [Bool.and_false])) (fun h => nomatch h) fun _ => ex_next ⟨_, _, _, _, _, _, _, _, _, hB4.mono (by omega), rfl⟩
      have hs : ll * rr ≤ 10 := by have z := of_decide_eq_true h; omega
      exact et_is (et_not (et_B (ev_call (ea_cons ev_str (ea_cons (ev_lst (ea_cons (ev_idn (evv_var rfl)) (ea_cons (ev_idn (evv_var rfl)) ea_nil)) (sz 2)) (ea_cons (ev_call (ea_cons (ev_var rfl) (ea_cons (ev_var rfl) ea_nil)) ⟨ll, rr, rfl, rfl, l1, r1, hs, rfl⟩) (ea_cons (ev_var rfl) ea_nil)))) ⟨_, _, ll * rr, _, rfl, rfl, rfl, by omega, fun bb => RD_rect l1 r1 l10 (by omega) hs bb, rfl⟩))) rfl
    obtain ⟨bs, s5, s6, s7, s8, s9, s10, s11, s12, hB2, rfl⟩ := h
    refine ex_letX (P := fun _ d e => ∃ (t : Nat) (bs' : List D), d = .int ((10 : Int) ^ 30 + (t : Nat)) ∧ BoxD 40 bs' ∧ e = [Sl.val (.ref a) (.op (.ref a)), Sl.val vk (.int (k : Nat)), Sl.own b bs', Sl.val u3 (.bl nn), s4, s5, s6, s7, s8, s9, s10, s11, s12, s13, s14, s15, s16, s17, s18]) (xe_op (P2 := fun _ _ d e => ∃ (t : Nat) (bs' : List D), d = .int (t : Nat) ∧ BoxD 40 bs' ∧ e = [Sl.val (.ref a) (.op (.ref a)), Sl.val vk (.int (k : Nat)), Sl.own b bs', Sl.val u3 (.bl nn), s4, s5, s6, s7, s8, s9, s10, s11, s12, s13, s14, s15, s16, s17, s18]) (ev_op (z := .int ((10 : Int) ^ 30)) ev_int ev_int (op_powI (j := 30) ⟨by decide, by decide, by decide⟩)).xe (fun v d e h => ?_) fun v1 d1 e1 v2 d2 e2 h1 h2 => ?_) fun v13 d e h => ?_
    · obtain ⟨rfl, rfl⟩ := h
      refine (xe_take (m := 1000) rfl hB2 (by decide) ev_int (by decide) (by decide)).imp fun v d e h => ?_
      obtain ⟨t, _, rfl, bs', hB', rfl⟩ := h
      exact ⟨t, bs', rfl, hB'.mono (by decide), rfl⟩
    · obtain ⟨rfl, _⟩ := h1
      obtain ⟨t, bs', rfl, hB', rfl⟩ := h2
      exact ⟨_, op_addI, fun v => ⟨t, bs', rfl, hB', rfl⟩⟩
    obtain ⟨t, bs', rfl, hB', rfl⟩ := h
    have hgr : 1 ≤ (10 : Int) ^ 30 + (t : Nat) ∧ 11 < (10 : Int) ^ 30 + (t : Nat) + 2 ∧ 10 < ((10 : Int) ^ 30 + (t : Nat)) * 3 := by
      have : (10 : Int) ^ 30 = 1000000000000000000000000000000 := by decide
      omega
    generalize (10 : Int) ^ 30 + (t : Nat) = gr at hgr
    refine ex_when (b := false) (et_is (et_not (et_B (ev_callSm (ea_cons (ev_lst (ea_cons (ev_call (ea_cons ev_str (ea_cons (ev_lst (ea_cons (ev_idn (evv_var rfl)) (ea_cons (ev_idn (ev_intVv 2)) ea_nil)) (sz 2)) (ea_cons (ev_var rfl) ea_nil))) ⟨_, rfl, .inr (.inr ⟨_, ED_mono T hgr.1 (by decide) hgr.2.1 _, rfl⟩)⟩)
        (ea_cons (ev_call (ea_cons ev_str (ea_cons (ev_lst (ea_cons (ev_idn (evv_var rfl)) (ea_cons (ev_idn (ev_intVv 3)) ea_nil)) (sz 2)) (ea_cons (ev_var rfl) ea_nil))) ⟨_, rfl, .inr (.inr ⟨_, ED_rect T hgr.1 (by decide) (by decide) hgr.2.2 _, rfl⟩)⟩) ea_nil)) (sz 2))
        (ea_cons (ev_lst (ea_cons (ev_lst (ea_cons ev_str (ea_cons (ev_is (ev_op (ev_var rfl) ev_int op_addI) (congrArg D.int (show gr + 1 = gr + 2 - 1 by omega))) ea_nil)) (sz 2)) (ea_cons (ev_lst (ea_cons ev_str (ea_cons (ev_is (ev_op ev_int (ev_var rfl) (op_mulI (.inl (by decide)))) (congrArg D.int (show 3 * gr = gr * 3 by omega))) ea_nil)) (sz 2)) ea_nil)) (sz 2)) ea_nil))
        (Sm_two (Sm_pair (Sm_atom rfl 3)) (Sm_pair (Sm_atom rfl 3)))))) rfl) (fun h => nomatch h) fun _ => ?_
    refine ex_let2 (d1 := .lst oddD) (d2 := .lst wrongD) (ea_cons (ev_lst (ea_cons ev_non (ea_cons ev_int (ea_cons ev_int (ea_cons ev_negI (ea_cons ev_bl (ea_cons ev_str (ea_cons (ev_tup (ea_cons ev_int ea_nil) (sz 1)) (ea_cons (ev_lst (ea_cons ev_int ea_nil) (sz 1)) (ea_cons ev_dnew (ea_cons (ev_op ev_int ev_int (op_powI (j := 30) ⟨by decide, by decide, by decide⟩)) ea_nil)))))))))) (sz 10))
      (ea_cons (ev_lst (ea_cons ev_non (ea_cons ev_int (ea_cons ev_negI (ea_cons ev_bl (ea_cons ev_str (ea_cons (ev_tup (ea_cons ev_int ea_nil) (sz 1)) (ea_cons (ev_lst (ea_cons ev_int ea_nil) (sz 1)) (ea_cons ev_dnew ea_nil)))))))) (sz 8)) ea_nil)) fun v14 v15 => ?_
    refine ex_let (ev_is (ev_lcA (ds := kinds.map fun p => .str p.2) (F := fun i => row1 ((kinds.map fun p => p.2).getD i "")) (ei_list (ev_lst (ds := [.str "left", .str "right", .str "null", .str "lowest", .str "clock"]) (ea_cons ev_str (ea_cons ev_str (ea_cons ev_str (ea_cons ev_str (ea_cons ev_str ea_nil))))) (sz 5))) (small1000 (by decide)) (by decide) fun i v d hd => ?_) (d := _) (w := .lst rows1) rfl) fun v16 => ?_
    · have hw : d = .str ((kinds.map fun p => p.2).getD i "") := by
        rcases i with _ | _ | _ | _ | _ | i
        · cases hd; rfl
        · cases hd; rfl
        · cases hd; rfl
        · cases hd; rfl
        · cases hd; rfl
        · simp [kinds] at hd
      subst hw
      exact ev_tup (ea_cons (ev_var rfl) (ea_cons (ev_lst (ea_cons ev_int ea_nil) (sz 1)) (ea_cons (ev_lst (ea_cons ev_str ea_nil) (sz 1)) (ea_cons (ev_lst (ea_cons (ev_var rfl) ea_nil) (sz 1)) ea_nil)))) (sz 4)
    refine ex_let (ev_is (ev_op (ev_var rfl) (ev_lcA (ds := [.str "monogenic", .str "rectangle"]) (F := fun i => row2 (["monogenic", "rectangle"].getD i "")) (ei_list (ev_lst (ea_cons ev_str (ea_cons ev_str ea_nil)) (sz 2))) (small1000 (by decide)) (by decide) fun i v d hd => ?_) (op_catLD (sz 7))) (w := .lst rows2) rfl) fun v17 => ?_
    · have hw : d = .str (["monogenic", "rectangle"].getD i "") := by
        rcases i with _ | _ | i
        · cases hd; rfl
        · cases hd; rfl
        · simp at hd
      subst hw
      exact ev_tup (ea_cons (ev_var rfl) (ea_cons (ev_lst (ea_cons ev_int (ea_cons ev_int ea_nil)) (sz 2)) (ea_cons (ev_lst (ea_cons ev_str (ea_cons ev_str ea_nil)) (sz 2)) (ea_cons (ev_lst (ea_cons (ev_var rfl) (ea_cons (ev_var rfl) ea_nil)) (sz 2)) ea_nil)))) (sz 4)
    refine ex_ifX (P1 := fun b9 e => b9 = false ∧ ∃ bs9, e = [Sl.val (.ref a) (.op (.ref a)), Sl.val vk (.int (k : Nat)), Sl.own b bs9, Sl.val u3 (.bl nn), s4, s5, s6, s7, s8, s9, s10, s11, s12, Sl.val v13 (.int gr), Sl.val v14 (.lst oddD), Sl.val v15 (.lst wrongD), Sl.val v17 (.lst rows2), s17, s18]) (xt_not (P1 := fun b9 e => b9 = true ∧ ∃ bs9, e = [Sl.val (.ref a) (.op (.ref a)), Sl.val vk (.int (k : Nat)), Sl.own b bs9, Sl.val u3 (.bl nn), s4, s5, s6, s7, s8, s9, s10, s11, s12, Sl.val v13 (.int gr), Sl.val v14 (.lst oddD), Sl.val v15 (.lst wrongD), Sl.val v17 (.lst rows2), s17, s18]) (xt_B (xe_callB (k := 120) (Pd := fun d => d = .bl true) rfl hB' (by decide) (ea_cons (ev_op (ev_var rfl) (ev_slFrom (k := 5) (ev_var rfl) (by decide)) (op_catLD (show rows2.length + (rows2.drop 5).length ≤ sizeLine from sz 9))) (ea_cons (ev_var rfl) ea_nil)) ⟨_, _, rfl, rfl, by decide, rows_ok T, rfl⟩) fun v d e h => ?_) fun b e h => ?_) (fun e h => nomatch h.1) fun e h => ?_
    · obtain ⟨rfl, bs9, _, rfl⟩ := h
      exact ⟨true, rfl, rfl, bs9, rfl⟩
    · obtain ⟨rfl, h⟩ := h
      exact ⟨rfl, h⟩
    · obtain ⟨_, bs9, rfl⟩ := h
      exact ex_next ⟨_, _, _, _, _, _, _, _, _, _, _, _, _, _, _, _, _, _, rfl⟩
end
end Kx


set_option Elab.async false
set_option linter.all false
set_option maxRecDepth 100000
set_option maxHeartbeats 8000000
namespace Kx
open PySem PySem.Spec PyProof.Rows L2 DL
/-! ### what the top has written -/

theorem all_mk {P : Program} {w : World} {K : PySem.W.Frag} {h : Heap} {mg : Str → Option Value} {fa : Addr} (X : K.In h) (G : h.Ns mainGlobals mg) (hfa : mg "law" = some (.ref fa))
    {f0 : Addr} {od0 an0 : Option Addr} {sl0 : Array (Option Value)} {oc0 kV0 dc0 pm0 cd0 ct0 : Value}
    {f1 : Addr} {od1 an1 : Option Addr} {sl1 : Array (Option Value)} {oc1 kV1 dc1 pm1 cd1 ct1 : Value}
    {f2 : Addr} {od2 an2 : Option Addr} {sl2 : Array (Option Value)} {oc2 kV2 dc2 pm2 cd2 ct2 : Value}
    {f3 : Addr} {od3 an3 : Option Addr} {sl3 : Array (Option Value)} {oc3 kV3 dc3 pm3 cd3 ct3 : Value}
    {f4 : Addr} {od4 an4 : Option Addr} {sl4 : Array (Option Value)} {oc4 kV4 dc4 pm4 cd4 ct4 : Value}
    {f5 : Addr} {od5 an5 : Option Addr} {sl5 : Array (Option Value)} {oc5 kV5 dc5 pm5 cd5 ct5 : Value}
    {f6 : Addr} {od6 an6 : Option Addr} {sl6 : Array (Option Value)} {oc6 kV6 dc6 pm6 cd6 ct6 : Value}
    {f7 : Addr} {od7 an7 : Option Addr} {sl7 : Array (Option Value)} {oc7 kV7 dc7 pm7 cd7 ct7 : Value}
    {f8 : Addr} {od8 an8 : Option Addr} {sl8 : Array (Option Value)} {oc8 kV8 dc8 pm8 cd8 ct8 : Value}
    {f9 : Addr} {od9 an9 : Option Addr} {sl9 : Array (Option Value)} {oc9 kV9 dc9 pm9 cd9 ct9 : Value}
    {f10 : Addr} {od10 an10 : Option Addr} {sl10 : Array (Option Value)} {oc10 kV10 dc10 pm10 cd10 ct10 : Value}
    {f11 : Addr} {od11 an11 : Option Addr} {sl11 : Array (Option Value)} {oc11 kV11 dc11 pm11 cd11 ct11 : Value}
    {f12 : Addr} {od12 an12 : Option Addr} {sl12 : Array (Option Value)} {oc12 kV12 dc12 pm12 cd12 ct12 : Value}
    {f13 : Addr} {od13 an13 : Option Addr} {sl13 : Array (Option Value)} {oc13 kV13 dc13 pm13 cd13 ct13 : Value}
    {f14 : Addr} {od14 an14 : Option Addr} {sl14 : Array (Option Value)} {oc14 kV14 dc14 pm14 cd14 ct14 : Value}
    {f15 : Addr} {od15 an15 : Option Addr} {sl15 : Array (Option Value)} {oc15 kV15 dc15 pm15 cd15 ct15 : Value}
    {f16 : Addr} {od16 an16 : Option Addr} {sl16 : Array (Option Value)} {oc16 kV16 dc16 pm16 cd16 ct16 : Value}
    {f17 : Addr} {od17 an17 : Option Addr} {sl17 : Array (Option Value)} {oc17 kV17 dc17 pm17 cd17 ct17 : Value}
    {f18 : Addr} {od18 an18 : Option Addr} {sl18 : Array (Option Value)} {oc18 kV18 dc18 pm18 cd18 ct18 : Value}
    {f19 : Addr} {od19 an19 : Option Addr} {sl19 : Array (Option Value)} {oc19 kV19 dc19 pm19 cd19 ct19 : Value}
    {f20 : Addr} {od20 an20 : Option Addr} {sl20 : Array (Option Value)} {oc20 kV20 dc20 pm20 cd20 ct20 : Value}
    {f21 : Addr} {od21 an21 : Option Addr} {sl21 : Array (Option Value)} {oc21 kV21 dc21 pm21 cd21 ct21 : Value}
    {f22 : Addr} {od22 an22 : Option Addr} {sl22 : Array (Option Value)} {oc22 kV22 dc22 pm22 cd22 ct22 : Value}
    {f23 : Addr} {od23 an23 : Option Addr} {sl23 : Array (Option Value)} {oc23 kV23 dc23 pm23 cd23 ct23 : Value}
    {f24 : Addr} {od24 an24 : Option Addr} {sl24 : Array (Option Value)} {oc24 kV24 dc24 pm24 cd24 ct24 : Value}
    {f25 : Addr} {od25 an25 : Option Addr} {sl25 : Array (Option Value)} {oc25 kV25 dc25 pm25 cd25 ct25 : Value}
    {f26 : Addr} {od26 an26 : Option Addr} {sl26 : Array (Option Value)} {oc26 kV26 dc26 pm26 cd26 ct26 : Value}
    {f27 : Addr} {od27 an27 : Option Addr} {sl27 : Array (Option Value)} {oc27 kV27 dc27 pm27 cd27 ct27 : Value}
    {cB : Addr}
    {cE0 iE0 : Addr} {nmE0 qE0 : Str} {NE0 : Addr} {bsE0 bmE0 : List Value} {snE0 : List Str} {subE0 : List Value} {abE0 : Bool} {colE0 : Option Bool} {ddE0 : Option Addr} {m0E0 m1E0 m2E0 m3E0 m5E0 : Option Value} {odE0 anE0 : Option Addr} {slE0 : Array (Option Value)} {ocE0 kVE0 dcE0 pmE0 cdE0 ctE0 : Value}
    {cE1 iE1 : Addr} {nmE1 qE1 : Str} {NE1 : Addr} {bsE1 bmE1 : List Value} {snE1 : List Str} {subE1 : List Value} {abE1 : Bool} {colE1 : Option Bool} {ddE1 : Option Addr} {m0E1 m1E1 m2E1 m3E1 m5E1 : Option Value} {odE1 anE1 : Option Addr} {slE1 : Array (Option Value)} {ocE1 kVE1 dcE1 pmE1 cdE1 ctE1 : Value}
    {tG_MOST_ELEMENTS : Tok}
    (a0 : PySem.W.nsIn K mainGlobals "is_integer" = some (some (.ref f0)))
    (l0 : K.lookup f0 = some ⟨oc0, od0, .func (PySem.W.fnOf "is_integer" "is_integer" (defArgs s_is_integer) (defBody s_is_integer) (defScope s_is_integer) .none kV0 dc0 pm0 an0 cd0 ct0), sl0⟩)
    (c0 : PySem.W.codeIn K cd0 "is_integer" = true)
    (k0 : PySem.W.keepIn K (.ref f0) = true)
    (a1 : PySem.W.nsIn K mainGlobals "is_within" = some (some (.ref f1)))
    (l1 : K.lookup f1 = some ⟨oc1, od1, .func (PySem.W.fnOf "is_within" "is_within" (defArgs s_is_within) (defBody s_is_within) (defScope s_is_within) .none kV1 dc1 pm1 an1 cd1 ct1), sl1⟩)
    (c1 : PySem.W.codeIn K cd1 "is_within" = true)
    (k1 : PySem.W.keepIn K (.ref f1) = true)
    (a2 : PySem.W.nsIn K mainGlobals "check_many" = some (some (.ref f2)))
    (l2 : K.lookup f2 = some ⟨oc2, od2, .func (PySem.W.fnOf "check_many" "check_many" (defArgs s_check_many) (defBody s_check_many) (defScope s_check_many) .none kV2 dc2 pm2 an2 cd2 ct2), sl2⟩)
    (c2 : PySem.W.codeIn K cd2 "check_many" = true)
    (k2 : PySem.W.keepIn K (.ref f2) = true)
    (a3 : PySem.W.nsIn K mainGlobals "check_counts" = some (some (.ref f3)))
    (l3 : K.lookup f3 = some ⟨oc3, od3, .func (PySem.W.fnOf "check_counts" "check_counts" (defArgs s_check_counts) (defBody s_check_counts) (defScope s_check_counts) .none kV3 dc3 pm3 an3 cd3 ct3), sl3⟩)
    (c3 : PySem.W.codeIn K cd3 "check_counts" = true)
    (k3 : PySem.W.keepIn K (.ref f3) = true)
    (a4 : PySem.W.nsIn K mainGlobals "check_size" = some (some (.ref f4)))
    (l4 : K.lookup f4 = some ⟨oc4, od4, .func (PySem.W.fnOf "check_size" "check_size" (defArgs s_check_size) (defBody s_check_size) (defScope s_check_size) .none kV4 dc4 pm4 an4 cd4 ct4), sl4⟩)
    (c4 : PySem.W.codeIn K cd4 "check_size" = true)
    (k4 : PySem.W.keepIn K (.ref f4) = true)
    (a5 : PySem.W.nsIn K mainGlobals "left_zeros" = some (some (.ref f5)))
    (l5 : K.lookup f5 = some ⟨oc5, od5, .func (PySem.W.fnOf "left_zeros" "left_zeros" (defArgs s_left_zeros) (defBody s_left_zeros) (defScope s_left_zeros) .none kV5 dc5 pm5 an5 cd5 ct5), sl5⟩)
    (c5 : PySem.W.codeIn K cd5 "left_zeros" = true)
    (k5 : PySem.W.keepIn K (.ref f5) = true)
    (a6 : PySem.W.nsIn K mainGlobals "right_zeros" = some (some (.ref f6)))
    (l6 : K.lookup f6 = some ⟨oc6, od6, .func (PySem.W.fnOf "right_zeros" "right_zeros" (defArgs s_right_zeros) (defBody s_right_zeros) (defScope s_right_zeros) .none kV6 dc6 pm6 an6 cd6 ct6), sl6⟩)
    (c6 : PySem.W.codeIn K cd6 "right_zeros" = true)
    (k6 : PySem.W.keepIn K (.ref f6) = true)
    (a7 : PySem.W.nsIn K mainGlobals "null" = some (some (.ref f7)))
    (l7 : K.lookup f7 = some ⟨oc7, od7, .func (PySem.W.fnOf "null" "null" (defArgs s_null) (defBody s_null) (defScope s_null) .none kV7 dc7 pm7 an7 cd7 ct7), sl7⟩)
    (c7 : PySem.W.codeIn K cd7 "null" = true)
    (k7 : PySem.W.keepIn K (.ref f7) = true)
    (a8 : PySem.W.nsIn K mainGlobals "lowest" = some (some (.ref f8)))
    (l8 : K.lookup f8 = some ⟨oc8, od8, .func (PySem.W.fnOf "lowest" "lowest" (defArgs s_lowest) (defBody s_lowest) (defScope s_lowest) .none kV8 dc8 pm8 an8 cd8 ct8), sl8⟩)
    (c8 : PySem.W.codeIn K cd8 "lowest" = true)
    (k8 : PySem.W.keepIn K (.ref f8) = true)
    (a9 : PySem.W.nsIn K mainGlobals "clock" = some (some (.ref f9)))
    (l9 : K.lookup f9 = some ⟨oc9, od9, .func (PySem.W.fnOf "clock" "clock" (defArgs s_clock) (defBody s_clock) (defScope s_clock) .none kV9 dc9 pm9 an9 cd9 ct9), sl9⟩)
    (c9 : PySem.W.codeIn K cd9 "clock" = true)
    (k9 : PySem.W.keepIn K (.ref f9) = true)
    (a10 : PySem.W.nsIn K mainGlobals "power_at" = some (some (.ref f10)))
    (l10 : K.lookup f10 = some ⟨oc10, od10, .func (PySem.W.fnOf "power_at" "power_at" (defArgs s_power_at) (defBody s_power_at) (defScope s_power_at) .none kV10 dc10 pm10 an10 cd10 ct10), sl10⟩)
    (c10 : PySem.W.codeIn K cd10 "power_at" = true)
    (k10 : PySem.W.keepIn K (.ref f10) = true)
    (a11 : PySem.W.nsIn K mainGlobals "monogenic" = some (some (.ref f11)))
    (l11 : K.lookup f11 = some ⟨oc11, od11, .func (PySem.W.fnOf "monogenic" "monogenic" (defArgs s_monogenic) (defBody s_monogenic) (defScope s_monogenic) .none kV11 dc11 pm11 an11 cd11 ct11), sl11⟩)
    (c11 : PySem.W.codeIn K cd11 "monogenic" = true)
    (k11 : PySem.W.keepIn K (.ref f11) = true)
    (a12 : PySem.W.nsIn K mainGlobals "rectangle" = some (some (.ref f12)))
    (l12 : K.lookup f12 = some ⟨oc12, od12, .func (PySem.W.fnOf "rectangle" "rectangle" (defArgs s_rectangle) (defBody s_rectangle) (defScope s_rectangle) .none kV12 dc12 pm12 an12 cd12 ct12), sl12⟩)
    (c12 : PySem.W.codeIn K cd12 "rectangle" = true)
    (k12 : PySem.W.keepIn K (.ref f12) = true)
    (a13 : PySem.W.nsIn K mainGlobals "_law_cell" = some (some (.ref f13)))
    (l13 : K.lookup f13 = some ⟨oc13, od13, .func (PySem.W.fnOf "_law_cell" "_law_cell" (defArgs s_law_cell) (defBody s_law_cell) (defScope s_law_cell) .none kV13 dc13 pm13 an13 cd13 ct13), sl13⟩)
    (c13 : PySem.W.codeIn K cd13 "_law_cell" = true)
    (k13 : PySem.W.keepIn K (.ref f13) = true)
    (a14 : PySem.W.nsIn K mainGlobals "_law_box" = some (some (.ref f14)))
    (l14 : K.lookup f14 = some ⟨oc14, od14, .func (PySem.W.fnOf "_law_box" "_law_box" (defArgs s_law_box) (defBody s_law_box) (defScope s_law_box) .none kV14 dc14 pm14 an14 cd14 ct14), sl14⟩)
    (c14 : PySem.W.codeIn K cd14 "_law_box" = true)
    (k14 : PySem.W.keepIn K (.ref f14) = true)
    (a15 : PySem.W.nsIn K mainGlobals "_law_take" = some (some (.ref f15)))
    (l15 : K.lookup f15 = some ⟨oc15, od15, .func (PySem.W.fnOf "_law_take" "_law_take" (defArgs s_law_take) (defBody s_law_take) (defScope s_law_take) .none kV15 dc15 pm15 an15 cd15 ct15), sl15⟩)
    (c15 : PySem.W.codeIn K cd15 "_law_take" = true)
    (k15 : PySem.W.keepIn K (.ref f15) = true)
    (a16 : PySem.W.nsIn K mainGlobals "_law_same" = some (some (.ref f16)))
    (l16 : K.lookup f16 = some ⟨oc16, od16, .func (PySem.W.fnOf "_law_same" "_law_same" (defArgs s_law_same) (defBody s_law_same) (defScope s_law_same) .none kV16 dc16 pm16 an16 cd16 ct16), sl16⟩)
    (c16 : PySem.W.codeIn K cd16 "_law_same" = true)
    (k16 : PySem.W.keepIn K (.ref f16) = true)
    (a17 : PySem.W.nsIn K mainGlobals "_law_broken" = some (some (.ref f17)))
    (l17 : K.lookup f17 = some ⟨oc17, od17, .func (PySem.W.fnOf "_law_broken" "_law_broken" (defArgs s_law_broken) (defBody s_law_broken) (defScope s_law_broken) .none kV17 dc17 pm17 an17 cd17 ct17), sl17⟩)
    (c17 : PySem.W.codeIn K cd17 "_law_broken" = true)
    (k17 : PySem.W.keepIn K (.ref f17) = true)
    (a18 : PySem.W.nsIn K mainGlobals "_law_same_object" = some (some (.ref f18)))
    (l18 : K.lookup f18 = some ⟨oc18, od18, .func (PySem.W.fnOf "_law_same_object" "_law_same_object" (defArgs s_law_same_object) (defBody s_law_same_object) (defScope s_law_same_object) .none kV18 dc18 pm18 an18 cd18 ct18), sl18⟩)
    (c18 : PySem.W.codeIn K cd18 "_law_same_object" = true)
    (k18 : PySem.W.keepIn K (.ref f18) = true)
    (a19 : PySem.W.nsIn K mainGlobals "_law_copy" = some (some (.ref f19)))
    (l19 : K.lookup f19 = some ⟨oc19, od19, .func (PySem.W.fnOf "_law_copy" "_law_copy" (defArgs s_law_copy) (defBody s_law_copy) (defScope s_law_copy) .none kV19 dc19 pm19 an19 cd19 ct19), sl19⟩)
    (c19 : PySem.W.codeIn K cd19 "_law_copy" = true)
    (k19 : PySem.W.keepIn K (.ref f19) = true)
    (a20 : PySem.W.nsIn K mainGlobals "_law_refusals_right" = some (some (.ref f20)))
    (l20 : K.lookup f20 = some ⟨oc20, od20, .func (PySem.W.fnOf "_law_refusals_right" "_law_refusals_right" (defArgs s_law_refusals_right) (defBody s_law_refusals_right) (defScope s_law_refusals_right) .none kV20 dc20 pm20 an20 cd20 ct20), sl20⟩)
    (c20 : PySem.W.codeIn K cd20 "_law_refusals_right" = true)
    (k20 : PySem.W.keepIn K (.ref f20) = true)
    (a21 : PySem.W.nsIn K mainGlobals "_law_twice" = some (some (.ref f21)))
    (l21 : K.lookup f21 = some ⟨oc21, od21, .func (PySem.W.fnOf "_law_twice" "_law_twice" (defArgs s_law_twice) (defBody s_law_twice) (defScope s_law_twice) .none kV21 dc21 pm21 an21 cd21 ct21), sl21⟩)
    (c21 : PySem.W.codeIn K cd21 "_law_twice" = true)
    (k21 : PySem.W.keepIn K (.ref f21) = true)
    (a22 : PySem.W.nsIn K mainGlobals "_law_done" = some (some (.ref f22)))
    (l22 : K.lookup f22 = some ⟨oc22, od22, .func (PySem.W.fnOf "_law_done" "_law_done" (defArgs s_law_done) (defBody s_law_done) (defScope s_law_done) .none kV22 dc22 pm22 an22 cd22 ct22), sl22⟩)
    (c22 : PySem.W.codeIn K cd22 "_law_done" = true)
    (k22 : PySem.W.keepIn K (.ref f22) = true)
    (a23 : PySem.W.nsIn K mainGlobals "_law_asked" = some (some (.ref f23)))
    (l23 : K.lookup f23 = some ⟨oc23, od23, .func (PySem.W.fnOf "_law_asked" "_law_asked" (defArgs s_law_asked) (defBody s_law_asked) (defScope s_law_asked) .none kV23 dc23 pm23 an23 cd23 ct23), sl23⟩)
    (c23 : PySem.W.codeIn K cd23 "_law_asked" = true)
    (k23 : PySem.W.keepIn K (.ref f23) = true)
    (a24 : PySem.W.nsIn K mainGlobals "_law_item" = some (some (.ref f24)))
    (l24 : K.lookup f24 = some ⟨oc24, od24, .func (PySem.W.fnOf "_law_item" "_law_item" (defArgs s_law_item) (defBody s_law_item) (defScope s_law_item) .none kV24 dc24 pm24 an24 cd24 ct24), sl24⟩)
    (c24 : PySem.W.codeIn K cd24 "_law_item" = true)
    (k24 : PySem.W.keepIn K (.ref f24) = true)
    (a25 : PySem.W.nsIn K mainGlobals "_law_of_powers" = some (some (.ref f25)))
    (l25 : K.lookup f25 = some ⟨oc25, od25, .func (PySem.W.fnOf "_law_of_powers" "_law_of_powers" (defArgs s_law_of_powers) (defBody s_law_of_powers) (defScope s_law_of_powers) .none kV25 dc25 pm25 an25 cd25 ct25), sl25⟩)
    (c25 : PySem.W.codeIn K cd25 "_law_of_powers" = true)
    (k25 : PySem.W.keepIn K (.ref f25) = true)
    (a26 : PySem.W.nsIn K mainGlobals "_law_of_pairs" = some (some (.ref f26)))
    (l26 : K.lookup f26 = some ⟨oc26, od26, .func (PySem.W.fnOf "_law_of_pairs" "_law_of_pairs" (defArgs s_law_of_pairs) (defBody s_law_of_pairs) (defScope s_law_of_pairs) .none kV26 dc26 pm26 an26 cd26 ct26), sl26⟩)
    (c26 : PySem.W.codeIn K cd26 "_law_of_pairs" = true)
    (k26 : PySem.W.keepIn K (.ref f26) = true)
    (a27 : PySem.W.nsIn K mainGlobals "law" = some (some (.ref f27)))
    (l27 : K.lookup f27 = some ⟨oc27, od27, .func (PySem.W.fnOf "law" "law" (defArgs s_law) (defBody s_law) (defScope s_law) .none kV27 dc27 pm27 an27 cd27 ct27), sl27⟩)
    (c27 : PySem.W.codeIn K cd27 "law" = true)
    (k27 : PySem.W.keepIn K (.ref f27) = true)
    (gB : PySem.W.nsIn K mainGlobals "SemigroupError" = some (some (.ref cB)))
    (sB1 : PySem.W.specialIn K (.ref cB) "__getattribute__" = some (some (.builtin "type.__getattribute__")))
    (sB2 : PySem.W.readsIn K cB (.type "type") = true)
    (sB3 : PySem.W.findCls K (.ref cB) (.type "type") "__init__" = some (.val (.builtin "ValueError.__init__")))
    (sB4 : PySem.W.subIn K (.ref cB) (.type "BaseException") = some true)
    (sB5 : PySem.W.typeIn K (.ref cB) = some (.type "type"))
    (sB6 : PySem.W.isClsIn K cB = true)
    (hg1 : PySem.W.specialIn K (.builtin "object.__class__") "__get__" = some (some (.builtin "getset_descriptor.__get__")))
    (hg2 : PySem.W.takesIn K (.builtin "object.__class__") = some true)
    (gE0 : PySem.W.nsIn K mainGlobals "InvalidNumber" = some (some (.ref cE0)))
    (xE0 : K.lookup cE0 = some (excClassObj nmE0 qE0 cE0 NE0 bsE0 bmE0 true snE0 subE0 abE0 colE0 ddE0 m0E0 m1E0 m2E0 m3E0 m5E0 "ValueError.__new__"))
    (rE0 : PySem.HandSPX.refsVE bmE0 = true)
    (saE0 : PySem.W.findIn K (.ref cE0) "__setattr__" = some (some (.builtin "object.__setattr__")))
    (exE0 : PySem.W.subIn K (.ref cE0) (.type "BaseException") = some true)
    (tyE0 : PySem.W.typeIn K (.ref cE0) = some (.type "type"))
    (kcE0 : PySem.W.keepIn K (.ref cE0) = true)
    (iE_0 : PySem.W.findIn K (.ref cE0) "__init__" = some (some (.ref iE0)))
    (tiE0 : PySem.W.typeIn K (.ref iE0) = some (.type "function"))
    (liE0 : K.lookup iE0 = some ⟨ocE0, odE0, .func (PySem.W.fnOf "__init__" "InvalidNumber.__init__" (defArgs si_InvalidNumber) (defBody si_InvalidNumber) (defScope si_InvalidNumber) .none kVE0 dcE0 pmE0 anE0 cdE0 ctE0), slE0⟩)
    (ciE0 : PySem.W.codeIn K cdE0 "InvalidNumber.__init__" = true)
    (kiE0 : PySem.W.keepIn K (.ref iE0) = true)
    (xaE0 : PySem.W.findIn K (.ref cE0) "__getattribute__" = some (some (.builtin "BaseException.__getattribute__")))
    (xbE0 : PySem.W.findIn K (.ref cE0) "__getattr__" = some none)
    (hdE0 : PySem.W.hasDictIn K cE0 = true)
    (nfE0 : PySem.W.findIn K (.ref cE0) "given" = some none)
    (icE0 : PySem.W.isClsIn K cE0 = true)
    (haE0 : PySem.W.findIn K (.ref cE0) "__class__" = some (some (.builtin "object.__class__")))
    (hmE0 : PySem.W.mroIn K cE0 (.type "object") = some true)
    (yE0 : PySem.W.kitOne K (.ref cE0) (.ref cB) = some true)
    (zE0 : PySem.W.exmOne K (.ref cE0) (.ref cB) = some true)
    (gE1 : PySem.W.nsIn K mainGlobals "TooMany" = some (some (.ref cE1)))
    (xE1 : K.lookup cE1 = some (excClassObj nmE1 qE1 cE1 NE1 bsE1 bmE1 true snE1 subE1 abE1 colE1 ddE1 m0E1 m1E1 m2E1 m3E1 m5E1 "ValueError.__new__"))
    (rE1 : PySem.HandSPX.refsVE bmE1 = true)
    (saE1 : PySem.W.findIn K (.ref cE1) "__setattr__" = some (some (.builtin "object.__setattr__")))
    (exE1 : PySem.W.subIn K (.ref cE1) (.type "BaseException") = some true)
    (tyE1 : PySem.W.typeIn K (.ref cE1) = some (.type "type"))
    (kcE1 : PySem.W.keepIn K (.ref cE1) = true)
    (iE_1 : PySem.W.findIn K (.ref cE1) "__init__" = some (some (.ref iE1)))
    (tiE1 : PySem.W.typeIn K (.ref iE1) = some (.type "function"))
    (liE1 : K.lookup iE1 = some ⟨ocE1, odE1, .func (PySem.W.fnOf "__init__" "TooMany.__init__" (defArgs si_TooMany) (defBody si_TooMany) (defScope si_TooMany) .none kVE1 dcE1 pmE1 anE1 cdE1 ctE1), slE1⟩)
    (ciE1 : PySem.W.codeIn K cdE1 "TooMany.__init__" = true)
    (kiE1 : PySem.W.keepIn K (.ref iE1) = true)
    (xaE1 : PySem.W.findIn K (.ref cE1) "__getattribute__" = some (some (.builtin "BaseException.__getattribute__")))
    (xbE1 : PySem.W.findIn K (.ref cE1) "__getattr__" = some none)
    (hdE1 : PySem.W.hasDictIn K cE1 = true)
    (nfE1 : PySem.W.findIn K (.ref cE1) "number" = some none)
    (icE1 : PySem.W.isClsIn K cE1 = true)
    (haE1 : PySem.W.findIn K (.ref cE1) "__class__" = some (some (.builtin "object.__class__")))
    (hmE1 : PySem.W.mroIn K cE1 (.type "object") = some true)
    (yE1 : PySem.W.kitOne K (.ref cE1) (.ref cB) = some true)
    (zE1 : PySem.W.exmOne K (.ref cE1) (.ref cB) = some true)
    (q0_0 : PySem.W.exmOne K (.ref cE0) (.ref cE0) = some true)
    (q0_1 : PySem.W.exmOne K (.ref cE0) (.ref cE1) = some false)
    (q1_0 : PySem.W.exmOne K (.ref cE1) (.ref cE0) = some false)
    (q1_1 : PySem.W.exmOne K (.ref cE1) (.ref cE1) = some true)
    (G_MOST_ELEMENTS : PySem.W.nsIn K mainGlobals "MOST_ELEMENTS" = some (some (.int 10 tG_MOST_ELEMENTS)))
    (z_tuple : PySem.W.nsIn K mainGlobals "tuple" = some none)
    (z_isinstance : PySem.W.nsIn K mainGlobals "isinstance" = some none)
    (z_int : PySem.W.nsIn K mainGlobals "int" = some none)
    (z_str : PySem.W.nsIn K mainGlobals "str" = some none)
    (z_dict : PySem.W.nsIn K mainGlobals "dict" = some none)
    (z_range : PySem.W.nsIn K mainGlobals "range" = some none)
    (z_list : PySem.W.nsIn K mainGlobals "list" = some none)
    (z_abs : PySem.W.nsIn K mainGlobals "abs" = some none)
    (z_bool : PySem.W.nsIn K mainGlobals "bool" = some none)
    (z_len : PySem.W.nsIn K mainGlobals "len" = some none)
    (z_min : PySem.W.nsIn K mainGlobals "min" = some none)
    (z_max : PySem.W.nsIn K mainGlobals "max" = some none)
    (z_sum : PySem.W.nsIn K mainGlobals "sum" = some none)
    : ∃ fd : FuncData, (∀ (s : Shared) (v : Value), BindsTo s fd ⟨[v], []⟩ [("script", v)]) ∧ ∀ base : Heap, K.In base → base.Ns mainGlobals mg → FnOk P w K mg base CX0 10 fa fd ["script"] (spLaw K) := by
  have e := hfa.symm.trans (PySem.W.mg_of X G a27)
  cases e
  have F0 := fun_mk (st := s_is_integer) l0 c0 k0
  have F1 := fun_mk (st := s_is_within) l1 c1 k1
  have F2 := fun_mk (st := s_check_many) l2 c2 k2
  have F3 := fun_mk (st := s_check_counts) l3 c3 k3
  have F4 := fun_mk (st := s_check_size) l4 c4 k4
  have F5 := fun_mk (st := s_left_zeros) l5 c5 k5
  have F6 := fun_mk (st := s_right_zeros) l6 c6 k6
  have F7 := fun_mk (st := s_null) l7 c7 k7
  have F8 := fun_mk (st := s_lowest) l8 c8 k8
  have F9 := fun_mk (st := s_clock) l9 c9 k9
  have F10 := fun_mk (st := s_power_at) l10 c10 k10
  have F11 := fun_mk (st := s_monogenic) l11 c11 k11
  have F12 := fun_mk (st := s_rectangle) l12 c12 k12
  have F13 := fun_mk (st := s_law_cell) l13 c13 k13
  have F14 := fun_mk (st := s_law_box) l14 c14 k14
  have F15 := fun_mk (st := s_law_take) l15 c15 k15
  have F16 := fun_mk (st := s_law_same) l16 c16 k16
  have F17 := fun_mk (st := s_law_broken) l17 c17 k17
  have F18 := fun_mk (st := s_law_same_object) l18 c18 k18
  have F19 := fun_mk (st := s_law_copy) l19 c19 k19
  have F20 := fun_mk (st := s_law_refusals_right) l20 c20 k20
  have F21 := fun_mk (st := s_law_twice) l21 c21 k21
  have F22 := fun_mk (st := s_law_done) l22 c22 k22
  have F23 := fun_mk (st := s_law_asked) l23 c23 k23
  have F24 := fun_mk (st := s_law_item) l24 c24 k24
  have F25 := fun_mk (st := s_law_of_powers) l25 c25 k25
  have F26 := fun_mk (st := s_law_of_pairs) l26 c26 k26
  have F27 := fun_mk (st := s_law) l27 c27 k27
  have FE0 := fun_mk (st := si_InvalidNumber) liE0 ciE0 kiE0
  have FE1 := fun_mk (st := si_TooMany) liE1 ciE1 kiE1
  let T : Tx K mg := { f_is_integer := f0, d_is_integer := _, F_is_integer := F0, g_is_integer := PySem.W.mg_of X G a0, b_is_integer := F0.binds (ps := p_is_integer) (fun _ _ _ _ _ _ us hl => match us, hl with | [_], _ => rfl), f_is_within := f1, d_is_within := _, F_is_within := F1, g_is_within := PySem.W.mg_of X G a1, b_is_within := F1.binds (ps := p_is_within) (fun _ _ _ _ _ _ us hl => match us, hl with | [_, _, _], _ => rfl), f_check_many := f2, d_check_many := _, F_check_many := F2, g_check_many := PySem.W.mg_of X G a2, b_check_many := F2.binds (ps := p_check_many) (fun _ _ _ _ _ _ us hl => match us, hl with | [_], _ => rfl), f_check_counts := f3, d_check_counts := _, F_check_counts := F3, g_check_counts := PySem.W.mg_of X G a3, b_check_counts := F3.binds (ps := p_check_counts) (fun _ _ _ _ _ _ us hl => match us, hl with | [_, _], _ => rfl), f_check_size := f4, d_check_size := _, F_check_size := F4, g_check_size := PySem.W.mg_of X G a4, b_check_size := F4.binds (ps := p_check_size) (fun _ _ _ _ _ _ us hl => match us, hl with | [_], _ => rfl), f_left_zeros := f5, d_left_zeros := _, F_left_zeros := F5, g_left_zeros := PySem.W.mg_of X G a5, b_left_zeros := F5.binds (ps := p_left_zeros) (fun _ _ _ _ _ _ us hl => match us, hl with | [_], _ => rfl), kb_left_zeros := fun_kbinds F5 (fun _ _ _ _ _ _ us ws hl => by rcases us with _ | ⟨u, us⟩ <;> rcases ws with _ | ⟨u1, _ | ⟨u2, ws⟩⟩ <;> first | rfl | exact absurd hl (by simp)) (fun h1 h2 => by cases h1 with | cons _ _ => exact .nil | nil => cases h2 with | nil => exact .nil | cons a t => cases t with | nil => exact .cons a .nil | cons _ _ => exact .nil), f_right_zeros := f6, d_right_zeros := _, F_right_zeros := F6, g_right_zeros := PySem.W.mg_of X G a6, b_right_zeros := F6.binds (ps := p_right_zeros) (fun _ _ _ _ _ _ us hl => match us, hl with | [_], _ => rfl), kb_right_zeros := fun_kbinds F6 (fun _ _ _ _ _ _ us ws hl => by rcases us with _ | ⟨u, us⟩ <;> rcases ws with _ | ⟨u1, _ | ⟨u2, ws⟩⟩ <;> first | rfl | exact absurd hl (by simp)) (fun h1 h2 => by cases h1 with | cons _ _ => exact .nil | nil => cases h2 with | nil => exact .nil | cons a t => cases t with | nil => exact .cons a .nil | cons _ _ => exact .nil), f_null := f7, d_null := _, F_null := F7, g_null := PySem.W.mg_of X G a7, b_null := F7.binds (ps := p_null) (fun _ _ _ _ _ _ us hl => match us, hl with | [_], _ => rfl), kb_null := fun_kbinds F7 (fun _ _ _ _ _ _ us ws hl => by rcases us with _ | ⟨u, us⟩ <;> rcases ws with _ | ⟨u1, _ | ⟨u2, ws⟩⟩ <;> first | rfl | exact absurd hl (by simp)) (fun h1 h2 => by cases h1 with | cons _ _ => exact .nil | nil => cases h2 with | nil => exact .nil | cons a t => cases t with | nil => exact .cons a .nil | cons _ _ => exact .nil), f_lowest := f8, d_lowest := _, F_lowest := F8, g_lowest := PySem.W.mg_of X G a8, b_lowest := F8.binds (ps := p_lowest) (fun _ _ _ _ _ _ us hl => match us, hl with | [_], _ => rfl), kb_lowest := fun_kbinds F8 (fun _ _ _ _ _ _ us ws hl => by rcases us with _ | ⟨u, us⟩ <;> rcases ws with _ | ⟨u1, _ | ⟨u2, ws⟩⟩ <;> first | rfl | exact absurd hl (by simp)) (fun h1 h2 => by cases h1 with | cons _ _ => exact .nil | nil => cases h2 with | nil => exact .nil | cons a t => cases t with | nil => exact .cons a .nil | cons _ _ => exact .nil), f_clock := f9, d_clock := _, F_clock := F9, g_clock := PySem.W.mg_of X G a9, b_clock := F9.binds (ps := p_clock) (fun _ _ _ _ _ _ us hl => match us, hl with | [_], _ => rfl), kb_clock := fun_kbinds F9 (fun _ _ _ _ _ _ us ws hl => by rcases us with _ | ⟨u, us⟩ <;> rcases ws with _ | ⟨u1, _ | ⟨u2, ws⟩⟩ <;> first | rfl | exact absurd hl (by simp)) (fun h1 h2 => by cases h1 with | cons _ _ => exact .nil | nil => cases h2 with | nil => exact .nil | cons a t => cases t with | nil => exact .cons a .nil | cons _ _ => exact .nil), f_power_at := f10, d_power_at := _, F_power_at := F10, g_power_at := PySem.W.mg_of X G a10, b_power_at := F10.binds (ps := p_power_at) (fun _ _ _ _ _ _ us hl => match us, hl with | [_, _, _], _ => rfl), f_monogenic := f11, d_monogenic := _, F_monogenic := F11, g_monogenic := PySem.W.mg_of X G a11, b_monogenic := F11.binds (ps := p_monogenic) (fun _ _ _ _ _ _ us hl => match us, hl with | [_, _], _ => rfl), kb_monogenic := fun_kbinds F11 (fun _ _ _ _ _ _ us ws hl => by rcases us with _ | ⟨u, us⟩ <;> rcases ws with _ | ⟨u1, _ | ⟨u2, _ | ⟨u3, ws⟩⟩⟩ <;> first | rfl | exact absurd hl (by simp)) (fun h1 h2 => by cases h1 with | cons _ _ => exact .nil | nil => cases h2 with | nil => exact .nil | cons a t => cases t with | nil => exact .nil | cons b t => cases t with | nil => exact .cons b (.cons a .nil) | cons _ _ => exact .nil), f_rectangle := f12, d_rectangle := _, F_rectangle := F12, g_rectangle := PySem.W.mg_of X G a12, b_rectangle := F12.binds (ps := p_rectangle) (fun _ _ _ _ _ _ us hl => match us, hl with | [_, _], _ => rfl), kb_rectangle := fun_kbinds F12 (fun _ _ _ _ _ _ us ws hl => by rcases us with _ | ⟨u, us⟩ <;> rcases ws with _ | ⟨u1, _ | ⟨u2, _ | ⟨u3, ws⟩⟩⟩ <;> first | rfl | exact absurd hl (by simp)) (fun h1 h2 => by cases h1 with | cons _ _ => exact .nil | nil => cases h2 with | nil => exact .nil | cons a t => cases t with | nil => exact .nil | cons b t => cases t with | nil => exact .cons b (.cons a .nil) | cons _ _ => exact .nil), f_law_cell := f13, d_law_cell := _, F_law_cell := F13, g_law_cell := PySem.W.mg_of X G a13, b_law_cell := F13.binds (ps := p_law_cell) (fun _ _ _ _ _ _ us hl => match us, hl with | [_, _], _ => rfl), f_law_box := f14, d_law_box := _, F_law_box := F14, g_law_box := PySem.W.mg_of X G a14, b_law_box := F14.binds (ps := p_law_box) (fun _ _ _ _ _ _ us hl => match us, hl with | [_], _ => rfl), f_law_take := f15, d_law_take := _, F_law_take := F15, g_law_take := PySem.W.mg_of X G a15, b_law_take := F15.binds (ps := p_law_take) (fun _ _ _ _ _ _ us hl => match us, hl with | [_, _], _ => rfl), f_law_same := f16, d_law_same := _, F_law_same := F16, g_law_same := PySem.W.mg_of X G a16, b_law_same := F16.binds (ps := p_law_same) (fun _ _ _ _ _ _ us hl => match us, hl with | [_, _], _ => rfl), f_law_broken := f17, d_law_broken := _, F_law_broken := F17, g_law_broken := PySem.W.mg_of X G a17, b_law_broken := F17.binds (ps := p_law_broken) (fun _ _ _ _ _ _ us hl => match us, hl with | [_], _ => rfl), f_law_same_object := f18, d_law_same_object := _, F_law_same_object := F18, g_law_same_object := PySem.W.mg_of X G a18, b_law_same_object := F18.binds (ps := p_law_same_object) (fun _ _ _ _ _ _ us hl => match us, hl with | [_, _], _ => rfl), f_law_copy := f19, d_law_copy := _, F_law_copy := F19, g_law_copy := PySem.W.mg_of X G a19, b_law_copy := F19.binds (ps := p_law_copy) (fun _ _ _ _ _ _ us hl => match us, hl with | [_], _ => rfl), f_law_refusals_right := f20, d_law_refusals_right := _, F_law_refusals_right := F20, g_law_refusals_right := PySem.W.mg_of X G a20, b_law_refusals_right := F20.binds (ps := p_law_refusals_right) (fun _ _ _ _ _ _ us hl => match us, hl with | [_, _, _], _ => rfl), f_law_twice := f21, d_law_twice := _, F_law_twice := F21, g_law_twice := PySem.W.mg_of X G a21, b_law_twice := F21.binds (ps := p_law_twice) (fun _ _ _ _ _ _ us hl => match us, hl with | [_, _, _, _], _ => rfl), f_law_done := f22, d_law_done := _, F_law_done := F22, g_law_done := PySem.W.mg_of X G a22, b_law_done := F22.binds (ps := p_law_done) (fun _ _ _ _ _ _ us hl => match us, hl with | [_, _, _], _ => rfl), f_law_asked := f23, d_law_asked := _, F_law_asked := F23, g_law_asked := PySem.W.mg_of X G a23, b_law_asked := F23.binds (ps := p_law_asked) (fun _ _ _ _ _ _ us hl => match us, hl with | [_, _, _], _ => rfl), f_law_item := f24, d_law_item := _, F_law_item := F24, g_law_item := PySem.W.mg_of X G a24, b_law_item := F24.binds (ps := p_law_item) (fun _ _ _ _ _ _ us hl => match us, hl with | [_, _, _, _], _ => rfl), f_law_of_powers := f25, d_law_of_powers := _, F_law_of_powers := F25, g_law_of_powers := PySem.W.mg_of X G a25, b_law_of_powers := F25.binds (ps := p_law_of_powers) (fun _ _ _ _ _ _ us hl => match us, hl with | [_, _], _ => rfl), f_law_of_pairs := f26, d_law_of_pairs := _, F_law_of_pairs := F26, g_law_of_pairs := PySem.W.mg_of X G a26, b_law_of_pairs := F26.binds (ps := p_law_of_pairs) (fun _ _ _ _ _ _ us hl => match us, hl with | [_, _], _ => rfl), f_law := fa, d_law := _, F_law := F27, g_law := PySem.W.mg_of X G a27, b_law := F27.binds (ps := p_law) (fun _ _ _ _ _ _ us hl => match us, hl with | [_], _ => rfl), c_SemigroupError := cB, gc_SemigroupError := PySem.W.mg_of X G gB, sem := ⟨PySem.W.mg_of X G gB, sB1, sB2, sB3, sB4, sB5, sB6⟩, c_InvalidNumber := cE0, gc_InvalidNumber := PySem.W.mg_of X G gE0, i_InvalidNumber := iE0, di_InvalidNumber := _, Fi_InvalidNumber := FE0, bi_InvalidNumber := FE0.binds (ps := ["self", "given"]) (fun _ _ _ _ _ _ us hl => match us, hl with | [_, _], _ => rfl), e_InvalidNumber := { gC := PySem.W.mg_of X G gE0, oe := ⟨⟨_, _, _, _, _, _, _, _, _, _, _, _, _, _, _, xE0, rE0⟩, saE0, exE0, tyE0, kcE0⟩, iC := iE_0, tI := tiE0, xf := ⟨xaE0, xbE0, exE0, hdE0⟩, nf := nfE0, ic := icE0, ha := haE0, hn := hg1, ht := hg2, hm := hmE0 }, x_InvalidNumber_SemigroupError := zE0, y_InvalidNumber := yE0, c_TooMany := cE1, gc_TooMany := PySem.W.mg_of X G gE1, i_TooMany := iE1, di_TooMany := _, Fi_TooMany := FE1, bi_TooMany := FE1.binds (ps := ["self", "number"]) (fun _ _ _ _ _ _ us hl => match us, hl with | [_, _], _ => rfl), e_TooMany := { gC := PySem.W.mg_of X G gE1, oe := ⟨⟨_, _, _, _, _, _, _, _, _, _, _, _, _, _, _, xE1, rE1⟩, saE1, exE1, tyE1, kcE1⟩, iC := iE_1, tI := tiE1, xf := ⟨xaE1, xbE1, exE1, hdE1⟩, nf := nfE1, ic := icE1, ha := haE1, hn := hg1, ht := hg2, hm := hmE1 }, x_TooMany_SemigroupError := zE1, y_TooMany := yE1, x_InvalidNumber_InvalidNumber := q0_0, x_InvalidNumber_TooMany := q0_1, x_TooMany_InvalidNumber := q1_0, x_TooMany_TooMany := q1_1, t_MOST_ELEMENTS := tG_MOST_ELEMENTS, gg_MOST_ELEMENTS := PySem.W.mg_of X G G_MOST_ELEMENTS, m_tuple := PySem.W.mg_none_of X G z_tuple, m_isinstance := PySem.W.mg_none_of X G z_isinstance, m_int := PySem.W.mg_none_of X G z_int, m_str := PySem.W.mg_none_of X G z_str, m_dict := PySem.W.mg_none_of X G z_dict, m_range := PySem.W.mg_none_of X G z_range, m_list := PySem.W.mg_none_of X G z_list, m_abs := PySem.W.mg_none_of X G z_abs, m_bool := PySem.W.mg_none_of X G z_bool, m_len := PySem.W.mg_none_of X G z_len, m_min := PySem.W.mg_none_of X G z_min, m_max := PySem.W.mg_none_of X G z_max, m_sum := PySem.W.mg_none_of X G z_sum }
  exact ⟨_, fun s v => .of_eq rfl, fun base _ _ => ok_law T⟩
end Kx
open PySem PySem.W PyProof.Rows
set_option maxHeartbeats 0 in
theorem PySem.Challenge.cw_semigroupbench_k07_simple_semigroups_holds : PySem.Challenge.rw_semigroupbench_k07_simple_semigroups.Holds := by
  w_on; o_law; k_head; (case hw => w_witness2)
  k_fill
  refine L2.walk_of (l := PySem.Challenge.rw_semigroupbench_k07_simple_semigroups) (n := 63) (k := 10) (x := "script") (CX := fun _ => L2.CX0) (sp := fun w => Kx.spLaw _) rfl (by decide) rfl ⟨rfl, by decide, by decide⟩ (fun w h Y => PySem.W.kIn_of Y) ?F (fun _ _ a ns hl _ hS => ⟨a, ns, rfl, hl, hS, fun _ => rfl⟩) (fun _ _ _ _ _ h => h)
  case F =>
    intro w mg fa h KX G hmg
    refine' Kx.all_mk KX G hmg ?a0 ?l0 ?c0 ?k0 ?a1 ?l1 ?c1 ?k1 ?a2 ?l2 ?c2 ?k2 ?a3 ?l3 ?c3 ?k3 ?a4 ?l4 ?c4 ?k4 ?a5 ?l5 ?c5 ?k5 ?a6 ?l6 ?c6 ?k6 ?a7 ?l7 ?c7 ?k7 ?a8 ?l8 ?c8 ?k8 ?a9 ?l9 ?c9 ?k9 ?a10 ?l10 ?c10 ?k10 ?a11 ?l11 ?c11 ?k11 ?a12 ?l12 ?c12 ?k12 ?a13 ?l13 ?c13 ?k13 ?a14 ?l14 ?c14 ?k14 ?a15 ?l15 ?c15 ?k15 ?a16 ?l16 ?c16 ?k16 ?a17 ?l17 ?c17 ?k17 ?a18 ?l18 ?c18 ?k18 ?a19 ?l19 ?c19 ?k19 ?a20 ?l20 ?c20 ?k20 ?a21 ?l21 ?c21 ?k21 ?a22 ?l22 ?c22 ?k22 ?a23 ?l23 ?c23 ?k23 ?a24 ?l24 ?c24 ?k24 ?a25 ?l25 ?c25 ?k25 ?a26 ?l26 ?c26 ?k26 ?a27 ?l27 ?c27 ?k27 ?gB ?sB1 ?sB2 ?sB3 ?sB4 ?sB5 ?sB6 ?hg1 ?hg2 ?gE0 ?xE0 ?rE0 ?saE0 ?exE0 ?tyE0 ?kcE0 ?iE_0 ?tiE0 ?liE0 ?ciE0 ?kiE0 ?xaE0 ?xbE0 ?hdE0 ?nfE0 ?icE0 ?haE0 ?hmE0 ?yE0 ?zE0 ?gE1 ?xE1 ?rE1 ?saE1 ?exE1 ?tyE1 ?kcE1 ?iE_1 ?tiE1 ?liE1 ?ciE1 ?kiE1 ?xaE1 ?xbE1 ?hdE1 ?nfE1 ?icE1 ?haE1 ?hmE1 ?yE1 ?zE1 ?q0_0 ?q0_1 ?q1_0 ?q1_1 ?G_MOST_ELEMENTS ?z_tuple ?z_isinstance ?z_int ?z_str ?z_dict ?z_range ?z_list ?z_abs ?z_bool ?z_len ?z_min ?z_max ?z_sum
    (case a0 => first | k_is | rfl)
    (case l0 => first | k_is | rfl)
    (case c0 => first | k_is | rfl)
    (case k0 => first | k_is | rfl)
    (case a1 => first | k_is | rfl)
    (case l1 => first | k_is | rfl)
    (case c1 => first | k_is | rfl)
    (case k1 => first | k_is | rfl)
    (case a2 => first | k_is | rfl)
    (case l2 => first | k_is | rfl)
    (case c2 => first | k_is | rfl)
    (case k2 => first | k_is | rfl)
    (case a3 => first | k_is | rfl)
    (case l3 => first | k_is | rfl)
    (case c3 => first | k_is | rfl)
    (case k3 => first | k_is | rfl)
    (case a4 => first | k_is | rfl)
    (case l4 => first | k_is | rfl)
    (case c4 => first | k_is | rfl)
    (case k4 => first | k_is | rfl)
    (case a5 => first | k_is | rfl)
    (case l5 => first | k_is | rfl)
    (case c5 => first | k_is | rfl)
    (case k5 => first | k_is | rfl)
    (case a6 => first | k_is | rfl)
    (case l6 => first | k_is | rfl)
    (case c6 => first | k_is | rfl)
    (case k6 => first | k_is | rfl)
    (case a7 => first | k_is | rfl)
    (case l7 => first | k_is | rfl)
    (case c7 => first | k_is | rfl)
    (case k7 => first | k_is | rfl)
    (case a8 => first | k_is | rfl)
    (case l8 => first | k_is | rfl)
    (case c8 => first | k_is | rfl)
    (case k8 => first | k_is | rfl)
    (case a9 => first | k_is | rfl)
    (case l9 => first | k_is | rfl)
    (case c9 => first | k_is | rfl)
    (case k9 => first | k_is | rfl)
    (case a10 => first | k_is | rfl)
    (case l10 => first | k_is | rfl)
    (case c10 => first | k_is | rfl)
    (case k10 => first | k_is | rfl)
    (case a11 => first | k_is | rfl)
    (case l11 => first | k_is | rfl)
    (case c11 => first | k_is | rfl)
    (case k11 => first | k_is | rfl)
    (case a12 => first | k_is | rfl)
    (case l12 => first | k_is | rfl)
    (case c12 => first | k_is | rfl)
    (case k12 => first | k_is | rfl)
    (case a13 => first | k_is | rfl)
    (case l13 => first | k_is | rfl)
    (case c13 => first | k_is | rfl)
    (case k13 => first | k_is | rfl)
    (case a14 => first | k_is | rfl)
    (case l14 => first | k_is | rfl)
    (case c14 => first | k_is | rfl)
    (case k14 => first | k_is | rfl)
    (case a15 => first | k_is | rfl)
    (case l15 => first | k_is | rfl)
    (case c15 => first | k_is | rfl)
    (case k15 => first | k_is | rfl)
    (case a16 => first | k_is | rfl)
    (case l16 => first | k_is | rfl)
    (case c16 => first | k_is | rfl)
    (case k16 => first | k_is | rfl)
    (case a17 => first | k_is | rfl)
    (case l17 => first | k_is | rfl)
    (case c17 => first | k_is | rfl)
    (case k17 => first | k_is | rfl)
    (case a18 => first | k_is | rfl)
    (case l18 => first | k_is | rfl)
    (case c18 => first | k_is | rfl)
    (case k18 => first | k_is | rfl)
    (case a19 => first | k_is | rfl)
    (case l19 => first | k_is | rfl)
    (case c19 => first | k_is | rfl)
    (case k19 => first | k_is | rfl)
    (case a20 => first | k_is | rfl)
    (case l20 => first | k_is | rfl)
    (case c20 => first | k_is | rfl)
    (case k20 => first | k_is | rfl)
    (case a21 => first | k_is | rfl)
    (case l21 => first | k_is | rfl)
    (case c21 => first | k_is | rfl)
    (case k21 => first | k_is | rfl)
    (case a22 => first | k_is | rfl)
    (case l22 => first | k_is | rfl)
    (case c22 => first | k_is | rfl)
    (case k22 => first | k_is | rfl)
    (case a23 => first | k_is | rfl)
    (case l23 => first | k_is | rfl)
    (case c23 => first | k_is | rfl)
    (case k23 => first | k_is | rfl)
    (case a24 => first | k_is | rfl)
    (case l24 => first | k_is | rfl)
    (case c24 => first | k_is | rfl)
    (case k24 => first | k_is | rfl)
    (case a25 => first | k_is | rfl)
    (case l25 => first | k_is | rfl)
    (case c25 => first | k_is | rfl)
    (case k25 => first | k_is | rfl)
    (case a26 => first | k_is | rfl)
    (case l26 => first | k_is | rfl)
    (case c26 => first | k_is | rfl)
    (case k26 => first | k_is | rfl)
    (case a27 => first | k_is | rfl)
    (case l27 => first | k_is | rfl)
    (case c27 => first | k_is | rfl)
    (case k27 => first | k_is | rfl)
    (case gB => first | k_is | rfl)
    (case sB1 => first | k_is | rfl)
    (case sB2 => first | k_is | rfl)
    (case sB3 => first | k_is | rfl)
    (case sB4 => first | k_is | rfl)
    (case sB5 => first | k_is | rfl)
    (case sB6 => first | k_is | rfl)
    (case hg1 => first | k_is | rfl)
    (case hg2 => first | k_is | rfl)
    (case gE0 => first | k_is | rfl)
    (case xE0 => first | k_is | rfl)
    (case rE0 => first | k_is | rfl)
    (case saE0 => first | k_is | rfl)
    (case exE0 => first | k_is | rfl)
    (case tyE0 => first | k_is | rfl)
    (case kcE0 => first | k_is | rfl)
    (case iE_0 => first | k_is | rfl)
    (case tiE0 => first | k_is | rfl)
    (case liE0 => first | k_is | rfl)
    (case ciE0 => first | k_is | rfl)
    (case kiE0 => first | k_is | rfl)
    (case xaE0 => first | k_is | rfl)
    (case xbE0 => first | k_is | rfl)
    (case hdE0 => first | k_is | rfl)
    (case nfE0 => first | k_is | rfl)
    (case icE0 => first | k_is | rfl)
    (case haE0 => first | k_is | rfl)
    (case hmE0 => first | k_is | rfl)
    (case yE0 => first | k_is | rfl)
    (case zE0 => first | k_is | rfl)
    (case gE1 => first | k_is | rfl)
    (case xE1 => first | k_is | rfl)
    (case rE1 => first | k_is | rfl)
    (case saE1 => first | k_is | rfl)
    (case exE1 => first | k_is | rfl)
    (case tyE1 => first | k_is | rfl)
    (case kcE1 => first | k_is | rfl)
    (case iE_1 => first | k_is | rfl)
    (case tiE1 => first | k_is | rfl)
    (case liE1 => first | k_is | rfl)
    (case ciE1 => first | k_is | rfl)
    (case kiE1 => first | k_is | rfl)
    (case xaE1 => first | k_is | rfl)
    (case xbE1 => first | k_is | rfl)
    (case hdE1 => first | k_is | rfl)
    (case nfE1 => first | k_is | rfl)
    (case icE1 => first | k_is | rfl)
    (case haE1 => first | k_is | rfl)
    (case hmE1 => first | k_is | rfl)
    (case yE1 => first | k_is | rfl)
    (case zE1 => first | k_is | rfl)
    (case q0_0 => first | k_is | rfl)
    (case q0_1 => first | k_is | rfl)
    (case q1_0 => first | k_is | rfl)
    (case q1_1 => first | k_is | rfl)
    (case G_MOST_ELEMENTS => first | k_is | rfl)
    (case z_tuple => first | k_is | rfl)
    (case z_isinstance => first | k_is | rfl)
    (case z_int => first | k_is | rfl)
    (case z_str => first | k_is | rfl)
    (case z_dict => first | k_is | rfl)
    (case z_range => first | k_is | rfl)
    (case z_list => first | k_is | rfl)
    (case z_abs => first | k_is | rfl)
    (case z_bool => first | k_is | rfl)
    (case z_len => first | k_is | rfl)
    (case z_min => first | k_is | rfl)
    (case z_max => first | k_is | rfl)
    (case z_sum => first | k_is | rfl)

