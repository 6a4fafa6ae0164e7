import PyProof.Rows.All
import Wide.All
import OpenK.AllK
import Wide.FinOn
import HandS.ForMost
import HandS.ForExc
import HandS.IsInst
import HandS.TupAny
import HandS.Wide
import HandS.WideBits
import HandS.Conv
import HandS.Zip
import HandS.Star
import HandS.DictTup
import HandS.Defaults
import PySem.Challenge.RW_hindprice_k70_even_weights_and_factors
set_option Elab.async false
set_option linter.all false
set_option maxRecDepth 100000
set_option maxHeartbeats 2000000
/-! Kern1: plain data, how a value reads as data, what a body's slots hold, the ends of an expression. -/
namespace G
open PySem PySem.Spec PyProof.Rows L2

/-- data: what a value is, all the way in -/
inductive Dt where
  | non | bl (b : Bool) | int (i : Int) | str (x : Str) | lst (xs : List Dt) | tup (xs : List Dt)
  | scr (ns : List Int) | dct (ks vs : List Dt) | obj (c : Str) (ks : List Str) (vs : List Dt)
  deriving Inhabited

def keyD : Key → Dt
  | .inl i => .int i
  | .inr x => .str x

/-- the written part, and the module's names -/
structure Wd where
  K : PySem.W.Frag
  mg : Str → Option Value

mutual
def RdD (W : Wd) (H : Hp) : Dt → V → Prop
  | .non, v => v = .non
  | .bl b, v => v = .bl b
  | .int i, v => v = .int i
  | .str x, v => v = .str x
  | .lst ds, v => ∃ a vs, v = .ref a ∧ H a = some (.lst vs) ∧ RdL W H ds vs
  | .scr ns, v => ∃ a, v = .ref a ∧ SqL W.K H a (ns.map V.int)
  | .tup ds, v => ∃ a vs, v = .ref a ∧ SqT W.K H a vs ∧ RdL W H ds vs
  | .dct ks ds, v => ∃ a, v = .ref a ∧
      ((∃ (kk : List Key) (vs : List V), H a = some (.dK (kk.zip vs)) ∧ kk.length = vs.length ∧ ks = kk.map keyD ∧ RdL W H ds vs) ∨
       (∃ (kk : List (List Key)) (vs : List V), H a = some (.dT (kk.zip vs)) ∧ kk.length = vs.length ∧ ks = kk.map (fun k => .tup (k.map keyD)) ∧ RdL W H ds vs))
  | .obj c ks ds, v => ∃ a C dx vs, v = .ref a ∧ W.mg c = some (.ref C) ∧ H a = some (.ins C dx (ks.zip vs)) ∧ ks.length = vs.length ∧ RdL W H ds vs
def RdL (W : Wd) (H : Hp) : List Dt → List V → Prop
  | [], vs => vs = []
  | d :: ds, vs => ∃ v r, vs = v :: r ∧ RdD W H d v ∧ RdL W H ds r
end

section
variable {W : Wd} {H H' : Hp}
theorem same_l {a : Addr} {xs : List V} {K : PySem.W.Frag} (e : Same H H') (h : SqL K H a xs) : SqL K H' a xs := e.seq h
theorem same_rd {a : Addr} {u : HO} (e : Same H H') (h : L2.Rd H a u) : L2.Rd H' a u := by
  rcases h with h | ⟨o, h⟩
  · exact .inl (e _ _ h)
  · exact .inr ⟨o, e _ _ h⟩
theorem same_t {a : Addr} {xs : List V} {K : PySem.W.Frag} (e : Same H H') (h : SqT K H a xs) : SqT K H' a xs := by
  rcases h with h | h
  · exact .inl (same_rd e h)
  · exact .inr h
mutual
theorem RdD.mono (e : Same H H') : ∀ (d : Dt) (v : V), RdD W H d v → RdD W H' d v
  | .non, _, h => h
  | .bl _, _, h => h
  | .int _, _, h => h
  | .str _, _, h => h
  | .lst ds, v, h => by
    obtain ⟨a, vs, h1, h2, h3⟩ := h
    exact ⟨a, vs, h1, e _ _ h2, RdL.mono e ds vs h3⟩
  | .scr ns, v, h => by
    obtain ⟨a, h1, h2⟩ := h
    exact ⟨a, h1, same_l e h2⟩
  | .tup ds, v, h => by
    obtain ⟨a, vs, h1, h2, h3⟩ := h
    exact ⟨a, vs, h1, same_t e h2, RdL.mono e ds vs h3⟩
  | .dct ks ds, v, h => by
    obtain ⟨a, h0, h⟩ := h
    refine ⟨a, h0, ?_⟩
    rcases h with ⟨kk, vs, h1, h2, h3, h4⟩ | ⟨kk, vs, h1, h2, h3, h4⟩
    · exact .inl ⟨kk, vs, e _ _ h1, h2, h3, RdL.mono e ds vs h4⟩
    · exact .inr ⟨kk, vs, e _ _ h1, h2, h3, RdL.mono e ds vs h4⟩
  | .obj c ks ds, v, h => by
    obtain ⟨a, C, dx, vs, h1, h2, h3, h4, h5⟩ := h
    exact ⟨a, C, dx, vs, h1, h2, e _ _ h3, h4, RdL.mono e ds vs h5⟩
theorem RdL.mono (e : Same H H') : ∀ (ds : List Dt) (vs : List V), RdL W H ds vs → RdL W H' ds vs
  | [], _, h => h
  | d :: ds, vs, h => by
    obtain ⟨v, r, h1, h2, h3⟩ := h
    exact ⟨v, r, h1, RdD.mono e d v h2, RdL.mono e ds r h3⟩
end
theorem RdL.nil : RdL W H [] [] := rfl
theorem RdL.cons {d : Dt} {v : V} {ds : List Dt} {vs : List V} (h : RdD W H d v) (t : RdL W H ds vs) : RdL W H (d :: ds) (v :: vs) := ⟨v, vs, rfl, h, t⟩
theorem RdL.len : ∀ {ds : List Dt} {vs : List V}, RdL W H ds vs → ds.length = vs.length
  | [], vs, h => by cases (show vs = [] from h); rfl
  | d :: ds, vs, h => by
    obtain ⟨v, r, rfl, _, h3⟩ := h
    rw [List.length_cons, List.length_cons, RdL.len h3]
theorem RdL.get : ∀ {ds : List Dt} {vs : List V} {i : Nat} {d : Dt}, RdL W H ds vs → ds[i]? = some d → ∃ v, vs[i]? = some v ∧ RdD W H d v
  | [], vs, i, d, h, e => by simp at e
  | d :: ds, vs, 0, d', h, e => by
    obtain ⟨v, r, rfl, h2, _⟩ := h
    cases (show some d = some d' from e)
    exact ⟨v, rfl, h2⟩
  | d :: ds, vs, i + 1, d', h, e => by
    obtain ⟨v, r, rfl, _, h3⟩ := h
    exact RdL.get (i := i) h3 (by simpa using e)
theorem RdL.getV : ∀ {ds : List Dt} {vs : List V} {i : Nat} {v : V}, RdL W H ds vs → vs[i]? = some v → ∃ d, ds[i]? = some d ∧ RdD W H d v
  | [], vs, i, v, h, e => by cases (show vs = [] from h); simp at e
  | d :: ds, vs, 0, v', h, e => by
    obtain ⟨v, r, rfl, h2, _⟩ := h
    cases (show some v = some v' from e)
    exact ⟨d, rfl, h2⟩
  | d :: ds, vs, i + 1, v', h, e => by
    obtain ⟨v, r, rfl, _, h3⟩ := h
    exact RdL.getV (i := i) h3 (by simpa using e)
theorem RdL.append : ∀ {ds es : List Dt} {vs ws : List V}, RdL W H ds vs → RdL W H es ws → RdL W H (ds ++ es) (vs ++ ws)
  | [], _, _, _, h, t => by cases (show _ = [] from h); exact t
  | d :: ds, _, _, _, h, t => by
    obtain ⟨v, r, rfl, h2, h3⟩ := h
    exact ⟨v, r ++ _, rfl, h2, RdL.append h3 t⟩
theorem RdL.take : ∀ {ds : List Dt} {vs : List V} (n : Nat), RdL W H ds vs → RdL W H (ds.take n) (vs.take n)
  | _, _, 0, _ => rfl
  | [], _, n + 1, h => by cases (show _ = [] from h); rfl
  | d :: ds, _, n + 1, h => by
    obtain ⟨v, r, rfl, h2, h3⟩ := h
    exact ⟨v, r.take n, rfl, h2, RdL.take n h3⟩
theorem RdL.drop : ∀ {ds : List Dt} {vs : List V} (n : Nat), RdL W H ds vs → RdL W H (ds.drop n) (vs.drop n)
  | _, _, 0, h => h
  | [], _, n + 1, h => by cases (show _ = [] from h); rfl
  | d :: ds, _, n + 1, h => by
    obtain ⟨v, r, rfl, _, h3⟩ := h
    exact RdL.drop n h3
theorem RdL.set {d : Dt} {v : V} (hd : RdD W H d v) : ∀ {ds : List Dt} {vs : List V} (n : Nat), RdL W H ds vs → RdL W H (ds.set n d) (vs.set n v)
  | [], _, _, h => by cases (show _ = [] from h); rfl
  | e :: ds, _, 0, h => by
    obtain ⟨u, r, rfl, _, h3⟩ := h
    exact ⟨v, r, rfl, hd, h3⟩
  | e :: ds, _, n + 1, h => by
    obtain ⟨u, r, rfl, h2, h3⟩ := h
    exact ⟨u, r.set n v, rfl, h2, RdL.set hd n h3⟩
theorem RdL.ints : ∀ {ns : List Int} {vs : List V}, RdL W H (ns.map .int) vs → vs = ns.map V.int
  | [], _, h => h
  | n :: ns, _, h => by
    obtain ⟨v, r, rfl, h2, h3⟩ := h
    rw [show v = V.int n from h2, RdL.ints h3]
    rfl
theorem RdL.ofInts : ∀ (ns : List Int), RdL W H (ns.map .int) (ns.map V.int)
  | [] => rfl
  | n :: ns => ⟨_, _, rfl, rfl, RdL.ofInts ns⟩
end

/-! ### slots, results -/
/-- what a slot holds: nothing that is known, data, a list or dict that this body alone holds, one that the caller lent -/
inductive Slot where
  | un | imm (d : Dt) | own (d : Dt) | io (d : Dt)
  deriving Inhabited
abbrev Env' := List Slot
/-- a value: data, or a new list or dict that nobody else holds -/
inductive Val where
  | imm (d : Dt) | fresh (d : Dt)
def Val.d : Val → Dt
  | .imm d => d
  | .fresh d => d
structure Exn where
  cls : Str
  fs : List (Str × Dt)
inductive Res (α : Type) where
  | ok (a : α) | err (x : Exn) | bad
def Res.bind {α β : Type} : Res α → (α → Res β) → Res β
  | .ok a, f => f a
  | .err x, _ => .err x
  | .bad, _ => .bad
def Res.map {α β : Type} (f : α → β) (r : Res α) : Res β := r.bind fun a => .ok (f a)
@[simp] theorem Res.bind_ok {α β : Type} (a : α) (f : α → Res β) : (Res.ok a).bind f = f a := rfl
@[simp] theorem Res.bind_err {α β : Type} (x : Exn) (f : α → Res β) : (Res.err x : Res α).bind f = .err x := rfl
@[simp] theorem Res.bind_bad {α β : Type} (f : α → Res β) : (Res.bad : Res α).bind f = .bad := rfl
@[simp] theorem Res.map_ok {α β : Type} (a : α) (f : α → β) : (Res.ok a).map f = .ok (f a) := rfl
@[simp] theorem Res.map_err {α β : Type} (x : Exn) (f : α → β) : (Res.err x : Res α).map f = .err x := rfl
@[simp] theorem Res.map_bad {α β : Type} (f : α → β) : (Res.bad : Res α).map f = .bad := rfl

/-- what stands at an address that is owned -/
def OwnAt (W : Wd) (Hb H : Hp) (a : Addr) : Dt → Prop
  | .lst ds => ∃ vs, H a = some (.lst vs) ∧ RdL W Hb ds vs
  | .dct ks ds => (∃ (kk : List Key) (vs : List V), H a = some (.dK (kk.zip vs)) ∧ kk.length = vs.length ∧ ks = kk.map keyD ∧ RdL W Hb ds vs) ∨
       (∃ (kk : List (List Key)) (vs : List V), H a = some (.dT (kk.zip vs)) ∧ kk.length = vs.length ∧ ks = kk.map (fun k => .tup (k.map keyD)) ∧ RdL W Hb ds vs)
  | _ => False
theorem OwnAt.there {W : Wd} {Hb H : Hp} {a : Addr} : ∀ {d : Dt}, OwnAt W Hb H a d → ∃ o, H a = some o
  | .lst _, h => ⟨_, h.choose_spec.1⟩
  | .dct _ _, h => by
    rcases h with ⟨_, _, h, _⟩ | ⟨_, _, h, _⟩
    · exact ⟨_, h⟩
    · exact ⟨_, h⟩
  | .non, h => h.elim
  | .bl _, h => h.elim
  | .int _, h => h.elim
  | .str _, h => h.elim
  | .tup _, h => h.elim
  | .scr _, h => h.elim
  | .obj _ _ _, h => h.elim
/-- the base may grow, the object stands -/
theorem OwnAt.move {W : Wd} {Hb Hb' H H' : Hp} {a : Addr} (e : Same Hb Hb') (k : ∀ o, H a = some o → H' a = some o) : ∀ {d : Dt}, OwnAt W Hb H a d → OwnAt W Hb' H' a d
  | .lst _, h => by
    obtain ⟨vs, h1, h2⟩ := h
    exact ⟨vs, k _ h1, RdL.mono e _ _ h2⟩
  | .dct _ _, h => by
    rcases h with ⟨kk, vs, h1, h2, h3, h4⟩ | ⟨kk, vs, h1, h2, h3, h4⟩
    · exact .inl ⟨kk, vs, k _ h1, h2, h3, RdL.mono e _ _ h4⟩
    · exact .inr ⟨kk, vs, k _ h1, h2, h3, RdL.mono e _ _ h4⟩
  | .non, h => h.elim
  | .bl _, h => h.elim
  | .int _, h => h.elim
  | .str _, h => h.elim
  | .tup _, h => h.elim
  | .scr _, h => h.elim
  | .obj _ _ _, h => h.elim
/-- given up, it is data -/
theorem OwnAt.frozen {W : Wd} {Hb H : Hp} {a : Addr} {o : HO} (hn : Hb a = none) (ho : H a = some o) : ∀ {d : Dt}, OwnAt W Hb H a d → RdD W (upd Hb a o) d (.ref a)
  | .lst _, h => by
    obtain ⟨vs, h1, h2⟩ := h
    rw [ho] at h1
    cases h1
    exact ⟨a, vs, rfl, upd_same, RdL.mono (fun b x e => by rw [upd_ne (ne_of_none e hn)]; exact e) _ _ h2⟩
  | .dct _ _, h => by
    rcases h with ⟨kk, vs, h1, h2, h3, h4⟩ | ⟨kk, vs, h1, h2, h3, h4⟩
    · rw [ho] at h1
      cases h1
      exact ⟨a, rfl, .inl ⟨kk, vs, upd_same, h2, h3, RdL.mono (fun b x e => by rw [upd_ne (ne_of_none e hn)]; exact e) _ _ h4⟩⟩
    · rw [ho] at h1
      cases h1
      exact ⟨a, rfl, .inr ⟨kk, vs, upd_same, h2, h3, RdL.mono (fun b x e => by rw [upd_ne (ne_of_none e hn)]; exact e) _ _ h4⟩⟩
  | .non, h => h.elim
  | .bl _, h => h.elim
  | .int _, h => h.elim
  | .str _, h => h.elim
  | .tup _, h => h.elim
  | .scr _, h => h.elim
  | .obj _ _ _, h => h.elim

def Owns (env : Env') (i : Nat) (d : Dt) : Prop := env[i]? = some (.own d) ∨ env[i]? = some (.io d)
/-- heaps: foreign things and the base are kept, and apart -/
structure Bse (Fm Hb H : Hp) : Prop where
  hb : Same Hb H
  fm : Same Fm H
  dj : ∀ a o, Fm a = some o → Hb a = none
/-- the slots are as env tells -/
structure Agr (W : Wd) (Fm Hb : Hp) (ia : Option Addr) (env : Env') (σ : L2.St) (H : Hp) : Prop where
  bs : Bse Fm Hb H
  len : env.length = σ.length
  imm : ∀ (i : Nat) (d : Dt), env[i]? = some (Slot.imm d) → ∃ v, σ[i]? = some (some v) ∧ RdD W Hb d v
  own : ∀ (i : Nat) (d : Dt), Owns env i d → ∃ a, σ[i]? = some (some (.ref a)) ∧ Hb a = none ∧ Fm a = none ∧ OwnAt W Hb H a d
  inj : ∀ (i j : Nat) (d d' : Dt) (a : Addr), Owns env i d → Owns env j d' → σ[i]? = some (some (.ref a)) → σ[j]? = some (some (.ref a)) → i = j
  io : ∀ (i : Nat) (d : Dt), env[i]? = some (Slot.io d) → i = 0 ∧ ∃ a, ia = some a ∧ σ[i]? = some (some (.ref a))
  ioh : ∀ (a : Addr), ia = some a → ∃ d, env[0]? = some (Slot.io d)

section
variable {W : Wd} {Fm Hb Hb' H H' : Hp} {ia : Option Addr} {env : Env'} {σ : L2.St}
theorem Bse.free (b : Bse Fm Hb H) {p : Addr} (h : H p = none) : Hb p = none ∧ Fm p = none := ⟨b.hb.free h, b.fm.free h⟩
/-- a new object is laid that is data from now on -/
theorem Bse.lay (b : Bse Fm Hb H) {p : Addr} {o : HO} (h : H p = none) : Bse Fm (upd Hb p o) (upd H p o) where
  hb := fun a u e => by
    by_cases ha : a = p
    · subst ha
      rw [upd_same] at e ⊢
      exact e
    · rw [upd_ne ha] at e ⊢
      exact b.hb a u e
  fm := fun a u e => by
    rw [upd_ne (ne_of_none (b.fm a u e) h)]
    exact b.fm a u e
  dj := fun a u e => by
    rw [upd_ne (ne_of_none (b.fm a u e) h)]
    exact b.dj a u e
theorem same_lay {p : Addr} {o : HO} (h : Hb p = none) : Same Hb (upd Hb p o) := fun b x e => by
  rw [upd_ne (ne_of_none e h)]
  exact e
/-- the same, owned for now -/
theorem Bse.put (b : Bse Fm Hb H) {p : Addr} {o : HO} (h1 : Hb p = none) (h2 : Fm p = none) : Bse Fm Hb (upd H p o) where
  hb := fun a u e => by
    rw [upd_ne (ne_of_none e h1)]
    exact b.hb a u e
  fm := fun a u e => by
    rw [upd_ne (ne_of_none e h2)]
    exact b.fm a u e
  dj := b.dj
/-- what is owned becomes data -/
theorem Bse.freeze (b : Bse Fm Hb H) {p : Addr} {o : HO} (h2 : Fm p = none) (ho : H p = some o) : Bse Fm (upd Hb p o) H where
  hb := fun a u e => by
    by_cases ha : a = p
    · subst ha
      rw [upd_same] at e
      rw [← e]
      exact ho
    · rw [upd_ne ha] at e
      exact b.hb a u e
  fm := b.fm
  dj := fun a u e => by
    rw [upd_ne (ne_of_none e h2)]
    exact b.dj a u e

theorem Agr.lay (A : Agr W Fm Hb ia env σ H) {p : Addr} {o : HO} (h : H p = none) : Agr W Fm (upd Hb p o) ia env σ (upd H p o) where
  bs := A.bs.lay h
  len := A.len
  imm := fun i d e => by
    obtain ⟨v, h1, h2⟩ := A.imm i d e
    exact ⟨v, h1, RdD.mono (same_lay (A.bs.hb.free h)) _ _ h2⟩
  own := fun i d e => by
    obtain ⟨a, h1, h2, h3, h4⟩ := A.own i d e
    obtain ⟨o', ho'⟩ := h4.there
    have ne : a ≠ p := ne_of_none ho' h
    exact ⟨a, h1, by rw [upd_ne ne]; exact h2, h3, h4.move (same_lay (A.bs.hb.free h)) fun u e => by rw [upd_ne ne]; exact e⟩
  inj := A.inj
  io := A.io
  ioh := A.ioh
/-- any other thing is laid, apart from all -/
theorem Agr.put (A : Agr W Fm Hb ia env σ H) {p : Addr} {o : HO} (h1 : Hb p = none) (h2 : Fm p = none) (h3 : ∀ i d, Owns env i d → σ[i]? ≠ some (some (.ref p))) : Agr W Fm Hb ia env σ (upd H p o) where
  bs := A.bs.put h1 h2
  len := A.len
  imm := A.imm
  own := fun i d e => by
    obtain ⟨a, g1, g2, g3, g4⟩ := A.own i d e
    have ne : a ≠ p := fun z => h3 i d e (by rw [← z]; exact g1)
    exact ⟨a, g1, g2, g3, g4.move (Same.refl _) fun u e => by rw [upd_ne ne]; exact e⟩
  inj := A.inj
  io := A.io
  ioh := A.ioh
theorem Agr.apart (A : Agr W Fm Hb ia env σ H) {p : Addr} (h : H p = none) : ∀ i d, Owns env i d → σ[i]? ≠ some (some (.ref p)) := fun i d e z => by
  obtain ⟨a, g1, g2, g3, g4⟩ := A.own i d e
  rw [g1] at z
  cases z
  obtain ⟨o, ho⟩ := g4.there
  rw [h] at ho
  cases ho
/-- what is apart becomes data -/
theorem Agr.freeze (A : Agr W Fm Hb ia env σ H) {p : Addr} {o : HO} (h1 : Hb p = none) (h2 : Fm p = none) (ho : H p = some o) (h3 : ∀ i d, Owns env i d → σ[i]? ≠ some (some (.ref p))) : Agr W Fm (upd Hb p o) ia env σ H where
  bs := A.bs.freeze h2 ho
  len := A.len
  imm := fun i d e => by
    obtain ⟨v, g1, g2⟩ := A.imm i d e
    exact ⟨v, g1, RdD.mono (same_lay h1) _ _ g2⟩
  own := fun i d e => by
    obtain ⟨a, g1, g2, g3, g4⟩ := A.own i d e
    have ne : a ≠ p := fun z => h3 i d e (by rw [← z]; exact g1)
    exact ⟨a, g1, by rw [upd_ne ne]; exact g2, g3, g4.move (same_lay h1) fun u e => e⟩
  inj := A.inj
  io := A.io
  ioh := A.ioh
theorem get_set {α : Type} {l : List α} {i j : Nat} {x y : α} (h : (l.set i x)[j]? = some y) : (i = j ∧ y = x ∧ i < l.length) ∨ (i ≠ j ∧ l[j]? = some y) := by
  by_cases e : i = j
  · subst e
    by_cases hl : i < l.length
    · rw [List.getElem?_set_self hl] at h
      exact .inl ⟨rfl, (Option.some.inj h).symm, hl⟩
    · rw [List.getElem?_eq_none (by rw [List.length_set]; omega)] at h
      cases h
  · rw [List.getElem?_set_ne e] at h
    exact .inr ⟨e, h⟩
theorem Owns.set_ne {i j : Nat} {s : Slot} {d : Dt} (h : Owns (env.set i s) j d) (hs : ∀ d, s ≠ .own d ∧ s ≠ .io d) : i ≠ j ∧ Owns env j d := by
  rcases h with h | h
  · rcases get_set h with ⟨_, e, _⟩ | ⟨ne, e⟩
    · exact absurd e.symm (hs d).1
    · exact ⟨ne, .inl e⟩
  · rcases get_set h with ⟨_, e, _⟩ | ⟨ne, e⟩
    · exact absurd e.symm (hs d).2
    · exact ⟨ne, .inr e⟩
/-- data is stored in a slot that is not lent -/
theorem Agr.setImm (A : Agr W Fm Hb ia env σ H) {i : Nat} {d : Dt} {v : V} (hi : i < env.length) (hn : ∀ e, env[i]? ≠ some (.io e)) (r : RdD W Hb d v) : Agr W Fm Hb ia (env.set i (.imm d)) (σ.set i (some v)) H where
  bs := A.bs
  len := by rw [List.length_set, List.length_set]; exact A.len
  imm := fun j e h => by
    rcases get_set h with ⟨rfl, q, hl⟩ | ⟨ne, q⟩
    · cases q
      exact ⟨v, List.getElem?_set_self (by rw [← A.len]; exact hl), r⟩
    · obtain ⟨u, g1, g2⟩ := A.imm j e q
      exact ⟨u, by rw [List.getElem?_set_ne ne]; exact g1, g2⟩
  own := fun j e h => by
    obtain ⟨ne, h⟩ := h.set_ne fun d => ⟨fun z => (nomatch z), fun z => (nomatch z)⟩
    obtain ⟨a, g1, g2⟩ := A.own j e h
    exact ⟨a, by rw [List.getElem?_set_ne ne]; exact g1, g2⟩
  inj := fun j k d d' a h1 h2 e1 e2 => by
    obtain ⟨n1, h1⟩ := h1.set_ne fun d => ⟨fun z => (nomatch z), fun z => (nomatch z)⟩
    obtain ⟨n2, h2⟩ := h2.set_ne fun d => ⟨fun z => (nomatch z), fun z => (nomatch z)⟩
    rw [List.getElem?_set_ne n1] at e1
    rw [List.getElem?_set_ne n2] at e2
    exact A.inj j k d d' a h1 h2 e1 e2
  io := fun j e h => by
    rcases get_set h with ⟨_, q, _⟩ | ⟨ne, q⟩
    · cases q
    · obtain ⟨z, a, g1, g2⟩ := A.io j e q
      exact ⟨z, a, g1, by rw [List.getElem?_set_ne ne]; exact g2⟩
  ioh := fun a e => by
    obtain ⟨d', h⟩ := A.ioh a e
    refine ⟨d', ?_⟩
    rw [List.getElem?_set_ne]
    · exact h
    · intro z
      subst z
      exact hn d' h
/-- the content of an owned slot is new, or it is given up: any change of one slot's word that own, io of the others bear -/
theorem Agr.setOwn (A : Agr W Fm Hb ia env σ H) {i : Nat} {d : Dt} {p : Addr} (hi : i < env.length) (hn : ∀ e, env[i]? ≠ some (.io e)) (h1 : Hb p = none) (h2 : Fm p = none) (r : OwnAt W Hb H p d)
    (h3 : ∀ i d, Owns env i d → σ[i]? ≠ some (some (.ref p))) : Agr W Fm Hb ia (env.set i (.own d)) (σ.set i (some (.ref p))) H where
  bs := A.bs
  len := by rw [List.length_set, List.length_set]; exact A.len
  imm := fun j e h => by
    rcases get_set h with ⟨_, q, _⟩ | ⟨ne, q⟩
    · cases q
    · obtain ⟨u, g1, g2⟩ := A.imm j e q
      exact ⟨u, by rw [List.getElem?_set_ne ne]; exact g1, g2⟩
  own := fun j e h => by
    rcases h with h | h
    · rcases get_set h with ⟨rfl, q, hl⟩ | ⟨ne, q⟩
      · cases q
        exact ⟨p, List.getElem?_set_self (by rw [← A.len]; exact hl), h1, h2, r⟩
      · obtain ⟨a, g1, g2⟩ := A.own j e (.inl q)
        exact ⟨a, by rw [List.getElem?_set_ne ne]; exact g1, g2⟩
    · rcases get_set h with ⟨_, q, _⟩ | ⟨ne, q⟩
      · cases q
      · obtain ⟨a, g1, g2⟩ := A.own j e (.inr q)
        exact ⟨a, by rw [List.getElem?_set_ne ne]; exact g1, g2⟩
  inj := fun j k e e' a g1 g2 e1 e2 => by
    have key : ∀ j e, Owns (env.set i (.own d)) j e → j = i ∨ (i ≠ j ∧ Owns env j e) := fun j e g => by
      rcases g with g | g
      · rcases get_set g with ⟨z, _, _⟩ | ⟨ne, q⟩
        · exact .inl z.symm
        · exact .inr ⟨ne, .inl q⟩
      · rcases get_set g with ⟨z, _, _⟩ | ⟨ne, q⟩
        · exact .inl z.symm
        · exact .inr ⟨ne, .inr q⟩
    have hi' : i < σ.length := by rw [← A.len]; exact hi
    rcases key j e g1 with rfl | ⟨n1, o1⟩
    · rcases key k e' g2 with rfl | ⟨n2, o2⟩
      · rfl
      · rw [List.getElem?_set_self hi'] at e1
        rw [List.getElem?_set_ne n2] at e2
        cases e1
        exact absurd e2 (h3 k e' o2)
    · rw [List.getElem?_set_ne n1] at e1
      rcases key k e' g2 with rfl | ⟨n2, o2⟩
      · rw [List.getElem?_set_self hi'] at e2
        cases e2
        exact absurd e1 (h3 j e o1)
      · rw [List.getElem?_set_ne n2] at e2
        exact A.inj j k e e' a o1 o2 e1 e2
  io := fun j e h => by
    rcases get_set h with ⟨_, q, _⟩ | ⟨ne, q⟩
    · cases q
    · obtain ⟨z, a, g1, g2⟩ := A.io j e q
      exact ⟨z, a, g1, by rw [List.getElem?_set_ne ne]; exact g2⟩
  ioh := fun a e => by
    obtain ⟨d', h⟩ := A.ioh a e
    refine ⟨d', ?_⟩
    rw [List.getElem?_set_ne]
    · exact h
    · intro z
      subst z
      exact hn d' h
/-- a slot is forgotten -/
theorem Agr.forget (A : Agr W Fm Hb ia env σ H) {i : Nat} (hn : ∀ e, env[i]? ≠ some (.io e)) {o : Option V} : Agr W Fm Hb ia (env.set i .un) (σ.set i o) H where
  bs := A.bs
  len := by rw [List.length_set, List.length_set]; exact A.len
  imm := fun j e h => by
    rcases get_set h with ⟨_, q, _⟩ | ⟨ne, q⟩
    · cases q
    · obtain ⟨u, g1, g2⟩ := A.imm j e q
      exact ⟨u, by rw [List.getElem?_set_ne ne]; exact g1, g2⟩
  own := fun j e h => by
    obtain ⟨ne, h⟩ := h.set_ne fun d => ⟨fun z => (nomatch z), fun z => (nomatch z)⟩
    obtain ⟨a, g1, g2⟩ := A.own j e h
    exact ⟨a, by rw [List.getElem?_set_ne ne]; exact g1, g2⟩
  inj := fun j k d d' a h1 h2 e1 e2 => by
    obtain ⟨n1, h1⟩ := h1.set_ne fun d => ⟨fun z => (nomatch z), fun z => (nomatch z)⟩
    obtain ⟨n2, h2⟩ := h2.set_ne fun d => ⟨fun z => (nomatch z), fun z => (nomatch z)⟩
    rw [List.getElem?_set_ne n1] at e1
    rw [List.getElem?_set_ne n2] at e2
    exact A.inj j k d d' a h1 h2 e1 e2
  io := fun j e h => by
    rcases get_set h with ⟨_, q, _⟩ | ⟨ne, q⟩
    · cases q
    · obtain ⟨z, a, g1, g2⟩ := A.io j e q
      exact ⟨z, a, g1, by rw [List.getElem?_set_ne ne]; exact g2⟩
  ioh := fun a e => by
    obtain ⟨d', h⟩ := A.ioh a e
    refine ⟨d', ?_⟩
    rw [List.getElem?_set_ne]
    · exact h
    · intro z
      subst z
      exact hn d' h
theorem set_self {α : Type} : ∀ {l : List α} {i : Nat} {x : α}, l[i]? = some x → l.set i x = l
  | [], _, _, h => by simp at h
  | a :: l, 0, x, h => by cases (show some a = some x from h); rfl
  | a :: l, i + 1, x, h => by
    show a :: l.set i x = a :: l
    rw [set_self (l := l) (by simpa using h)]
/-- an owned slot's word is given up in place: the object is data from now on -/
theorem Agr.give (A : Agr W Fm Hb ia env σ H) {i : Nat} {d : Dt} (h : env[i]? = some (.own d)) :
    ∃ a Hb', σ[i]? = some (some (.ref a)) ∧ Same Hb Hb' ∧ Agr W Fm Hb' ia (env.set i (.imm d)) σ H ∧ RdD W Hb' d (.ref a) := by
  obtain ⟨a, g1, g2, g3, g4⟩ := A.own i d (.inl h)
  obtain ⟨o, ho⟩ := g4.there
  have A1 : Agr W Fm Hb ia (env.set i .un) (σ.set i (some (.ref a))) H := A.forget (fun e z => by rw [h] at z; cases z)
  rw [set_self g1] at A1
  have A2 := A1.freeze g2 g3 ho fun j e oj z => by
    obtain ⟨ne, oj⟩ := oj.set_ne fun d => ⟨fun z => (nomatch z), fun z => (nomatch z)⟩
    exact ne (A.inj i j d e a (.inl h) oj g1 z)
  have r := g4.frozen g2 ho
  have hl : i < env.length := (List.getElem?_eq_some_iff.mp h).1
  have A3 := A2.setImm (i := i) (d := d) (v := .ref a) (by rw [List.length_set]; exact hl) (fun e z => by rw [List.getElem?_set_self hl] at z; cases z) r
  rw [set_self g1, List.set_set] at A3
  exact ⟨a, upd Hb a o, g1, same_lay g2, A3, r⟩
/-- .. or handed on as it is, the slot forgotten -/
theorem Agr.hand (A : Agr W Fm Hb ia env σ H) {i : Nat} {d : Dt} (h : env[i]? = some (.own d)) :
    ∃ a, σ[i]? = some (some (.ref a)) ∧ Hb a = none ∧ Fm a = none ∧ OwnAt W Hb H a d ∧ Agr W Fm Hb ia (env.set i .un) σ H ∧ ∀ j e, Owns (env.set i .un) j e → σ[j]? ≠ some (some (.ref a)) := by
  obtain ⟨a, g1, g2, g3, g4⟩ := A.own i d (.inl h)
  have A1 : Agr W Fm Hb ia (env.set i .un) (σ.set i (some (.ref a))) H := A.forget (fun e z => by rw [h] at z; cases z)
  rw [set_self g1] at A1
  refine ⟨a, g1, g2, g3, g4, A1, fun j e oj z => ?_⟩
  obtain ⟨ne, oj⟩ := oj.set_ne fun d => ⟨fun z => (nomatch z), fun z => (nomatch z)⟩
  exact ne (A.inj i j d e a (.inl h) oj g1 z)
/-- the object of an owned (or lent) slot is changed -/
theorem Agr.write (A : Agr W Fm Hb ia env σ H) {i : Nat} {d d' : Dt} {a : Addr} {o : HO} {s : Slot} (h : Owns env i d) (hs : (env[i]? = some (.own d) ∧ s = .own d') ∨ (env[i]? = some (.io d) ∧ s = .io d'))
    (ha : σ[i]? = some (some (.ref a))) (r : OwnAt W Hb (upd H a o) a d') : Agr W Fm Hb ia (env.set i s) σ (upd H a o) := by
  obtain ⟨a', g1, g2, g3, g4⟩ := A.own i d h
  rw [ha] at g1
  cases g1
  have hl : i < env.length := by
    rcases h with h | h <;> exact (List.getElem?_eq_some_iff.mp h).1
  have key : ∀ j e, Owns (env.set i s) j e → (i = j ∧ e = d') ∨ (i ≠ j ∧ Owns env j e) := fun j e g => by
    rcases g with g | g
    · rcases get_set g with ⟨z, q, _⟩ | ⟨ne, q⟩
      · rcases hs with ⟨_, rfl⟩ | ⟨_, rfl⟩
        · cases q; exact .inl ⟨z, rfl⟩
        · cases q
      · exact .inr ⟨ne, .inl q⟩
    · rcases get_set g with ⟨z, q, _⟩ | ⟨ne, q⟩
      · rcases hs with ⟨_, rfl⟩ | ⟨_, rfl⟩
        · cases q
        · cases q; exact .inl ⟨z, rfl⟩
      · exact .inr ⟨ne, .inr q⟩
  exact {
    bs := A.bs.put g2 g3
    len := by rw [List.length_set]; exact A.len
    imm := fun j e g => by
      rcases get_set g with ⟨_, q, _⟩ | ⟨ne, q⟩
      · rcases hs with ⟨_, rfl⟩ | ⟨_, rfl⟩ <;> cases q
      · exact A.imm j e q
    own := fun j e g => by
      rcases key j e g with ⟨rfl, rfl⟩ | ⟨ne, g⟩
      · exact ⟨a, ha, g2, g3, r⟩
      · obtain ⟨b, k1, k2, k3, k4⟩ := A.own j e g
        have nb : b ≠ a := fun z => ne (A.inj i j d e a h g ha (by rw [← z]; exact k1))
        exact ⟨b, k1, k2, k3, k4.move (Same.refl _) fun u hu => by rw [upd_ne nb]; exact hu⟩
    inj := fun j k e e' b x1 x2 y1 y2 => by
      rcases key j e x1 with ⟨rfl, rfl⟩ | ⟨n1, o1⟩
      · rcases key k e' x2 with ⟨rfl, rfl⟩ | ⟨n2, o2⟩
        · rfl
        · exact A.inj i k d e' b h o2 y1 y2
      · rcases key k e' x2 with ⟨rfl, rfl⟩ | ⟨n2, o2⟩
        · exact A.inj j i e d b o1 h y1 y2
        · exact A.inj j k e e' b o1 o2 y1 y2
    io := fun j e g => by
      rcases get_set g with ⟨rfl, q, _⟩ | ⟨ne, q⟩
      · rcases hs with ⟨_, rfl⟩ | ⟨hs, rfl⟩
        · cases q
        · exact A.io i d hs
      · exact A.io j e q
    ioh := fun b e => by
      obtain ⟨d'', g⟩ := A.ioh b e
      by_cases z : i = 0
      · subst z
        rcases hs with ⟨hs, _⟩ | ⟨hs, rfl⟩
        · rw [hs] at g; cases g
        · exact ⟨d', List.getElem?_set_self hl⟩
      · exact ⟨d'', by rw [List.getElem?_set_ne z]; exact g⟩ }
end
end G


set_option maxRecDepth 100000
set_option maxHeartbeats 2000000
/-! Kern2: the ends of expressions, tests, statements; how they go on; names, constants, operators. -/
namespace G
open PySem PySem.Spec PyProof.Rows L2

abbrev DE := Env' → Res (Val × Env')
abbrev DT := Env' → Res (Bool × Env')
abbrev DA := Env' → Res (List Dt × Env')
/-- how a statement ends -/
inductive Fl where
  | nx | rt (v : Val) | bk | ct
abbrev DS := Env' → Res (Fl × Env')

/-- an exception's class and fields -/
def ErrAt (W : Wd) (Hb H : Hp) (x : Exn) (c : Value) (dx : Option Addr) : Prop :=
  W.mg x.cls = some c ∧ ((x.fs = [] ∧ dx = none) ∨ ∃ d fs, dx = some d ∧ H d = some (.xd fs) ∧ fs.map (·.1) = x.fs.map (·.1) ∧ RdL W Hb (x.fs.map (·.2)) (fs.map (·.2)))

section
variable {β γ : Type}
/-- what is wanted behind an expression, a test, arguments: G of what comes, the slots, the base, the heap -/
def Post (W : Wd) (EX : XK) (Fm Hb : Hp) (ia : Option Addr) (σ : L2.St) (G : β → Env' → Hp → Hp → Prop) : Res (β × Env') → Prop
  | .ok (b, e) => ∀ H' Hb', Same Hb Hb' → Agr W Fm Hb' ia e σ H' → G b e Hb' H'
  | .err x => ∀ c dx H' Hb', Same Hb Hb' → Bse Fm Hb' H' → ErrAt W Hb' H' x c dx → EX c dx H'
  | .bad => False
def FlG (W : Wd) (Fm : Hp) (D : Ends) (f : Fl) (e : Env') (σ : L2.St) (Hb H : Hp) (va : Val → V → Prop) : Prop :=
  match f with
  | .nx => D.nx σ H
  | .bk => D.bk σ H
  | .ct => D.ct σ H
  | .rt val => ∀ v, va val v → D.rt v H
end
/-- how a value stands -/
def VAt (W : Wd) (Fm Hb H : Hp) (e : Env') (σ : L2.St) : Val → V → Prop
  | .imm d, v => RdD W Hb d v
  | .fresh d, v => ∃ p, v = .ref p ∧ Hb p = none ∧ Fm p = none ∧ OwnAt W Hb H p d ∧ ∀ i x, Owns e i x → σ[i]? ≠ some (some (.ref p))
def PostS (W : Wd) (EX : XK) (Fm Hb : Hp) (ia : Option Addr) (D : Ends) : Res (Fl × Env') → Prop
  | .ok (f, e) => ∀ σ' H' Hb', Same Hb Hb' → Agr W Fm Hb' ia e σ' H' → FlG W Fm D f e σ' Hb' H' (VAt W Fm Hb' H' e σ')
  | .err x => ∀ c dx H' Hb', Same Hb Hb' → Bse Fm Hb' H' → ErrAt W Hb' H' x c dx → EX c dx H'
  | .bad => False

abbrev GE (W : Wd) (Fm : Hp) (σ : L2.St) (Q : VK) : Val → Env' → Hp → Hp → Prop := fun val e Hb H => ∀ v, VAt W Fm Hb H e σ val v → Q v H
abbrev GT (Q : Bool → Hp → Prop) : Bool → Env' → Hp → Hp → Prop := fun b _ _ H => Q b H
abbrev GA (W : Wd) (Q : List V → Hp → Prop) : List Dt → Env' → Hp → Hp → Prop := fun ds _ Hb H => ∀ vs, RdL W Hb ds vs → Q vs H

def rdE (W : Wd) (EX : XK) (f : DE) : TE := fun σ H Q => ∃ Fm Hb ia env, Agr W Fm Hb ia env σ H ∧ Post W EX Fm Hb ia σ (GE W Fm σ Q) (f env)
def rdT (W : Wd) (EX : XK) (f : DT) : TT := fun σ H Q => ∃ Fm Hb ia env, Agr W Fm Hb ia env σ H ∧ Post W EX Fm Hb ia σ (GT Q) (f env)
def rdA (W : Wd) (EX : XK) (f : DA) : TA := fun σ H Q => ∃ Fm Hb ia env, Agr W Fm Hb ia env σ H ∧ Post W EX Fm Hb ia σ (GA W Q) (f env)
def rdS (W : Wd) (EX : XK) (f : DS) : TS := fun D σ H => ∃ Fm Hb ia env, Agr W Fm Hb ia env σ H ∧ PostS W EX Fm Hb ia D (f env)

section
variable {W : Wd} {EX : XK} {Fm Hb Hb' H H' : Hp} {ia : Option Addr} {env : Env'} {σ : L2.St} {β γ : Type} {D : Ends}
theorem Post.mono {G : β → Env' → Hp → Hp → Prop} (e : Same Hb Hb') : ∀ {r : Res (β × Env')}, Post W EX Fm Hb ia σ G r → Post W EX Fm Hb' ia σ G r
  | .ok (_, _), h => fun H' Hb'' e' A => h H' Hb'' (e.trans e') A
  | .err _, h => fun c dx H' Hb'' e' => h c dx H' Hb'' (e.trans e')
  | .bad, h => h.elim
theorem PostS.mono (e : Same Hb Hb') : ∀ {r : Res (Fl × Env')}, PostS W EX Fm Hb ia D r → PostS W EX Fm Hb' ia D r
  | .ok (_, _), h => fun σ' H' Hb'' e' A => h σ' H' Hb'' (e.trans e') A
  | .err _, h => fun c dx H' Hb'' e' => h c dx H' Hb'' (e.trans e')
  | .bad, h => h.elim
/-- one thing, then another -/
theorem Post.bind {G : β → Env' → Hp → Hp → Prop} {G' : γ → Env' → Hp → Hp → Prop} {r : Res (β × Env')} {k : β × Env' → Res (γ × Env')} (h : Post W EX Fm Hb ia σ G' (r.bind k))
    (hk : ∀ b e H' Hb', Same Hb Hb' → Agr W Fm Hb' ia e σ H' → Post W EX Fm Hb' ia σ G' (k (b, e)) → G b e Hb' H') : Post W EX Fm Hb ia σ G r := by
  cases r with
  | ok p =>
    obtain ⟨b, e⟩ := p
    exact fun H' Hb' s A => hk b e H' Hb' s A (Post.mono s h)
  | err x => exact h
  | bad => exact h.elim
theorem Post.bindS {G : β → Env' → Hp → Hp → Prop} {r : Res (β × Env')} {k : β × Env' → Res (Fl × Env')} (h : PostS W EX Fm Hb ia D (r.bind k))
    (hk : ∀ b e H' Hb', Same Hb Hb' → Agr W Fm Hb' ia e σ H' → PostS W EX Fm Hb' ia D (k (b, e)) → G b e Hb' H') : Post W EX Fm Hb ia σ G r := by
  cases r with
  | ok p =>
    obtain ⟨b, e⟩ := p
    exact fun H' Hb' s A => hk b e H' Hb' s A (PostS.mono s h)
  | err x => exact h
  | bad => exact h.elim
/-- a value that is used as data -/
theorem VAt.use {val : Val} {v : V} (A : Agr W Fm Hb ia env σ H) (h : VAt W Fm Hb H env σ val v) : ∃ Hb', Same Hb Hb' ∧ Agr W Fm Hb' ia env σ H ∧ RdD W Hb' val.d v := by
  cases val with
  | imm d => exact ⟨Hb, Same.refl _, A, h⟩
  | fresh d =>
    obtain ⟨p, rfl, h1, h2, h3, h4⟩ := h
    obtain ⟨o, ho⟩ := h3.there
    exact ⟨upd Hb p o, same_lay h1, A.freeze h1 h2 ho h4, h3.frozen h1 ho⟩
/-- the same at an expression's end -/
theorem GE.use {Q : VK} {val : Val} (h : ∀ d Hb' v, val.d = d → Same Hb Hb' → Agr W Fm Hb' ia env σ H → RdD W Hb' d v → Q v H) (A : Agr W Fm Hb ia env σ H) : GE W Fm σ Q val env Hb H := fun v hv => by
  obtain ⟨Hb', s, A', r⟩ := hv.use A
  exact h _ Hb' v rfl s A' r
theorem Post.bindV {G' : γ → Env' → Hp → Hp → Prop} {Q : VK} {r : Res (Val × Env')} {k : Val × Env' → Res (γ × Env')} (h : Post W EX Fm Hb ia σ G' (r.bind k))
    (hk : ∀ val e v H' Hb', Same Hb Hb' → Agr W Fm Hb' ia e σ H' → RdD W Hb' val.d v → Post W EX Fm Hb' ia σ G' (k (val, e)) → Q v H') : Post W EX Fm Hb ia σ (GE W Fm σ Q) r :=
  Post.bind h fun val e H' Hb' s A p => GE.use (fun d Hb'' v ed s' A' r => hk val e v H' Hb'' (s.trans s') A' (by rw [ed]; exact r) (Post.mono s' p)) A
theorem Post.bindVS {Q : VK} {r : Res (Val × Env')} {k : Val × Env' → Res (Fl × Env')} (h : PostS W EX Fm Hb ia D (r.bind k))
    (hk : ∀ val e v H' Hb', Same Hb Hb' → Agr W Fm Hb' ia e σ H' → RdD W Hb' val.d v → PostS W EX Fm Hb' ia D (k (val, e)) → Q v H') : Post W EX Fm Hb ia σ (GE W Fm σ Q) r :=
  Post.bindS h fun val e H' Hb' s A p => GE.use (fun d Hb'' v ed s' A' r => hk val e v H' Hb'' (s.trans s') A' (by rw [ed]; exact r) (PostS.mono s' p)) A
/-- ends -/
theorem Post.imm {Q : VK} {d : Dt} {v : V} (h : Post W EX Fm Hb ia σ (GE W Fm σ Q) (.ok (.imm d, env))) (A : Agr W Fm Hb ia env σ H) (r : RdD W Hb d v) : Q v H := h H Hb (Same.refl _) A v r
theorem Post.newT {Q : VK} {ds : List Dt} {vs : List V} (h : Post W EX Fm Hb ia σ (GE W Fm σ Q) (.ok (.imm (.tup ds), env))) (A : Agr W Fm Hb ia env σ H) (r : RdL W Hb ds vs) : ∀ p, H p = none → Q (.ref p) (upd H p (.tup vs)) := fun p hp => by
  have hn := A.bs.hb.free hp
  exact h _ (upd Hb p (.tup vs)) (same_lay hn) (A.lay hp) _ ⟨p, vs, rfl, .inl (.inl upd_same), RdL.mono (same_lay hn) _ _ r⟩
theorem Post.newL {Q : VK} {ds : List Dt} {vs : List V} (h : Post W EX Fm Hb ia σ (GE W Fm σ Q) (.ok (.fresh (.lst ds), env))) (A : Agr W Fm Hb ia env σ H) (r : RdL W Hb ds vs) : ∀ p, H p = none → Q (.ref p) (upd H p (.lst vs)) := fun p hp => by
  obtain ⟨h1, h2⟩ := A.bs.free hp
  exact h _ Hb (Same.refl _) (A.put h1 h2 (A.apart hp)) _ ⟨p, rfl, h1, h2, ⟨vs, upd_same, r⟩, A.apart hp⟩
end

/-! ### judgements -/
theorem pe_mono {X : Cx} {e : Expr} {t t' : TE} (h : PE X e t) (w : ∀ σ H Q, t' σ H Q → t σ H Q) : PE X e t' := ⟨fun pins s σ H Q I q => h.run pins s σ H Q I (w σ H Q q)⟩
theorem pt_mono {X : Cx} {e : Expr} {t t' : TT} (h : PT X e t) (w : ∀ σ H Q, t' σ H Q → t σ H Q) : PT X e t' := ⟨fun pins s σ H Q I q => h.run pins s σ H Q I (w σ H Q q)⟩
theorem pw_mono {X : Cx} {e : Expr} {t t' : TT} (h : PW X e t) (w : ∀ σ H Q, t' σ H Q → t σ H Q) : PW X e t' := ⟨fun wh pins s σ H Q I q => h.run wh pins s σ H Q I (w σ H Q q)⟩
theorem pa_mono {X : Cx} {e : List Expr} {t t' : TA} (h : PA X e t) (w : ∀ σ H Q, t' σ H Q → t σ H Q) : PA X e t' := ⟨fun pos pins s σ H Q I q => h.run pos pins s σ H Q I (w σ H Q q)⟩
theorem ps_mono {X : Cx} {e : Stmt} {t t' : TS} (h : PS X e t) (w : ∀ D σ H, t' D σ H → t D σ H) : PS X e t' := ⟨fun pins s σ H D I q => h.run pins s σ H D I (w D σ H q)⟩
theorem pss_mono {X : Cx} {e : List Stmt} {t t' : TS} (h : PSs X e t) (w : ∀ D σ H, t' D σ H → t D σ H) : PSs X e t' := ⟨fun pins s σ H D I q => h.run pins s σ H D I (w D σ H q)⟩
abbrev wd (X : Cx) : Wd := ⟨X.K, X.mg⟩
abbrev SE (X : Cx) (EX : XK) (e : Expr) (f : DE) : Prop := PE X e (rdE (wd X) EX f)
abbrev ST (X : Cx) (EX : XK) (e : Expr) (f : DT) : Prop := PT X e (rdT (wd X) EX f)
abbrev SW (X : Cx) (EX : XK) (e : Expr) (f : DT) : Prop := PW X e (rdT (wd X) EX f)
abbrev SA (X : Cx) (EX : XK) (e : List Expr) (f : DA) : Prop := PA X e (rdA (wd X) EX f)
abbrev SS (X : Cx) (EX : XK) (st : Stmt) (f : DS) : Prop := PS X st (rdS (wd X) EX f)
abbrev SSs (X : Cx) (EX : XK) (sts : List Stmt) (f : DS) : Prop := PSs X sts (rdS (wd X) EX f)

/-! ### names and constants -/
def dC (d : Dt) : DE := fun env => .ok (.imm d, env)
/-- a name that is read: what was owned is data from now on -/
def dVar (i : Nat) : DE := fun env => match env[i]? with
  | some (.imm d) => .ok (.imm d, env)
  | some (.own d) => .ok (.imm d, env.set i (.imm d))
  | _ => .bad
/-- a name that is handed on -/
def dMove (i : Nat) : DE := fun env => match env[i]? with
  | some (.imm d) => .ok (.imm d, env)
  | some (.own d) => .ok (.fresh d, env.set i .un)
  | _ => .bad
/-- a constant's data -/
def flatD : V → Option Dt
  | .non => some .non
  | .bl b => some (.bl b)
  | .int i => some (.int i)
  | .str x => some (.str x)
  | _ => none
theorem flatD_rd {W : Wd} {H : Hp} {v : V} {d : Dt} (h : flatD v = some d) : RdD W H d v := by
  cases v <;> simp only [flatD, Option.some.injEq, reduceCtorEq] at h <;> subst h <;> rfl
section
variable {X : Cx} {EX : XK} {pos : Pos} {e a b : Expr} {fa fb : DE}
theorem se_c {v : V} {d : Dt} (h : PE X e (tC v)) (hd : flatD v = some d) : SE X EX e (dC d) := pe_mono h fun σ H Q ⟨Fm, Hb, ia, env, A, p⟩ => p.imm A (flatD_rd hd)
theorem se_var {i : Nat} (h : PE X e (tVar i)) : SE X EX e (dVar i) := pe_mono h fun σ H Q ⟨Fm, Hb, ia, env, A, p⟩ => by
  unfold dVar at p
  split at p
  · rename_i d hd
    obtain ⟨v, h1, h2⟩ := A.imm i d hd
    exact ⟨v, h1, p.imm A h2⟩
  · rename_i d hd
    obtain ⟨a, Hb', h1, s, A', r⟩ := A.give hd
    exact ⟨.ref a, h1, p H Hb' s A' _ r⟩
  · exact p.elim
theorem se_move {i : Nat} (h : PE X e (tVar i)) : SE X EX e (dMove i) := pe_mono h fun σ H Q ⟨Fm, Hb, ia, env, A, p⟩ => by
  unfold dMove at p
  split at p
  · rename_i d hd
    obtain ⟨v, h1, h2⟩ := A.imm i d hd
    exact ⟨v, h1, p.imm A h2⟩
  · rename_i d hd
    obtain ⟨a, h1, h2, h3, h4, A', h5⟩ := A.hand hd
    exact ⟨.ref a, h1, p H Hb (Same.refl _) A' _ ⟨a, rfl, h2, h3, h4, h5⟩⟩
  · exact p.elim

/-! ### operators -/
def dBin (g : Dt → Dt → Res Val) (fa fb : DE) : DE := fun env => (fa env).bind fun p => (fb p.2).bind fun q => (g p.1.d q.1.d).map fun v => (v, q.2)
def OpS (W : Wd) (r : R2) (g : Dt → Dt → Res Val) : Prop := ∀ EX Fm Hb ia env σ H d1 d2 x y Q, Agr W Fm Hb ia env σ H → RdD W Hb d1 x → RdD W Hb d2 y → Post W EX Fm Hb ia σ (GE W Fm σ Q) ((g d1 d2).map fun v => (v, env)) → r x y H Q
theorem rd_bin {W : Wd} {r : R2} {g : Dt → Dt → Res Val} (hs : OpS W r g) : ∀ σ H Q, rdE W EX (dBin g fa fb) σ H Q → tOp r (rdE W EX fa) (rdE W EX fb) σ H Q := fun σ H Q ⟨Fm, Hb, ia, env, A, p⟩ =>
  ⟨Fm, Hb, ia, env, A, Post.bindV p fun va e1 x H1 Hb1 s1 A1 r1 p1 => ⟨Fm, Hb1, ia, e1, A1, Post.bindV p1 fun vb e2 y H2 Hb2 s2 A2 r2 p2 => hs EX Fm Hb2 ia e2 σ H2 _ _ x y Q A2 (RdD.mono s2 _ _ r1) r2 p2⟩⟩
theorem se_bin {op : Operator} {r : R2} {g : Dt → Dt → Res Val} (ho : OpR X (binaryOp op) r) (hs : OpS (wd X) r g) (ha : SE X EX a fa) (hb : SE X EX b fb) : SE X EX (.BinOp a op b pos) (dBin g fa fb) := pe_mono (pe_op ho ha hb) (rd_bin hs)
theorem se_cmp {op : CmpOp} {r : R2} {g : Dt → Dt → Res Val} (ho : OpR X (compareOp op) r) (hs : OpS (wd X) r g) (ha : SE X EX a fa) (hb : SE X EX b fb) (hm : behindInMarks op b = false) : SE X EX (.Compare a [op] [b] pos) (dBin g fa fb) := pe_mono (pe_cmpR ho ha hb hm) (rd_bin hs)
/-- a truth, as a test -/
def asB : Val × Env' → Res (Bool × Env')
  | (.imm (.bl b), e) => .ok (b, e)
  | _ => .bad
def dTest (f : DE) : DT := fun env => (f env).bind asB
theorem rd_test {W : Wd} : ∀ σ H Q, rdT W EX (dTest fa) σ H Q → tTest (rdE W EX fa) σ H Q := fun σ H Q ⟨Fm, Hb, ia, env, A, p⟩ =>
  ⟨Fm, Hb, ia, env, A, Post.bind p fun val e H1 Hb1 s A1 p1 v hv => by
    unfold asB at p1
    split at p1
    · rename_i b e' q
      cases q
      cases (show v = V.bl b from hv)
      exact ⟨b, rfl, p1 H1 Hb1 (Same.refl _) A1⟩
    · exact p1.elim⟩
theorem st_cmp {op : CmpOp} {r : R2} {g : Dt → Dt → Res Val} (ho : OpR X (compareOp op) r) (hs : OpS (wd X) r g) (ha : SE X EX a fa) (hb : SE X EX b fb) (hm : behindInMarks op b = false) : ST X EX (.Compare a [op] [b] pos) (dTest (dBin g fa fb)) :=
  pt_mono (pt_cmpR ho ha hb hm) fun σ H Q h => by
    obtain ⟨Fm, Hb, ia, env, A, p⟩ := h
    have q := rd_test (W := wd X) σ H Q ⟨Fm, Hb, ia, env, A, p⟩
    exact rd_bin hs σ H _ q
end
end G


set_option maxRecDepth 100000
set_option maxHeartbeats 4000000
/-! Kern3: the operators' tables on data; truth; displays. -/
namespace G
open PySem PySem.Spec PyProof.Rows L2

/-! ### data as the library's data -/
mutual
def dToP : Dt → Option PyData
  | .non => some .none
  | .bl b => some (.bool b)
  | .int i => some (.int i)
  | .str x => some (.str x)
  | .lst ds => (dToPs ds).map .list
  | .tup ds => (dToPs ds).map .tuple
  | .scr _ => none
  | .dct _ _ => none
  | .obj _ _ _ => none
def dToPs : List Dt → Option (List PyData)
  | [] => some []
  | d :: ds => match dToP d, dToPs ds with
    | some p, some ps => some (p :: ps)
    | _, _ => none
end
mutual
theorem RdD.dp {W : Wd} {H : Hp} : ∀ {d : Dt} {v : V} {p : PyData}, RdD W H d v → dToP d = some p → Dp W.K H v p
  | .non, v, p, h, e => by
    cases (show v = .non from h)
    simp only [dToP, Option.some.injEq] at e
    subst e
    exact .non
  | .bl b, v, p, h, e => by
    cases (show v = .bl b from h)
    simp only [dToP, Option.some.injEq] at e
    subst e
    exact .bl b
  | .int i, v, p, h, e => by
    cases (show v = .int i from h)
    simp only [dToP, Option.some.injEq] at e
    subst e
    exact .int i
  | .str x, v, p, h, e => by
    cases (show v = .str x from h)
    simp only [dToP, Option.some.injEq] at e
    subst e
    exact .str x
  | .lst ds, v, p, h, e => by
    obtain ⟨a, vs, rfl, h2, h3⟩ := h
    simp only [dToP, Option.map_eq_some_iff] at e
    obtain ⟨ps, e1, rfl⟩ := e
    exact .lst (.inl (.inl h2)) (RdL.dp h3 e1)
  | .tup ds, v, p, h, e => by
    obtain ⟨a, vs, rfl, h2, h3⟩ := h
    simp only [dToP, Option.map_eq_some_iff] at e
    obtain ⟨ps, e1, rfl⟩ := e
    exact .tup h2 (RdL.dp h3 e1)
  | .scr _, _, _, _, e => by simp [dToP] at e
  | .dct _ _, _, _, _, e => by simp [dToP] at e
  | .obj _ _ _, _, _, _, e => by simp [dToP] at e
theorem RdL.dp {W : Wd} {H : Hp} : ∀ {ds : List Dt} {vs : List V} {ps : List PyData}, RdL W H ds vs → dToPs ds = some ps → DpAll W.K H vs ps
  | [], vs, ps, h, e => by
    cases (show vs = [] from h)
    simp only [dToPs, Option.some.injEq] at e
    subst e
    exact .nil
  | d :: ds, vs, ps, h, e => by
    obtain ⟨v, r, rfl, h2, h3⟩ := h
    simp only [dToPs] at e
    split at e
    · rename_i q qs e1 e2
      simp only [Option.some.injEq] at e
      subst e
      exact .cons (RdD.dp h2 e1) (RdL.dp h3 e2)
    · cases e
end

/-! ### operators on data -/
def vI (i : Int) : Res Val := .ok (.imm (.int i))
def vB (b : Bool) : Res Val := .ok (.imm (.bl b))
def opAdd : Dt → Dt → Res Val
  | .int i, .int j => vI (i + j)
  | .str x, .str y => if x.length + y.length ≤ sizeLine then .ok (.imm (.str (x ++ y))) else .bad
  | .lst xs, .lst ys => if xs.length + ys.length ≤ sizeLine then .ok (.fresh (.lst (xs ++ ys))) else .bad
  | .tup xs, .tup ys => if xs.length + ys.length ≤ sizeLine then .ok (.imm (.tup (xs ++ ys))) else .bad
  | _, _ => .bad
def opSub : Dt → Dt → Res Val
  | .int i, .int j => vI (i - j)
  | _, _ => .bad
def mulOk (i j : Int) : Bool := decide (i.natAbs < 2 ^ 64) || decide (j.natAbs < 2 ^ 64) || decide (Builtin.Int.intBits i + Builtin.Int.intBits j ≤ 134217728)
def opMul : Dt → Dt → Res Val
  | .int i, .int j => if mulOk i j then vI (i * j) else .bad
  | .lst xs, .int k => if k.natAbs < 2 ^ 63 ∧ xs.length * k.toNat ≤ sizeLine then .ok (.fresh (.lst (List.replicate k.toNat xs).flatten)) else .bad
  | _, _ => .bad
def opFDiv : Dt → Dt → Res Val
  | .int i, .int j => if j ≠ 0 ∧ Builtin.divisionGoesByPylong i j = false then vI (i.fdiv j) else .bad
  | _, _ => .bad
def opMod : Dt → Dt → Res Val
  | .int i, .int j => if j ≠ 0 then vI (i.fmod j) else .bad
  | _, _ => .bad
def opPow : Dt → Dt → Res Val
  | .int i, .int j => if 0 ≤ j ∧ j.natAbs ≤ 1000000 ∧ i.natAbs < 2 ^ 64 then vI (i ^ j.toNat) else .bad
  | _, _ => .bad
def opShl : Dt → Dt → Res Val
  | .int i, .int j => if 0 ≤ j ∧ Builtin.Int.intBits i + j.natAbs ≤ 134217728 then vI (i * 2 ^ j.toNat) else .bad
  | _, _ => .bad
def opShr : Dt → Dt → Res Val
  | .int i, .int j => if 0 ≤ j then vI (i / 2 ^ j.toNat) else .bad
  | _, _ => .bad
def opAnd : Dt → Dt → Res Val
  | .int i, .int j => vI (Builtin.bitAnd i j)
  | _, _ => .bad
def eqD (neg : Bool) (d e : Dt) : Res Val := match dToP d, dToP e with
  | some p, some q => if SeqAt.shaped p && SeqAt.shaped q then vB (if neg then !PyData.eqv p q else PyData.eqv p q) else .bad
  | _, _ => .bad
def opLt : Dt → Dt → Res Val
  | .int i, .int j => vB (decide (i < j))
  | _, _ => .bad
def opLe : Dt → Dt → Res Val
  | .int i, .int j => vB (decide (i ≤ j))
  | _, _ => .bad
def opGt : Dt → Dt → Res Val
  | .int i, .int j => vB (decide (j < i))
  | _, _ => .bad
def opGe : Dt → Dt → Res Val
  | .int i, .int j => vB (decide (j ≤ i))
  | _, _ => .bad
def isNon : Dt → Bool
  | .non => true
  | _ => false
def opIs : Dt → Dt → Res Val
  | d, .non => vB (isNon d)
  | _, _ => .bad
def opIsNot : Dt → Dt → Res Val
  | d, .non => vB (!isNon d)
  | _, _ => .bad

section
variable {W : Wd} {H : Hp} {X : Cx}
theorem isNon_rd {d : Dt} {v : V} (h : RdD W H d v) : isNon d = decide (v = .non) := by
  cases d with
  | non => cases (show v = .non from h); rfl
  | bl b => cases (show v = .bl b from h); rfl
  | int b => cases (show v = .int b from h); rfl
  | str b => cases (show v = .str b from h); rfl
  | lst b => obtain ⟨_, _, rfl, _⟩ := h; rfl
  | tup b => obtain ⟨_, _, rfl, _⟩ := h; rfl
  | scr b => obtain ⟨_, rfl, _⟩ := h; rfl
  | dct b c => obtain ⟨_, rfl, _⟩ := h; rfl
  | obj b c d => obtain ⟨_, _, _, _, rfl, _⟩ := h; rfl
/-- two ints, no condition -/
theorem ops_I {g : Int → Int → V} {k : Int → Int → Dt} (hk : ∀ i j W' H', RdD W' H' (k i j) (g i j)) {op : Dt → Dt → Res Val} (h : ∀ i j, op (.int i) (.int j) = .ok (.imm (k i j))) (hb : ∀ d e r, op d e = r → r = .bad ∨ ∃ i j, d = .int i ∧ e = .int j) : OpS W (rI0 g) op := by
  intro EX Fm Hb ia env σ H d1 d2 x y Q A r1 r2 p
  rcases hb d1 d2 _ rfl with e | ⟨i, j, rfl, rfl⟩
  · rw [e] at p
    exact p.elim
  · rw [h] at p
    exact ⟨i, j, r1, r2, Post.imm p A (hk i j W Hb)⟩
theorem ops_IC {C : Int → Int → Prop} {g : Int → Int → V} {k : Int → Int → Dt} (hk : ∀ i j W' H', RdD W' H' (k i j) (g i j)) {op : Dt → Dt → Res Val} (h : ∀ i j r, op (.int i) (.int j) = r → r = .bad ∨ (C i j ∧ r = .ok (.imm (k i j))))
    (hb : ∀ d e r, op d e = r → r = .bad ∨ ∃ i j, d = .int i ∧ e = .int j) : OpS W (rI C g) op := by
  intro EX Fm Hb ia env σ H d1 d2 x y Q A r1 r2 p
  rcases hb d1 d2 _ rfl with e | ⟨i, j, rfl, rfl⟩
  · rw [e] at p
    exact p.elim
  · rcases h i j _ rfl with e | ⟨c, e⟩
    · rw [e] at p
      exact p.elim
    · rw [e] at p
      exact ⟨i, j, r1, r2, c, Post.imm p A (hk i j W Hb)⟩

theorem ints_only {op : Dt → Dt → Res Val} (h : ∀ d e, op d e = .bad ∨ ∃ i j, d = .int i ∧ e = .int j) : ∀ d e r, op d e = r → r = .bad ∨ ∃ i j, d = .int i ∧ e = .int j := fun d e r q => by
  subst q
  exact h d e
theorem onlySub : ∀ d e r, opSub d e = r → r = .bad ∨ ∃ i j, d = .int i ∧ e = .int j := ints_only fun d e => by
  cases d <;> first | (left; rfl) | (cases e <;> first | (left; rfl) | exact .inr ⟨_, _, rfl, rfl⟩)
theorem onlyFDiv : ∀ d e r, opFDiv d e = r → r = .bad ∨ ∃ i j, d = .int i ∧ e = .int j := ints_only fun d e => by
  cases d <;> first | (left; rfl) | (cases e <;> first | (left; rfl) | exact .inr ⟨_, _, rfl, rfl⟩)
theorem onlyMod : ∀ d e r, opMod d e = r → r = .bad ∨ ∃ i j, d = .int i ∧ e = .int j := ints_only fun d e => by
  cases d <;> first | (left; rfl) | (cases e <;> first | (left; rfl) | exact .inr ⟨_, _, rfl, rfl⟩)
theorem onlyPow : ∀ d e r, opPow d e = r → r = .bad ∨ ∃ i j, d = .int i ∧ e = .int j := ints_only fun d e => by
  cases d <;> first | (left; rfl) | (cases e <;> first | (left; rfl) | exact .inr ⟨_, _, rfl, rfl⟩)
theorem onlyShl : ∀ d e r, opShl d e = r → r = .bad ∨ ∃ i j, d = .int i ∧ e = .int j := ints_only fun d e => by
  cases d <;> first | (left; rfl) | (cases e <;> first | (left; rfl) | exact .inr ⟨_, _, rfl, rfl⟩)
theorem onlyShr : ∀ d e r, opShr d e = r → r = .bad ∨ ∃ i j, d = .int i ∧ e = .int j := ints_only fun d e => by
  cases d <;> first | (left; rfl) | (cases e <;> first | (left; rfl) | exact .inr ⟨_, _, rfl, rfl⟩)
theorem onlyAnd : ∀ d e r, opAnd d e = r → r = .bad ∨ ∃ i j, d = .int i ∧ e = .int j := ints_only fun d e => by
  cases d <;> first | (left; rfl) | (cases e <;> first | (left; rfl) | exact .inr ⟨_, _, rfl, rfl⟩)
theorem onlyLt : ∀ d e r, opLt d e = r → r = .bad ∨ ∃ i j, d = .int i ∧ e = .int j := ints_only fun d e => by
  cases d <;> first | (left; rfl) | (cases e <;> first | (left; rfl) | exact .inr ⟨_, _, rfl, rfl⟩)
theorem onlyLe : ∀ d e r, opLe d e = r → r = .bad ∨ ∃ i j, d = .int i ∧ e = .int j := ints_only fun d e => by
  cases d <;> first | (left; rfl) | (cases e <;> first | (left; rfl) | exact .inr ⟨_, _, rfl, rfl⟩)
theorem onlyGt : ∀ d e r, opGt d e = r → r = .bad ∨ ∃ i j, d = .int i ∧ e = .int j := ints_only fun d e => by
  cases d <;> first | (left; rfl) | (cases e <;> first | (left; rfl) | exact .inr ⟨_, _, rfl, rfl⟩)
theorem onlyGe : ∀ d e r, opGe d e = r → r = .bad ∨ ∃ i j, d = .int i ∧ e = .int j := ints_only fun d e => by
  cases d <;> first | (left; rfl) | (cases e <;> first | (left; rfl) | exact .inr ⟨_, _, rfl, rfl⟩)

theorem ops_sub : OpS W (rI0 fun i j => .int (i - j)) opSub := ops_I (k := fun i j => .int (i - j)) (fun _ _ _ _ => rfl) (fun _ _ => rfl) onlySub
theorem ops_and : OpS W (rI0 fun i j => .int (Builtin.bitAnd i j)) opAnd := ops_I (k := fun i j => .int (Builtin.bitAnd i j)) (fun _ _ _ _ => rfl) (fun _ _ => rfl) onlyAnd
theorem ops_lt : OpS W (rI0 fun i j => .bl (decide (i < j))) opLt := ops_I (k := fun i j => .bl (decide (i < j))) (fun _ _ _ _ => rfl) (fun _ _ => rfl) onlyLt
theorem ops_le : OpS W (rI0 fun i j => .bl (decide (i ≤ j))) opLe := ops_I (k := fun i j => .bl (decide (i ≤ j))) (fun _ _ _ _ => rfl) (fun _ _ => rfl) onlyLe
theorem ops_gt : OpS W (rI0 fun i j => .bl (decide (j < i))) opGt := ops_I (k := fun i j => .bl (decide (j < i))) (fun _ _ _ _ => rfl) (fun _ _ => rfl) onlyGt
theorem ops_ge : OpS W (rI0 fun i j => .bl (decide (j ≤ i))) opGe := ops_I (k := fun i j => .bl (decide (j ≤ i))) (fun _ _ _ _ => rfl) (fun _ _ => rfl) onlyGe
theorem ite_bad {c : Prop} [Decidable c] {v r : Res Val} (e : (if c then v else .bad) = r) : r = .bad ∨ (c ∧ r = v) := by
  by_cases h : c
  · rw [if_pos h] at e
    exact .inr ⟨h, e.symm⟩
  · rw [if_neg h] at e
    exact .inl e.symm
theorem ops_mod : OpS W (rI (fun _ j => j ≠ 0) fun i j => .int (i.fmod j)) opMod := ops_IC (k := fun i j => .int (i.fmod j)) (fun _ _ _ _ => rfl) (fun i j _ e => ite_bad (c := j ≠ 0) e) onlyMod
theorem ops_pow : OpS W (rI CPow fun i j => .int (i ^ j.toNat)) opPow := ops_IC (k := fun i j => .int (i ^ j.toNat)) (fun _ _ _ _ => rfl) (fun i j _ e => (ite_bad (c := 0 ≤ j ∧ j.natAbs ≤ 1000000 ∧ i.natAbs < 2 ^ 64) e).imp id fun h => ⟨⟨h.1.1, by omega, h.1.2.2⟩, h.2⟩) onlyPow
theorem ops_shl : OpS W (rI CShl fun i j => .int (i * 2 ^ j.toNat)) opShl := ops_IC (k := fun i j => .int (i * 2 ^ j.toNat)) (fun _ _ _ _ => rfl) (fun i j _ e => (ite_bad (c := 0 ≤ j ∧ Builtin.Int.intBits i + j.natAbs ≤ 134217728) e).imp id fun h => ⟨⟨h.1.1, by omega⟩, h.2⟩) onlyShl
theorem ops_shr : OpS W (rI (fun _ j => 0 ≤ j) fun i j => .int (i / 2 ^ j.toNat)) opShr := ops_IC (k := fun i j => .int (i / 2 ^ j.toNat)) (fun _ _ _ _ => rfl) (fun i j _ e => ite_bad (c := 0 ≤ j) e) onlyShr
def CDivA (i j : Int) : Prop := j ≠ 0 ∧ Builtin.divisionGoesByPylong i j = false
theorem op_fdivA : OpR X (binaryOp .FloorDiv) (rI CDivA fun i j => .int (i.fdiv j)) := opI fun _ _ _ _ _ _ _ hc q => floordiv_int hc.1 q (.inl hc.2)
theorem ops_fdiv : OpS W (rI CDivA fun i j => .int (i.fdiv j)) opFDiv := ops_IC (k := fun i j => .int (i.fdiv j)) (fun _ _ _ _ => rfl) (fun i j _ e => ite_bad (c := j ≠ 0 ∧ Builtin.divisionGoesByPylong i j = false) e) onlyFDiv

/-! several kinds -/
def rAddS : R2 := fun x y H Q => ∃ i j, x = .str i ∧ y = .str j ∧ i.length + j.length ≤ sizeLine ∧ Q (.str (i ++ j)) H
def rAddAll (K : PySem.W.Frag) : R2 := fun x y H Q => (rI0 fun i j => .int (i + j)) x y H Q ∨ (rAddS x y H Q ∨ (rCat x y H Q ∨ rCatA K x y H Q))
theorem op_addAll : OpR X (binaryOp .Add) (rAddAll X.K) := op_add.or (OpR.or (r := rAddS) op_add_str (op_cat.or op_catA))
theorem ops_add : OpS W (rAddAll W.K) opAdd := by
  intro EX Fm Hb ia env σ H d1 d2 x y Q A r1 r2 p
  cases d1 <;> cases d2 <;> first
    | exact p.elim
    | skip
  · rename_i i j
    exact .inl ⟨i, j, r1, r2, Post.imm p A rfl⟩
  · rename_i i j
    simp only [opAdd] at p
    split at p
    · rename_i hz
      exact .inr (.inl ⟨i, j, r1, r2, hz, Post.imm p A rfl⟩)
    · exact p.elim
  · rename_i xs ys
    simp only [opAdd] at p
    split at p
    · rename_i hz
      obtain ⟨a, vs, rfl, ha, la⟩ := r1
      obtain ⟨b, ws, rfl, hb, lb⟩ := r2
      refine .inr (.inr (.inl ⟨a, b, vs, ws, rfl, rfl, A.bs.hb _ _ ha, A.bs.hb _ _ hb, by rw [← la.len, ← lb.len]; exact hz, Post.newL p A (la.append lb)⟩))
    · exact p.elim
  · rename_i xs ys
    simp only [opAdd] at p
    split at p
    · rename_i hz
      obtain ⟨a, vs, rfl, ha, la⟩ := r1
      obtain ⟨b, ws, rfl, hb, lb⟩ := r2
      refine .inr (.inr (.inr ⟨a, b, vs, ws, rfl, rfl, same_t A.bs.hb ha, same_t A.bs.hb hb, by rw [← la.len, ← lb.len]; exact hz, fun e => ?_, fun n e => ?_, fun n n' => Post.newT p A (la.append lb)⟩))
      · have e1 : xs = [] := List.length_eq_zero_iff.mp (by rw [la.len, e]; rfl)
        subst e1
        exact Post.imm p A ⟨b, ws, rfl, hb, lb⟩
      · have e1 : ys = [] := List.length_eq_zero_iff.mp (by rw [lb.len, e]; rfl)
        subst e1
        rw [List.append_nil] at p
        exact Post.imm p A ⟨a, vs, rfl, ha, la⟩
    · exact p.elim
theorem RdL.flat_rep {H : Hp} {ds : List Dt} {vs : List V} (h : RdL W H ds vs) : ∀ n : Nat, RdL W H (List.replicate n ds).flatten (List.replicate n vs).flatten
  | 0 => rfl
  | n + 1 => by
    rw [List.replicate_succ, List.replicate_succ, List.flatten_cons, List.flatten_cons]
    exact h.append (RdL.flat_rep h n)
def rMulAll : R2 := fun x y H Q => (rI CMul fun i j => .int (i * j)) x y H Q ∨ ((rI CMulX fun i j => .int (i * j)) x y H Q ∨ rRep x y H Q)
theorem op_mulAll : OpR X (binaryOp .Mult) rMulAll := op_mul.or (op_mulX.or op_rep)
theorem ops_mul : OpS W rMulAll opMul := by
  intro EX Fm Hb ia env σ H d1 d2 x y Q A r1 r2 p
  cases d1 <;> cases d2 <;> first
    | exact p.elim
    | skip
  · rename_i i j
    simp only [opMul] at p
    split at p
    · rename_i hz
      have q := Post.imm p A (v := .int (i * j)) rfl
      unfold mulOk at hz
      simp only [Bool.or_eq_true, decide_eq_true_eq] at hz
      rcases hz with (hz | hz) | hz
      · exact .inl ⟨i, j, r1, r2, .inl (by omega), q⟩
      · exact .inl ⟨i, j, r1, r2, .inr (by omega), q⟩
      · exact .inr (.inl ⟨i, j, r1, r2, by unfold CMulX; omega, q⟩)
    · exact p.elim
  · rename_i xs k
    simp only [opMul] at p
    split at p
    · rename_i hz
      obtain ⟨a, vs, rfl, ha, la⟩ := r1
      exact .inr (.inr ⟨a, k, vs, rfl, r2, A.bs.hb _ _ ha, by omega, by omega, by rw [← la.len]; exact hz.2, Post.newL p A (la.flat_rep _)⟩)
    · exact p.elim
theorem ops_eq : OpS W (rEqD W.K) (eqD false) := by
  intro EX Fm Hb ia env σ H d1 d2 x y Q A r1 r2 p
  unfold eqD at p
  split at p
  · rename_i a b e1 e2
    by_cases c : (SeqAt.shaped a && SeqAt.shaped b) = true
    · rw [if_pos c] at p
      rw [Bool.and_eq_true] at c
      exact ⟨a, b, RdD.dp (RdD.mono A.bs.hb _ _ r1) e1, RdD.dp (RdD.mono A.bs.hb _ _ r2) e2, c.1, c.2, Post.imm p A rfl⟩
    · rw [if_neg c] at p
      exact p.elim
  · exact p.elim
theorem ops_ne : OpS W (rNeD W.K) (eqD true) := by
  intro EX Fm Hb ia env σ H d1 d2 x y Q A r1 r2 p
  unfold eqD at p
  split at p
  · rename_i a b e1 e2
    by_cases c : (SeqAt.shaped a && SeqAt.shaped b) = true
    · rw [if_pos c] at p
      rw [Bool.and_eq_true] at c
      exact ⟨a, b, RdD.dp (RdD.mono A.bs.hb _ _ r1) e1, RdD.dp (RdD.mono A.bs.hb _ _ r2) e2, c.1, c.2, Post.imm p A rfl⟩
    · rw [if_neg c] at p
      exact p.elim
  · exact p.elim
theorem ops_is : OpS W (fun x y H Q => y = .non ∧ Q (.bl (decide (x = .non))) H) opIs := by
  intro EX Fm Hb ia env σ H d1 d2 x y Q A r1 r2 p
  cases d2 <;> first
    | exact p.elim
    | skip
  refine ⟨r2, ?_⟩
  rw [← isNon_rd r1]
  exact Post.imm p A rfl
theorem ops_isNot : OpS W (fun x y H Q => y = .non ∧ Q (.bl (!decide (x = .non))) H) opIsNot := by
  intro EX Fm Hb ia env σ H d1 d2 x y Q A r1 r2 p
  cases d2 <;> first
    | exact p.elim
    | skip
  refine ⟨r2, ?_⟩
  rw [← isNon_rd r1]
  exact Post.imm p A rfl
end
end G


set_option maxRecDepth 100000
set_option maxHeartbeats 4000000
/-! Kern4: and, or, not, conditionals; tests; argument lists, displays; subscripts and slices; calls of built-ins and of defs. -/
namespace G
open PySem PySem.Spec PyProof.Rows L2

/-! ### truths -/
def dAnd (fa fb : DE) : DE := fun env => (fa env).bind fun p => match p.1 with
  | .imm (.bl true) => fb p.2
  | .imm (.bl false) => .ok (.imm (.bl false), p.2)
  | _ => .bad
def dOr (fa fb : DE) : DE := fun env => (fa env).bind fun p => match p.1 with
  | .imm (.bl true) => .ok (.imm (.bl true), p.2)
  | .imm (.bl false) => fb p.2
  | _ => .bad
def dNot (fa : DE) : DE := fun env => (fa env).bind fun p => match p.1 with
  | .imm (.bl b) => .ok (.imm (.bl (!b)), p.2)
  | _ => .bad
def tAndD (fa fb : DT) : DT := fun env => (fa env).bind fun p => if p.1 = true then fb p.2 else .ok (false, p.2)
def tOrD (fa fb : DT) : DT := fun env => (fa env).bind fun p => if p.1 = true then .ok (true, p.2) else fb p.2
def tNotD (fa : DT) : DT := fun env => (fa env).bind fun p => .ok (!p.1, p.2)
def dIf (t : DT) (fa fb : DE) : DE := fun env => (t env).bind fun p => if p.1 = true then fa p.2 else fb p.2
/-- the truth of any data -/
def truD : Dt → Option Bool
  | .non => some false
  | .bl b => some b
  | .int i => some (i != 0)
  | .str x => if x.length ≤ sizeLine then some ((x.length : Int) != 0) else none
  | .lst ds => some (!ds.isEmpty)
  | .tup ds => some (!ds.isEmpty)
  | _ => none
def asTru : Val × Env' → Res (Bool × Env')
  | (v, e) => match truD v.d with
    | some b => .ok (b, e)
    | none => .bad
def dTru (f : DE) : DT := fun env => (f env).bind asTru
section
variable {X : Cx} {EX : XK} {pos : Pos} {e a b c : Expr} {rest' : List Expr} {fa fb : DE} {ta tb : DT}
theorem se_and (ha : SE X EX a fa) (hb : SE X EX (.BoolOp .And (b :: rest') pos) fb) : SE X EX (.BoolOp .And (a :: b :: rest') pos) (dAnd fa fb) := pe_mono (pe_and ha hb) fun σ H Q ⟨Fm, Hb, ia, env, A, p⟩ =>
  ⟨Fm, Hb, ia, env, A, Post.bind p fun val e1 H1 Hb1 s1 A1 p1 v hv => by
    dsimp only at p1
    split at p1
    · cases (show v = V.bl true from hv)
      exact ⟨true, rfl, by rw [if_pos rfl]; exact ⟨Fm, Hb1, ia, e1, A1, p1⟩⟩
    · cases (show v = V.bl false from hv)
      exact ⟨false, rfl, by rw [if_neg Bool.false_ne_true]; exact Post.imm p1 A1 rfl⟩
    · exact p1.elim⟩
theorem se_or (ha : SE X EX a fa) (hb : SE X EX (.BoolOp .Or (b :: rest') pos) fb) : SE X EX (.BoolOp .Or (a :: b :: rest') pos) (dOr fa fb) := pe_mono (pe_or ha hb) fun σ H Q ⟨Fm, Hb, ia, env, A, p⟩ =>
  ⟨Fm, Hb, ia, env, A, Post.bind p fun val e1 H1 Hb1 s1 A1 p1 v hv => by
    dsimp only at p1
    split at p1
    · cases (show v = V.bl true from hv)
      exact ⟨true, rfl, by rw [if_pos rfl]; exact Post.imm p1 A1 rfl⟩
    · cases (show v = V.bl false from hv)
      exact ⟨false, rfl, by rw [if_neg Bool.false_ne_true]; exact ⟨Fm, Hb1, ia, e1, A1, p1⟩⟩
    · exact p1.elim⟩
theorem se_one {op : BoolOp} (ha : SE X EX a fa) : SE X EX (.BoolOp op [a] pos) fa := pe_one ha
theorem se_not (ha : SE X EX a fa) : SE X EX (.UnaryOp .Not a pos) (dNot fa) := pe_mono (pe_not ha) fun σ H Q ⟨Fm, Hb, ia, env, A, p⟩ =>
  ⟨Fm, Hb, ia, env, A, Post.bind p fun val e1 H1 Hb1 s1 A1 p1 v hv => by
    dsimp only at p1
    split at p1
    · rename_i x b
      cases (show v = V.bl b from hv)
      exact ⟨b, rfl, Post.imm p1 A1 rfl⟩
    · exact p1.elim⟩
theorem sw_and1 (ha : ST X EX a ta) : SW X EX (.BoolOp .And [a] pos) ta := pw_and1 ha
theorem sw_or1 (ha : ST X EX a ta) : SW X EX (.BoolOp .Or [a] pos) ta := pw_or1 ha
theorem sw_and (ha : ST X EX a ta) (hb : SW X EX (.BoolOp .And (b :: rest') pos) tb) : SW X EX (.BoolOp .And (a :: b :: rest') pos) (tAndD ta tb) := pw_mono (pw_and ha hb) fun σ H Q ⟨Fm, Hb, ia, env, A, p⟩ =>
  ⟨Fm, Hb, ia, env, A, Post.bind p fun k e1 H1 Hb1 s1 A1 p1 => by
    cases k with
    | true => exact iteT (⟨Fm, Hb1, ia, e1, A1, p1⟩)
    | false => exact iteF (p1 H1 Hb1 (Same.refl _) A1)⟩
theorem sw_or (ha : ST X EX a ta) (hb : SW X EX (.BoolOp .Or (b :: rest') pos) tb) : SW X EX (.BoolOp .Or (a :: b :: rest') pos) (tOrD ta tb) := pw_mono (pw_or ha hb) fun σ H Q ⟨Fm, Hb, ia, env, A, p⟩ =>
  ⟨Fm, Hb, ia, env, A, Post.bind p fun k e1 H1 Hb1 s1 A1 p1 => by
    cases k with
    | true => exact iteT (p1 H1 Hb1 (Same.refl _) A1)
    | false => exact iteF (⟨Fm, Hb1, ia, e1, A1, p1⟩)⟩
theorem st_not (ha : ST X EX a ta) : ST X EX (.UnaryOp .Not a pos) (tNotD ta) := pt_mono (pt_not ha) fun σ H Q ⟨Fm, Hb, ia, env, A, p⟩ =>
  ⟨Fm, Hb, ia, env, A, Post.bind p fun k e1 H1 Hb1 s1 A1 p1 => p1 H1 Hb1 (Same.refl _) A1⟩
theorem se_if (hc : ST X EX c ta) (ha : SE X EX a fa) (hb : SE X EX b fb) : SE X EX (.IfExp c a b pos) (dIf ta fa fb) := pe_mono (pe_ifExp hc ha hb) fun σ H Q ⟨Fm, Hb, ia, env, A, p⟩ =>
  ⟨Fm, Hb, ia, env, A, Post.bind p fun k e1 H1 Hb1 s1 A1 p1 => by
    cases k with
    | true => exact iteT (⟨Fm, Hb1, ia, e1, A1, p1⟩)
    | false => exact iteF (⟨Fm, Hb1, ia, e1, A1, p1⟩)⟩
theorem truV {W : Wd} {H : Hp} {d : Dt} {v : V} {k : Bool} (r : RdD W H d v) (h : truD d = some k) : TruV W.K v H k := by
  cases d with
  | non => cases (show v = .non from r); cases h; rfl
  | bl b => cases (show v = .bl b from r); cases h; rfl
  | int i => cases (show v = .int i from r); cases h; rfl
  | str x =>
    cases (show v = .str x from r)
    simp only [truD] at h
    split at h
    · rename_i hz
      cases h
      exact ⟨hz, rfl⟩
    · cases h
  | lst ds =>
    obtain ⟨a, vs, rfl, h1, h2⟩ := r
    cases h
    refine .inl ⟨vs, .inl (.inl h1), ?_⟩
    cases ds with
    | nil => cases (show vs = [] from h2); rfl
    | cons x y => obtain ⟨_, _, rfl, _⟩ := h2; rfl
  | tup ds =>
    obtain ⟨a, vs, rfl, h1, h2⟩ := r
    cases h
    refine .inr (.inl ⟨vs, h1, ?_⟩)
    cases ds with
    | nil => cases (show vs = [] from h2); rfl
    | cons x y => obtain ⟨_, _, rfl, _⟩ := h2; rfl
  | scr _ => cases h
  | dct _ _ => cases h
  | obj _ _ _ => cases h
theorem st_tru (ha : SE X EX a fa) (he : ∀ whole, isTrue a X.env whole = (do let v ← whole; standAt a.pos; holding [v] (truthy v))) : ST X EX a (dTru fa) := pt_mono (pt_truth ha he) fun σ H Q ⟨Fm, Hb, ia, env, A, p⟩ =>
  ⟨Fm, Hb, ia, env, A, Post.bindV p fun val e1 v H1 Hb1 s1 A1 r1 p1 => by
    simp only [asTru] at p1
    split at p1
    · rename_i k hk
      have t := truV (H := H1) (RdD.mono A1.bs.hb _ _ r1) hk
      exact ⟨k, t, p1 H1 Hb1 (Same.refl _) A1⟩
    · exact p1.elim⟩
/-- a op1 b op2 c -/
def dChain (g g' : Dt → Dt → Res Val) (fa fb fc : DE) : DE := fun env => (fa env).bind fun p => (fb p.2).bind fun q => match g p.1.d q.1.d with
  | .ok (.imm (.bl true)) => (fc q.2).bind fun r => (g' q.1.d r.1.d).map fun v => (v, r.2)
  | .ok (.imm (.bl false)) => .ok (.imm (.bl false), q.2)
  | _ => .bad
theorem rd_chain {W : Wd} {r r' : R2} {g g' : Dt → Dt → Res Val} {fc : DE} (hs : OpS W r g) (hs' : OpS W r' g') : ∀ σ H Q, rdE W EX (dChain g g' fa fb fc) σ H Q → tChain r r' (rdE W EX fa) (rdE W EX fb) (rdE W EX fc) σ H Q := fun σ H Q ⟨Fm, Hb, ia, env, A, p⟩ =>
  ⟨Fm, Hb, ia, env, A, Post.bindV p fun va e1 x H1 Hb1 s1 A1 r1 p1 => ⟨Fm, Hb1, ia, e1, A1, Post.bindV p1 fun vb e2 y H2 Hb2 s2 A2 r2 p2 => by
    dsimp only at p2
    refine hs EX Fm Hb2 ia e2 σ H2 _ _ x y _ A2 (RdD.mono s2 _ _ r1) r2 ?_
    split at p2
    · rename_i eg
      rw [eg]
      intro H3 Hb3 s3 A3 v hv
      cases (show v = V.bl true from hv)
      exact ⟨true, rfl, iteT ⟨Fm, Hb3, ia, e2, A3, Post.bindV (Post.mono s3 p2) fun vc e4 z H4 Hb4 s4 A4 r4 p4 => hs' EX Fm Hb4 ia e4 σ H4 _ _ y z Q A4 (RdD.mono (s3.trans s4) _ _ r2) r4 p4⟩⟩
    · rename_i eg
      rw [eg]
      intro H3 Hb3 s3 A3 v hv
      cases (show v = V.bl false from hv)
      exact ⟨false, rfl, iteF (p2 H3 Hb3 s3 A3 _ rfl)⟩
    · exact p2.elim⟩⟩
end
end G


set_option maxRecDepth 100000
set_option maxHeartbeats 4000000
/-! Kern5: argument lists, displays, subscripts, slices, built-ins on data. -/
namespace G
open PySem PySem.Spec PyProof.Rows L2

/-! ### arguments and displays -/
def aNil : DA := fun env => .ok ([], env)
def aCons (f : DE) (g : DA) : DA := fun env => (f env).bind fun p => (g p.2).bind fun q => .ok (p.1.d :: q.1, q.2)
def seqD : Dt → Option (List Dt)
  | .lst ds => some ds
  | .tup ds => some ds
  | .scr ns => some (ns.map .int)
  | _ => none
def aStar (f : DE) (g : DA) : DA := fun env => (f env).bind fun p => match seqD p.1.d with
  | some ds => (g p.2).bind fun q => .ok (ds ++ q.1, q.2)
  | none => .bad
def dTup (g : DA) : DE := fun env => (g env).bind fun p => if p.1.length ≤ sizeLine then .ok (.imm (.tup p.1), p.2) else .bad
def dLst (g : DA) : DE := fun env => (g env).bind fun p => if p.1.length ≤ sizeLine then .ok (.fresh (.lst p.1), p.2) else .bad
theorem seqD_rd {W : Wd} {H : Hp} {d : Dt} {v : V} {ds : List Dt} (r : RdD W H d v) (h : seqD d = some ds) : ∃ a vs, v = .ref a ∧ (SqL W.K H a vs ∨ SqT W.K H a vs) ∧ RdL W H ds vs := by
  cases d with
  | lst es =>
    cases h
    obtain ⟨a, vs, rfl, h1, h2⟩ := r
    exact ⟨a, vs, rfl, .inl (.inl (.inl h1)), h2⟩
  | tup es =>
    cases h
    obtain ⟨a, vs, rfl, h1, h2⟩ := r
    exact ⟨a, vs, rfl, .inr h1, h2⟩
  | scr ns =>
    cases h
    obtain ⟨a, rfl, h1⟩ := r
    exact ⟨a, _, rfl, .inl h1, RdL.ofInts ns⟩
  | _ => cases h
section
variable {X : Cx} {EX : XK} {pos p1 : Pos} {e a b c : Expr} {es : List Expr} {f fa fb : DE} {g : DA}
theorem sa_nil : SA X EX [] aNil := pa_mono pa_nil fun σ H Q ⟨Fm, Hb, ia, env, A, p⟩ => p H Hb (Same.refl _) A [] rfl
theorem sa_cons (ha : SE X EX e f) (hr : SA X EX es g) (hs : starEach (e :: es) X.env = (false, eval e X.env) :: starEach es X.env) : SA X EX (e :: es) (aCons f g) := pa_mono (pa_cons ha hr hs) fun σ H Q ⟨Fm, Hb, ia, env, A, p⟩ =>
  ⟨Fm, Hb, ia, env, A, Post.bindV p fun va e1 x H1 Hb1 s1 A1 r1 q1 => ⟨Fm, Hb1, ia, e1, A1, Post.bind q1 fun ds e2 H2 Hb2 s2 A2 q2 vs hv => q2 H2 Hb2 (Same.refl _) A2 (x :: vs) ⟨x, vs, rfl, RdD.mono s2 _ _ r1, hv⟩⟩⟩
theorem sa_star (ha : SE X EX e f) (hr : SA X EX es g) : SA X EX (.Starred e p1 :: es) (aStar f g) := pa_mono (StX.pa_star ha hr) fun σ H Q ⟨Fm, Hb, ia, env, A, p⟩ =>
  ⟨Fm, Hb, ia, env, A, Post.bindV p fun va e1 x H1 Hb1 s1 A1 r1 q1 => by
    dsimp only at q1
    split at q1
    · rename_i ds hd
      obtain ⟨a, vs, rfl, h1, h2⟩ := seqD_rd (RdD.mono A1.bs.hb _ _ r1) hd
      obtain ⟨a', vs', e', h1', h2'⟩ := seqD_rd r1 hd
      cases e'
      refine ⟨a, vs', rfl, ?_, Fm, Hb1, ia, e1, A1, Post.bind q1 fun es e2 H2 Hb2 s2 A2 q2 ws hw => q2 H2 Hb2 (Same.refl _) A2 (vs' ++ ws) ((RdL.mono s2 _ _ h2').append hw)⟩
      rcases h1' with h | h
      · exact .inr (same_l A1.bs.hb h)
      · exact .inl (same_t A1.bs.hb h)
    · exact q1.elim⟩
theorem se_tup {k : Nat} (ha : SA X EX es g) : SE X EX (.Tuple es k pos) (dTup g) := pe_mono (pe_tup ha) fun σ H Q ⟨Fm, Hb, ia, env, A, p⟩ =>
  ⟨Fm, Hb, ia, env, A, Post.bind p fun ds e1 H1 Hb1 s1 A1 q1 vs hv => by
    dsimp only at q1
    split at q1
    · rename_i hz
      exact ⟨by rw [← hv.len]; exact hz, Post.newT q1 A1 hv⟩
    · exact q1.elim⟩
theorem se_lst (ha : SA X EX es g) : SE X EX (.List es pos) (dLst g) := pe_mono (pe_lst ha) fun σ H Q ⟨Fm, Hb, ia, env, A, p⟩ =>
  ⟨Fm, Hb, ia, env, A, Post.bind p fun ds e1 H1 Hb1 s1 A1 q1 vs hv => by
    dsimp only at q1
    split at q1
    · rename_i hz
      exact ⟨by rw [← hv.len]; exact hz, Post.newL q1 A1 hv⟩
    · exact q1.elim⟩

/-! ### subscripts -/
theorem RdL.ixN {α : Type} (xs : List α) (i : Int) : atI xs i = (L2.ixN xs.length i).bind fun j => xs[j]? := rfl
theorem RdL.atI {W : Wd} {H : Hp} {ds : List Dt} {vs : List V} {k : Int} {d : Dt} (h : RdL W H ds vs) (e : L2.atI ds k = some d) : ∃ v, L2.atI vs k = some v ∧ RdD W H d v := by
  unfold L2.atI at e ⊢
  rw [← h.len]
  cases q : L2.ixN ds.length k with
  | none => rw [q] at e; cases e
  | some j =>
    rw [q] at e
    exact h.get (i := j) e
def opIx : Dt → Dt → Res Val
  | .lst ds, .int k => match L2.atI ds k with
    | some d => .ok (.imm d)
    | none => .bad
  | .tup ds, .int k => match L2.atI ds k with
    | some d => .ok (.imm d)
    | none => .bad
  | .str z, .int k => if z.length ≤ sizeLine then match L2.atI z.cps.toList k with
    | some c => .ok (.imm (.str ⟨#[c]⟩))
    | none => .bad else .bad
  | _, _ => .bad
theorem ops_ix {W : Wd} : OpS W (rIx W.K) opIx := by
  intro EX Fm Hb ia env σ H d1 d2 x y Q A r1 r2 p
  cases d1 <;> cases d2 <;> first
    | exact p.elim
    | skip
  · rename_i z k
    simp only [opIx] at p
    split at p
    · rename_i hz
      split at p
      · rename_i c hc
        exact .inr (.inr ⟨z, k, c, r1, r2, hz, hc, Post.imm p A rfl⟩)
      · exact p.elim
    · exact p.elim
  · rename_i ds k
    simp only [opIx] at p
    split at p
    · rename_i d hd
      obtain ⟨a, vs, rfl, h1, h2⟩ := r1
      obtain ⟨v, h3, h4⟩ := h2.atI hd
      exact .inl ⟨a, vs, k, v, rfl, r2, .inl (.inl (A.bs.hb _ _ h1)), h3, Post.imm p A h4⟩
    · exact p.elim
  · rename_i ds k
    simp only [opIx] at p
    split at p
    · rename_i d hd
      obtain ⟨a, vs, rfl, h1, h2⟩ := r1
      obtain ⟨v, h3, h4⟩ := h2.atI hd
      exact .inr (.inl ⟨a, vs, k, v, rfl, r2, same_t A.bs.hb h1, h3, Post.imm p A h4⟩)
    · exact p.elim
theorem se_ix (ha : SE X EX a fa) (hb : SE X EX b fb) (hs : PlainIx b) : SE X EX (.Subscript a b pos) (dBin opIx fa fb) := pe_mono (pe_ix ix_seq ha hb hs) (rd_bin ops_ix)
/-- what a slot holds, owned or not -/
def slotD : Slot → Option Dt
  | .un => none
  | .imm d => some d
  | .own d => some d
  | .io d => some d
/-- an item of what a name holds, which is not given up -/
def dIxS (i : Nat) (fb : DE) : DE := fun env => if (env[i]?.bind slotD).isNone then .bad else (fb env).bind fun q => match q.2[i]?.bind slotD with
  | some d => (opIx d q.1.d).map fun v => (v, q.2)
  | none => .bad
theorem slot_val {W : Wd} {Fm Hb H : Hp} {ia : Option Addr} {env : Env'} {σ : L2.St} (A : Agr W Fm Hb ia env σ H) {i : Nat} {d : Dt} (h : env[i]?.bind slotD = some d) :
    ∃ v, σ[i]? = some (some v) ∧ (RdD W Hb d v ∨ ∃ a, v = .ref a ∧ OwnAt W Hb H a d) := by
  cases q : env[i]? with
  | none => rw [q] at h; cases h
  | some s =>
    rw [q] at h
    cases s with
    | un => cases h
    | imm d' =>
      cases h
      obtain ⟨v, h1, h2⟩ := A.imm i d q
      exact ⟨v, h1, .inl h2⟩
    | own d' =>
      cases h
      obtain ⟨a, h1, h2, h3, h4⟩ := A.own i d (.inl q)
      exact ⟨_, h1, .inr ⟨a, rfl, h4⟩⟩
    | io d' =>
      cases h
      obtain ⟨a, h1, h2, h3, h4⟩ := A.own i d (.inr q)
      exact ⟨_, h1, .inr ⟨a, rfl, h4⟩⟩
theorem se_ixS {i : Nat} (ha : PE X a (tVar i)) (hb : SE X EX b fb) (hs : PlainIx b) : SE X EX (.Subscript a b pos) (dIxS i fb) := pe_mono (pe_ix ix_seq ha hb hs) fun σ H Q ⟨Fm, Hb, ia, env, A, p⟩ => by
  unfold dIxS at p
  split at p
  · exact p.elim
  · rename_i hn
    obtain ⟨d0, hd0⟩ := Option.isSome_iff_exists.mp (by
      cases q : env[i]?.bind slotD with
      | none => rw [q] at hn; exact absurd rfl hn
      | some d => rfl : (env[i]?.bind slotD).isSome = true)
    obtain ⟨v0, hv0, _⟩ := slot_val A hd0
    refine ⟨v0, hv0, Fm, Hb, ia, env, A, Post.bindV p fun vb e2 y H2 Hb2 s2 A2 r2 p2 => ?_⟩
    dsimp only at p2
    split at p2
    · rename_i d hd
      obtain ⟨v1, hv1, hr⟩ := slot_val A2 hd
      rw [hv0] at hv1
      cases hv1
      rcases hr with hr | ⟨a, rfl, ho⟩
      · exact ops_ix (W := wd X) EX Fm Hb2 ia e2 σ H2 d _ v0 y Q A2 hr r2 p2
      · cases d with
        | lst ds =>
          obtain ⟨vs, h1, h2⟩ := ho
          cases hk : vb.d with
          | int k =>
            rw [hk] at p2 r2
            simp only [opIx] at p2
            split at p2
            · rename_i x hx
              obtain ⟨w, h3, h4⟩ := h2.atI hx
              exact .inl ⟨a, vs, k, w, rfl, r2, .inl (.inl h1), h3, Post.imm p2 A2 h4⟩
            · exact p2.elim
          | _ => rw [hk] at p2; exact p2.elim
        | dct ks ds => exact (show False from by
            unfold opIx at p2
            exact p2).elim
        | _ => exact ho.elim
    · exact p2.elim

/-! ### slices -/
abbrev DO := Env' → Res (Option Int × Env')
abbrev GO (Q : Option Int → Hp → Prop) : Option Int → Env' → Hp → Hp → Prop := fun b _ _ H => Q b H
def rdO (W : Wd) (EX : XK) (f : DO) : TO := fun σ H Q => ∃ Fm Hb ia env, Agr W Fm Hb ia env σ H ∧ Post W EX Fm Hb ia σ (GO Q) (f env)
abbrev SO (X : Cx) (EX : XK) (e : Option Expr) (f : DO) : Prop := PO X e (rdO (wd X) EX f)
theorem po_mono {X : Cx} {e : Option Expr} {t t' : TO} (h : PO X e t) (w : ∀ σ H Q, t' σ H Q → t σ H Q) : PO X e t' := ⟨fun pins s σ H Q I q => h.run pins s σ H Q I (w σ H Q q)⟩
def oNone : DO := fun env => .ok (none, env)
def asI : Val × Env' → Res (Option Int × Env')
  | (.imm (.int i), e) => .ok (some i, e)
  | _ => .bad
def oSome (f : DE) : DO := fun env => (f env).bind asI
theorem so_none : SO X EX none oNone := po_mono po_none fun σ H Q ⟨Fm, Hb, ia, env, A, p⟩ => p H Hb (Same.refl _) A
theorem so_some (ha : SE X EX a fa) : SO X EX (some a) (oSome fa) := po_mono (po_some ha) fun σ H Q ⟨Fm, Hb, ia, env, A, p⟩ =>
  ⟨Fm, Hb, ia, env, A, Post.bind p fun val e1 H1 Hb1 s1 A1 q1 v hv => by
    unfold asI at q1
    split at q1
    · rename_i i e' q
      cases q
      cases (show v = V.int i from hv)
      exact ⟨i, rfl, q1 H1 Hb1 (Same.refl _) A1⟩
    · exact q1.elim⟩
def cutG {α : Type} (xs : List α) (lo hi : Option Int) : List α := (xs.drop (HT.sIx xs.length 0 lo)).take (HT.sIx xs.length xs.length hi - HT.sIx xs.length 0 lo)
theorem RdL.cut {W : Wd} {H : Hp} {ds : List Dt} {vs : List V} (h : RdL W H ds vs) (lo hi : Option Int) : RdL W H (cutG ds lo hi) (cutV vs lo hi) := by
  unfold cutG cutV
  rw [h.len]
  exact (h.drop _).take _
def slD : Dt → Option Int → Option Int → Res Val
  | .lst ds, lo, hi => .ok (.fresh (.lst (cutG ds lo hi)))
  | .scr ns, lo, hi => .ok (.fresh (.lst (cutG (ns.map .int) lo hi)))
  | .tup ds, lo, hi => .ok (.imm (.tup (cutG ds lo hi)))
  | _, _, _ => .bad
def rSlAll (K : PySem.W.Frag) : V → Option Int → Option Int → Hp → VK → Prop := fun x lo hi H Q => rSlL K x lo hi H Q ∨ rSlA K x lo hi H Q
theorem sl_all : SlR X (rSlAll X.K) := sl_list.or sl_tupA
def dSl (fa : DE) (fl fh : DO) : DE := fun env => (fa env).bind fun p => (fl p.2).bind fun q => (fh q.2).bind fun r => (slD p.1.d q.1 r.1).map fun v => (v, r.2)
theorem cut_whole {α : Type} {xs : List α} {lo hi : Option Int} (h : HT.sIx xs.length 0 lo = 0 ∧ HT.sIx xs.length xs.length hi = xs.length) : cutG xs lo hi = xs := by
  unfold cutG
  rw [h.1, h.2, List.drop_zero, Nat.sub_zero, List.take_length]
theorem se_sl {lo hi : Option Expr} {fl fh : DO} (ha : SE X EX a fa) (hl : SO X EX lo fl) (hh : SO X EX hi fh) : SE X EX (.Subscript a (.Slice lo hi none p1) pos) (dSl fa fl fh) := pe_mono (pe_slice sl_all ha hl hh) fun σ H Q ⟨Fm, Hb, ia, env, A, p⟩ =>
  ⟨Fm, Hb, ia, env, A, Post.bindV p fun va e1 x H1 Hb1 s1 A1 r1 q1 => ⟨Fm, Hb1, ia, e1, A1, Post.bind q1 fun l e2 H2 Hb2 s2 A2 q2 => ⟨Fm, Hb2, ia, e2, A2, Post.bind q2 fun u e3 H3 Hb3 s3 A3 q3 => by
    have r3 := RdD.mono (s2.trans s3) _ _ r1
    dsimp only at q3
    generalize va.d = d at q3 r3
    cases d with
    | lst ds =>
      obtain ⟨a, vs, rfl, h1, h2⟩ := r3
      exact .inl ⟨a, vs, rfl, .inl (.inl (A3.bs.hb _ _ h1)), Post.newL q3 A3 (h2.cut l u)⟩
    | scr ns =>
      obtain ⟨a, rfl, h1⟩ := r3
      exact .inl ⟨a, _, rfl, same_l A3.bs.hb h1, Post.newL q3 A3 ((RdL.ofInts ns).cut l u)⟩
    | tup ds =>
      obtain ⟨a, vs, rfl, h1, h2⟩ := r3
      refine .inr ⟨a, vs, rfl, same_t A3.bs.hb h1, fun w => ?_, fun w => Post.newT q3 A3 (h2.cut l u)⟩
      have e : cutG ds l u = ds := cut_whole (by rw [h2.len]; exact w)
      rw [show slD (.tup ds) l u = .ok (.imm (.tup ds)) by show Res.ok (Val.imm (Dt.tup (cutG ds l u))) = _; rw [e]] at q3
      exact Post.imm q3 A3 ⟨a, vs, rfl, h1, h2⟩
    | _ => exact q3.elim⟩⟩⟩

/-! ### calls of built-ins -/
def CaS (W : Wd) (r : List V → Hp → VK → Prop) (g : List Dt → Res Val) : Prop := ∀ EX Fm Hb ia env σ H ds vs Q, Agr W Fm Hb ia env σ H → RdL W Hb ds vs → Post W EX Fm Hb ia σ (GE W Fm σ Q) ((g ds).map fun v => (v, env)) → r vs H Q
def dCallB (g : List Dt → Res Val) (fa : DA) : DE := fun env => (fa env).bind fun p => (g p.1).map fun v => (v, p.2)
theorem rd_cb {W : Wd} {r : List V → Hp → VK → Prop} {h : List Dt → Res Val} (hs : CaS W r h) : ∀ σ H Q, rdE W EX (dCallB h g) σ H Q → tCB r (rdA W EX g) σ H Q := fun σ H Q ⟨Fm, Hb, ia, env, A, p⟩ =>
  ⟨Fm, Hb, ia, env, A, Post.bind p fun ds e1 H1 Hb1 s1 A1 q1 vs hv => hs EX Fm Hb1 ia e1 σ H1 ds vs Q A1 hv q1⟩
end
end G


set_option maxRecDepth 100000
set_option maxHeartbeats 4000000
/-! Kern6: the built-ins' tables on data. -/
namespace G
open PySem PySem.Spec PyProof.Rows L2

/-! ### sum, max, min of a tuple of ints -/
section
variable {prog : Program} {w : World} {A : Around} {E : Value → Shared → Prop} {s : Shared} {l : Addr} {xs : Array (Int × Tok)}
theorem tup_iter {Q : Value → Shared → Prop} (ht : s.heap.IsTuple l (intItems xs))
    (h : ∀ s2 : Shared, s2 = { s with heap := s.heap.push { cls := .type "tuple_iterator", data := .fields #[.ref l, .int 0 0] } } →
      (s2.heap.IsTupleIter s.heap.objs.size l 0 ∧ s2.heap.IsTuple l (intItems xs)) → (∀ b ∈ [s.heap.objs.size, l], b < s2.heap.objs.size) → l ≠ s.heap.objs.size → Q (.ref s.heap.objs.size) s2) :
    wpAny (model prog w) A (pyIter (.ref l)) Q E s := by
  have lt : l < s.heap.objs.size := by
    obtain ⟨_, e, _⟩ := id ht
    exact Heap.lt_size e
  refine wpAny_pyIter_tuple ht (h _ rfl ⟨⟨_, Heap.get?_push_size _ rfl, rfl, rfl⟩, ht.at fun o e => Heap.get?_push_of_some _ e⟩ (fun b hb => ?_) (Nat.ne_of_lt lt))
  show b < (s.heap.push _).objs.size
  rw [Heap.size_push]
  simp only [List.mem_cons, List.not_mem_nil, or_false] at hb
  rcases hb with rfl | rfl
  · exact Nat.lt_succ_self _
  · exact Nat.lt_succ_of_lt lt
theorem tup_old {h' : Heap} (hk : ∀ b o, b ∉ [s.heap.objs.size] → (s.heap.push { cls := .type "tuple_iterator", data := .fields #[.ref l, .int 0 0] }).get? b = some o → h'.get? b = some o) :
    ∀ b o, s.heap.get? b = some o → h'.get? b = some o := fun b o e =>
  hk b o (fun hm => absurd (List.mem_singleton.mp hm ▸ Heap.lt_size e) (Nat.lt_irrefl _)) (Heap.get?_push_of_some _ e)
theorem tup_sum {Q : Value → Shared → Prop} (hh : A.handled = none) (ht : s.heap.IsTuple l (intItems xs))
    (h : ∀ h' tk t', (∀ b o, s.heap.get? b = some o → h'.get? b = some o) → Q (.int (preSum (numAt xs) xs.size) t') { s with heap := h', toks := tk }) : wpAny (model prog w) A (call (.builtin "sum") [.ref l]) Q E s := by
  refine call_sum_walkG (tup_iter ht fun s2 e st hfp hne => ?_)
  subst e
  refine ⟨_, _, _, _, _, _, numAt xs, rfl, Walks.tuple (A := A.in1) hh _ l hne (intItems xs), st, hfp, (fun _ _ hv => intItems_at hv), fun h' tk t' hk => ?_⟩
  have := h h' tk t' (tup_old hk)
  simpa [intItems] using this
theorem tup_max {Q : Value → Shared → Prop} (hh : A.handled = none) (ht : s.heap.IsTuple l (intItems xs)) (hne : 0 < xs.size)
    (h : ∀ v h' tk, (intItems xs)[argBest (fun i j => decide (numAt xs i > numAt xs j)) (xs.size - 1)]? = some v → (∀ b o, s.heap.get? b = some o → h'.get? b = some o) → Q v { s with heap := h', toks := tk }) :
    wpAny (model prog w) A (call (.builtin "max") [.ref l]) Q E s := by
  refine call_max_walk (tup_iter ht fun s2 e st hfp hn => ?_)
  subst e
  refine ⟨_, _, _, _, _, _, _, rfl, Walks.tuple (A := A.in1) hh _ l hn (intItems xs), st, hfp, by simpa [intItems] using hne, CmpOf.ints_gt (numAt xs) (fun _ _ hv => intItems_at hv), fun v h' tk hP hk => ?_⟩
  exact h v h' tk (by simpa [intItems] using hP) (tup_old hk)
theorem tup_min {Q : Value → Shared → Prop} (hh : A.handled = none) (ht : s.heap.IsTuple l (intItems xs)) (hne : 0 < xs.size)
    (h : ∀ v h' tk, (intItems xs)[argBest (fun i j => decide (numAt xs i < numAt xs j)) (xs.size - 1)]? = some v → (∀ b o, s.heap.get? b = some o → h'.get? b = some o) → Q v { s with heap := h', toks := tk }) :
    wpAny (model prog w) A (call (.builtin "min") [.ref l]) Q E s := by
  refine call_min_walk (tup_iter ht fun s2 e st hfp hn => ?_)
  subst e
  refine ⟨_, _, _, _, _, _, _, rfl, Walks.tuple (A := A.in1) hh _ l hn (intItems xs), st, hfp, by simpa [intItems] using hne, CmpOf.ints_lt (numAt xs) (fun _ _ hv => intItems_at hv), fun v h' tk hP hk => ?_⟩
  exact h v h' tk (by simpa [intItems] using hP) (tup_old hk)
end
section
variable {X : Cx}
def rSumT (K : PySem.W.Frag) : List V → Hp → VK → Prop := fun vs H Q => ∃ (a : Addr) (ns : List Int), vs = [V.ref a] ∧ SqT K H a (ns.map V.int) ∧ Q (.int ns.sum) H
def rBestT (K : PySem.W.Frag) (le : Int → Int → Prop) : List V → Hp → VK → Prop := fun vs H Q => ∃ (a : Addr) (ns : List Int), vs = [V.ref a] ∧ SqT K H a (ns.map V.int) ∧ 0 < ns.length ∧ ∀ m, m ∈ ns → (∀ y, y ∈ ns → le y m) → Q (.int m) H
theorem sumT_ok (hc : X.calm = true) : CallR X (.builtin "sum") (rSumT X.K) := by
  intro pins s σ H xs us Q I r h
  obtain ⟨a, ns, rfl, hS, q⟩ := h
  obtain ⟨u, rfl, rx⟩ := vals1 r
  cases rx
  obtain ⟨its, rv, ht, hz⟩ := I.tuple hS
  have hi := Vals.ints rv
  obtain ⟨zs, e⟩ := hi.allInts.items
  have hn : numsOf (intItems zs).toList = ns := by rw [← e]; exact hi.numsOf
  rw [nums_intItems] at hn
  have ht' : s.heap.IsTuple a (intItems zs) := by rw [← e]; exact ht
  refine tup_sum (I.ok.hd hc) ht' fun h' tk t' hk => ⟨.int ns.sum, H, I.kept (t' := tk) hk, ⟨t', ?_⟩, q⟩
  rw [preSum_eq, List.take_of_length_le (by simp), hn]
theorem maxT_ok (hc : X.calm = true) : CallR X (.builtin "max") (rBestT X.K fun y m => y ≤ m) := by
  intro pins s σ H xs us Q I r h
  obtain ⟨a, ns, rfl, hS, hne, q⟩ := h
  obtain ⟨u, rfl, rx⟩ := vals1 r
  cases rx
  obtain ⟨its, rv, ht, hz⟩ := I.tuple hS
  have hi := Vals.ints rv
  obtain ⟨zs, e⟩ := hi.allInts.items
  have hn : numsOf (intItems zs).toList = ns := by rw [← e]; exact hi.numsOf
  rw [nums_intItems] at hn
  subst hn
  have ht' : s.heap.IsTuple a (intItems zs) := by rw [← e]; exact ht
  have hsz : 0 < zs.size := by simpa using hne
  refine tup_max (I.ok.hd hc) ht' hsz fun v h' tk hv hk => ?_
  obtain ⟨t, rfl⟩ := intItems_at hv
  obtain ⟨b1, b2⟩ := argBest_gt (numAt zs) (zs.size - 1)
  refine ⟨.int _, H, I.kept (t' := tk) hk, ⟨t, rfl⟩, q _ ?_ fun y hy => ?_⟩
  · rw [numAt_eq]
    exact PySem.getD_mem (by rw [List.length_map, Array.length_toList]; omega)
  · obtain ⟨j, hj, rfl⟩ := mem_getD hy
    rw [List.length_map, Array.length_toList] at hj
    rw [← numAt_eq]
    exact b2 j (by omega)
theorem minT_ok (hc : X.calm = true) : CallR X (.builtin "min") (rBestT X.K fun y m => m ≤ y) := by
  intro pins s σ H xs us Q I r h
  obtain ⟨a, ns, rfl, hS, hne, q⟩ := h
  obtain ⟨u, rfl, rx⟩ := vals1 r
  cases rx
  obtain ⟨its, rv, ht, hz⟩ := I.tuple hS
  have hi := Vals.ints rv
  obtain ⟨zs, e⟩ := hi.allInts.items
  have hn : numsOf (intItems zs).toList = ns := by rw [← e]; exact hi.numsOf
  rw [nums_intItems] at hn
  subst hn
  have ht' : s.heap.IsTuple a (intItems zs) := by rw [← e]; exact ht
  have hsz : 0 < zs.size := by simpa using hne
  refine tup_min (I.ok.hd hc) ht' hsz fun v h' tk hv hk => ?_
  obtain ⟨t, rfl⟩ := intItems_at hv
  obtain ⟨b1, b2⟩ := argBest_lt (numAt zs) (zs.size - 1)
  refine ⟨.int _, H, I.kept (t' := tk) hk, ⟨t, rfl⟩, q _ ?_ fun y hy => ?_⟩
  · rw [numAt_eq]
    exact PySem.getD_mem (by rw [List.length_map, Array.length_toList]; omega)
  · obtain ⟨j, hj, rfl⟩ := mem_getD hy
    rw [List.length_map, Array.length_toList] at hj
    rw [← numAt_eq]
    exact b2 j (by omega)
end

/-! ### ints, bools of data -/
def intsD : List Dt → Option (List Int)
  | [] => some []
  | .int i :: ds => (intsD ds).map (i :: ·)
  | _ => none
theorem intsD_map : ∀ {ds : List Dt} {ns : List Int}, intsD ds = some ns → ds = ns.map .int
  | [], ns, e => by cases e; rfl
  | d :: ds, ns, e => by
    cases d <;> simp only [intsD, Option.map_eq_some_iff, reduceCtorEq] at e
    obtain ⟨ms, e1, rfl⟩ := e
    rw [intsD_map e1]
    rfl
@[simp] theorem intsD_ints : ∀ ns : List Int, intsD (ns.map .int) = some ns
  | [] => rfl
  | n :: ns => by
    show (intsD (ns.map .int)).map (n :: ·) = _
    rw [intsD_ints ns]
    rfl
def blsD : List Dt → Option (List Bool)
  | [] => some []
  | .bl i :: ds => (blsD ds).map (i :: ·)
  | _ => none
theorem blsD_map : ∀ {ds : List Dt} {ns : List Bool}, blsD ds = some ns → ds = ns.map .bl
  | [], ns, e => by cases e; rfl
  | d :: ds, ns, e => by
    cases d <;> simp only [blsD, Option.map_eq_some_iff, reduceCtorEq] at e
    obtain ⟨ms, e1, rfl⟩ := e
    rw [blsD_map e1]
    rfl
@[simp] theorem blsD_bls : ∀ ns : List Bool, blsD (ns.map .bl) = some ns
  | [] => rfl
  | n :: ns => by
    show (blsD (ns.map .bl)).map (n :: ·) = _
    rw [blsD_bls ns]
    rfl
theorem RdL.bls {W : Wd} {H : Hp} : ∀ {ns : List Bool} {vs : List V}, RdL W H (ns.map .bl) vs → vs = ns.map V.bl
  | [], _, h => h
  | n :: ns, _, h => by
    obtain ⟨v, r, rfl, h2, h3⟩ := h
    rw [show v = V.bl n from h2, RdL.bls h3]
    rfl
theorem RdL.one {W : Wd} {H : Hp} {d : Dt} {vs : List V} (h : RdL W H [d] vs) : ∃ v, vs = [v] ∧ RdD W H d v := by
  obtain ⟨v, r, rfl, h2, h3⟩ := h
  cases (show r = [] from h3)
  exact ⟨v, rfl, h2⟩
theorem RdL.two {W : Wd} {H : Hp} {d e : Dt} {vs : List V} (h : RdL W H [d, e] vs) : ∃ v w, vs = [v, w] ∧ RdD W H d v ∧ RdD W H e w := by
  obtain ⟨v, r, rfl, h2, h3⟩ := h
  obtain ⟨w, rfl, h4⟩ := RdL.one h3
  exact ⟨v, w, rfl, h2, h4⟩

def bInt : List Dt → Res Val
  | [.int i] => vI i
  | [.bl b] => vI (if b then 1 else 0)
  | _ => .bad
def bBool : List Dt → Res Val
  | [.int i] => vB (i != 0)
  | [.bl b] => vB b
  | _ => .bad
def bAbs : List Dt → Res Val
  | [.int i] => vI (if i < 0 then -i else i)
  | _ => .bad
def lenD : Dt → Option Nat
  | .lst ds => some ds.length
  | .tup ds => some ds.length
  | .scr ns => some ns.length
  | .str x => if x.length ≤ sizeLine then some x.length else none
  | _ => none
def bLen : List Dt → Res Val
  | [d] => match lenD d with
    | some n => vI n
    | none => .bad
  | _ => .bad
def bTuple : List Dt → Res Val
  | [.lst ds] => .ok (.imm (.tup ds))
  | [.tup ds] => .ok (.imm (.tup ds))
  | _ => .bad
def bList : List Dt → Res Val
  | [.lst ds] => .ok (.fresh (.lst ds))
  | [.tup ds] => .ok (.fresh (.lst ds))
  | _ => .bad
def bSum : List Dt → Res Val
  | [.lst ds] => match intsD ds with
    | some ns => vI ns.sum
    | none => .bad
  | [.tup ds] => match intsD ds with
    | some ns => vI ns.sum
    | none => .bad
  | _ => .bad
def bestOf (f : List Int → Option Int) (ns : List Int) : Res Val := match f ns with
  | some m => vI m
  | none => .bad
def bMax : List Dt → Res Val
  | [.lst ds] => match intsD ds with
    | some ns => bestOf List.max? ns
    | none => .bad
  | [.tup ds] => match intsD ds with
    | some ns => bestOf List.max? ns
    | none => .bad
  | [.int i, .int j] => vI (if j > i then j else i)
  | _ => .bad
def bMin : List Dt → Res Val
  | [.lst ds] => match intsD ds with
    | some ns => bestOf List.min? ns
    | none => .bad
  | [.tup ds] => match intsD ds with
    | some ns => bestOf List.min? ns
    | none => .bad
  | [.int i, .int j] => vI (if j < i then j else i)
  | _ => .bad
def bAll : List Dt → Res Val
  | [.lst ds] => match blsD ds with
    | some ns => vB (ns.all id)
    | none => .bad
  | _ => .bad
def bAny : List Dt → Res Val
  | [.lst ds] => match blsD ds with
    | some ns => vB (ns.any id)
    | none => .bad
  | _ => .bad

section
variable {W : Wd} {X : Cx}
theorem cas_int : CaS W (fun xs H Q => (∃ i, xs = [.int i] ∧ Q (.int i) H) ∨ ∃ k, xs = [.bl k] ∧ Q (.int (if k then 1 else 0)) H) bInt := by
  intro EX Fm Hb ia env σ H ds vs Q A r p
  unfold bInt at p
  split at p
  · obtain ⟨v, rfl, h⟩ := r.one
    cases (show v = V.int _ from h)
    exact .inl ⟨_, rfl, Post.imm p A rfl⟩
  · obtain ⟨v, rfl, h⟩ := r.one
    cases (show v = V.bl _ from h)
    exact .inr ⟨_, rfl, Post.imm p A rfl⟩
  · exact p.elim
theorem cas_bool : CaS W (fun xs H Q => (∃ i, xs = [.int i] ∧ Q (.bl (i != 0)) H) ∨ ∃ k, xs = [.bl k] ∧ Q (.bl k) H) bBool := by
  intro EX Fm Hb ia env σ H ds vs Q A r p
  unfold bBool at p
  split at p
  · obtain ⟨v, rfl, h⟩ := r.one
    cases (show v = V.int _ from h)
    exact .inl ⟨_, rfl, Post.imm p A rfl⟩
  · obtain ⟨v, rfl, h⟩ := r.one
    cases (show v = V.bl _ from h)
    exact .inr ⟨_, rfl, Post.imm p A rfl⟩
  · exact p.elim
theorem cas_abs : CaS W (fun xs H Q => ∃ i, xs = [.int i] ∧ Q (.int (if i < 0 then -i else i)) H) bAbs := by
  intro EX Fm Hb ia env σ H ds vs Q A r p
  unfold bAbs at p
  split at p
  · obtain ⟨v, rfl, h⟩ := r.one
    cases (show v = V.int _ from h)
    exact ⟨_, rfl, Post.imm p A rfl⟩
  · exact p.elim
theorem lenD_rd {H : Hp} {d : Dt} {v : V} {n : Nat} (r : RdD W H d v) (h : lenD d = some n) : LenV W.K v H n := by
  cases d with
  | lst ds =>
    cases h
    obtain ⟨a, vs, rfl, h1, h2⟩ := r
    exact .inl ⟨vs, .inl (.inl h1), h2.len⟩
  | tup ds =>
    cases h
    obtain ⟨a, vs, rfl, h1, h2⟩ := r
    exact .inr ⟨vs, h1, h2.len⟩
  | scr ns =>
    cases h
    obtain ⟨a, rfl, h1⟩ := r
    exact .inl ⟨_, h1, by rw [List.length_map]⟩
  | str x =>
    cases (show v = V.str x from r)
    simp only [lenD] at h
    split at h
    · rename_i hz
      cases h
      exact ⟨hz, rfl⟩
    · cases h
  | _ => cases h
theorem cas_len : CaS W (fun xs H Q => ∃ x n, xs = [x] ∧ LenV W.K x H n ∧ Q (.int n) H) bLen := by
  intro EX Fm Hb ia env σ H ds vs Q A r p
  unfold bLen at p
  split at p
  · obtain ⟨v, rfl, h⟩ := r.one
    split at p
    · rename_i n hn
      exact ⟨v, n, rfl, lenD_rd (RdD.mono A.bs.hb _ _ h) hn, Post.imm p A rfl⟩
    · exact p.elim
  · exact p.elim
theorem cas_tuple : CaS W (fun xs H Q => ∃ p ys, xs = [.ref p] ∧ ((SqL W.K H p ys ∧ ∀ l, H l = none → Q (.ref l) (upd H l (.tup ys))) ∨ (SqT W.K H p ys ∧ Q (.ref p) H))) bTuple := by
  intro EX Fm Hb ia env σ H ds vs Q A r p
  unfold bTuple at p
  split at p
  · obtain ⟨v, rfl, h⟩ := r.one
    obtain ⟨a, vs, rfl, h1, h2⟩ := h
    exact ⟨a, vs, rfl, .inl ⟨.inl (.inl (A.bs.hb _ _ h1)), Post.newT p A h2⟩⟩
  · obtain ⟨v, rfl, h⟩ := r.one
    obtain ⟨a, vs, rfl, h1, h2⟩ := h
    exact ⟨a, vs, rfl, .inr ⟨same_t A.bs.hb h1, Post.imm p A ⟨a, vs, rfl, h1, h2⟩⟩⟩
  · exact p.elim
theorem cas_list : CaS W (fun xs H Q => ∃ p ys, xs = [.ref p] ∧ (SqL W.K H p ys ∨ SqT W.K H p ys) ∧ ∀ l, H l = none → Q (.ref l) (upd H l (.lst ys))) bList := by
  intro EX Fm Hb ia env σ H ds vs Q A r p
  unfold bList at p
  split at p
  · obtain ⟨v, rfl, h⟩ := r.one
    obtain ⟨a, vs, rfl, h1, h2⟩ := h
    exact ⟨a, vs, rfl, .inl (.inl (.inl (A.bs.hb _ _ h1))), Post.newL p A h2⟩
  · obtain ⟨v, rfl, h⟩ := r.one
    obtain ⟨a, vs, rfl, h1, h2⟩ := h
    exact ⟨a, vs, rfl, .inr (same_t A.bs.hb h1), Post.newL p A h2⟩
  · exact p.elim
def rSumAll (K : PySem.W.Frag) : List V → Hp → VK → Prop := fun vs H Q => rSum K vs H Q ∨ rSumT K vs H Q
theorem sum_all (hc : X.calm = true) : CallR X (.builtin "sum") (rSumAll X.K) := (cr_sum hc).or (sumT_ok hc)
theorem cas_sum : CaS W (rSumAll W.K) bSum := by
  intro EX Fm Hb ia env σ H ds vs Q A r p
  unfold bSum at p
  split at p
  · obtain ⟨v, rfl, h⟩ := r.one
    split at p
    · rename_i ns hn
      obtain ⟨a, vs, rfl, h1, h2⟩ := h
      rw [intsD_map hn] at h2
      obtain rfl := h2.ints
      exact .inl ⟨a, ns, rfl, .inl (.inl (A.bs.hb _ _ h1)), Post.imm p A rfl⟩
    · exact p.elim
  · obtain ⟨v, rfl, h⟩ := r.one
    split at p
    · rename_i ns hn
      obtain ⟨a, vs, rfl, h1, h2⟩ := h
      rw [intsD_map hn] at h2
      obtain rfl := h2.ints
      exact .inr ⟨a, ns, rfl, same_t A.bs.hb h1, Post.imm p A rfl⟩
    · exact p.elim
  · exact p.elim
def rMaxAll (K : PySem.W.Frag) : List V → Hp → VK → Prop := fun vs H Q => rMax K vs H Q ∨ (rBestT K (fun y m => y ≤ m) vs H Q ∨ (fun xs H Q => ∃ i j, xs = [V.int i, .int j] ∧ Q (.int (if j > i then j else i)) H) vs H Q)
def rMinAll (K : PySem.W.Frag) : List V → Hp → VK → Prop := fun vs H Q => rMin K vs H Q ∨ (rBestT K (fun y m => m ≤ y) vs H Q ∨ (fun xs H Q => ∃ i j, xs = [V.int i, .int j] ∧ Q (.int (if j < i then j else i)) H) vs H Q)
theorem max_all (hc : X.calm = true) : CallR X (.builtin "max") (rMaxAll X.K) := (cr_max hc).or ((maxT_ok hc).or (call_max2 hc))
theorem min_all (hc : X.calm = true) : CallR X (.builtin "min") (rMinAll X.K) := (cr_min hc).or ((minT_ok hc).or (call_min2 hc))
theorem max_pos {ns : List Int} {m : Int} (h : ns.max? = some m) : 0 < ns.length := by
  cases ns with
  | nil => cases h
  | cons a b => exact Nat.succ_pos _
theorem min_pos {ns : List Int} {m : Int} (h : ns.min? = some m) : 0 < ns.length := by
  cases ns with
  | nil => cases h
  | cons a b => exact Nat.succ_pos _
theorem max_is {ns : List Int} {m k : Int} (h : ns.max? = some m) (h1 : k ∈ ns) (h2 : ∀ y ∈ ns, y ≤ k) : k = m := by
  obtain ⟨h3, h4⟩ := List.max?_eq_some_iff.mp h
  have := h4 k h1
  have := h2 m h3
  omega
theorem min_is {ns : List Int} {m k : Int} (h : ns.min? = some m) (h1 : k ∈ ns) (h2 : ∀ y ∈ ns, k ≤ y) : k = m := by
  obtain ⟨h3, h4⟩ := List.min?_eq_some_iff.mp h
  have := h4 k h1
  have := h2 m h3
  omega
theorem cas_max : CaS W (rMaxAll W.K) bMax := by
  intro EX Fm Hb ia env σ H ds vs Q A r p
  unfold bMax at p
  split at p
  · obtain ⟨v, rfl, h⟩ := r.one
    split at p
    · rename_i ns hn
      unfold bestOf at p
      split at p
      · rename_i m hm
        obtain ⟨a, vs, rfl, h1, h2⟩ := h
        rw [intsD_map hn] at h2
        obtain rfl := h2.ints
        exact .inl ⟨a, ns, rfl, .inl (.inl (A.bs.hb _ _ h1)), max_pos hm, fun k k1 k2 => by rw [max_is hm k1 k2]; exact Post.imm p A rfl⟩
      · exact p.elim
    · exact p.elim
  · obtain ⟨v, rfl, h⟩ := r.one
    split at p
    · rename_i ns hn
      unfold bestOf at p
      split at p
      · rename_i m hm
        obtain ⟨a, vs, rfl, h1, h2⟩ := h
        rw [intsD_map hn] at h2
        obtain rfl := h2.ints
        exact .inr (.inl ⟨a, ns, rfl, same_t A.bs.hb h1, max_pos hm, fun k k1 k2 => by rw [max_is hm k1 k2]; exact Post.imm p A rfl⟩)
      · exact p.elim
    · exact p.elim
  · obtain ⟨v, w, rfl, h1, h2⟩ := r.two
    cases (show v = V.int _ from h1)
    cases (show w = V.int _ from h2)
    exact .inr (.inr ⟨_, _, rfl, Post.imm p A rfl⟩)
  · exact p.elim
theorem cas_min : CaS W (rMinAll W.K) bMin := by
  intro EX Fm Hb ia env σ H ds vs Q A r p
  unfold bMin at p
  split at p
  · obtain ⟨v, rfl, h⟩ := r.one
    split at p
    · rename_i ns hn
      unfold bestOf at p
      split at p
      · rename_i m hm
        obtain ⟨a, vs, rfl, h1, h2⟩ := h
        rw [intsD_map hn] at h2
        obtain rfl := h2.ints
        exact .inl ⟨a, ns, rfl, .inl (.inl (A.bs.hb _ _ h1)), min_pos hm, fun k k1 k2 => by rw [min_is hm k1 k2]; exact Post.imm p A rfl⟩
      · exact p.elim
    · exact p.elim
  · obtain ⟨v, rfl, h⟩ := r.one
    split at p
    · rename_i ns hn
      unfold bestOf at p
      split at p
      · rename_i m hm
        obtain ⟨a, vs, rfl, h1, h2⟩ := h
        rw [intsD_map hn] at h2
        obtain rfl := h2.ints
        exact .inr (.inl ⟨a, ns, rfl, same_t A.bs.hb h1, min_pos hm, fun k k1 k2 => by rw [min_is hm k1 k2]; exact Post.imm p A rfl⟩)
      · exact p.elim
    · exact p.elim
  · obtain ⟨v, w, rfl, h1, h2⟩ := r.two
    cases (show v = V.int _ from h1)
    cases (show w = V.int _ from h2)
    exact .inr (.inr ⟨_, _, rfl, Post.imm p A rfl⟩)
  · exact p.elim
theorem cas_all : CaS W (rAll W.K) bAll := by
  intro EX Fm Hb ia env σ H ds vs Q A r p
  unfold bAll at p
  split at p
  · obtain ⟨v, rfl, h⟩ := r.one
    split at p
    · rename_i ns hn
      obtain ⟨a, vs, rfl, h1, h2⟩ := h
      rw [blsD_map hn] at h2
      obtain rfl := h2.bls
      exact ⟨a, ns, rfl, .inl (.inl (A.bs.hb _ _ h1)), Post.imm p A rfl⟩
    · exact p.elim
  · exact p.elim
theorem cas_any : CaS W (rAny W.K) bAny := by
  intro EX Fm Hb ia env σ H ds vs Q A r p
  unfold bAny at p
  split at p
  · obtain ⟨v, rfl, h⟩ := r.one
    split at p
    · rename_i ns hn
      obtain ⟨a, vs, rfl, h1, h2⟩ := h
      rw [blsD_map hn] at h2
      obtain rfl := h2.bls
      exact ⟨a, ns, rfl, .inl (.inl (A.bs.hb _ _ h1)), Post.imm p A rfl⟩
    · exact p.elim
  · exact p.elim
end
end G


set_option maxRecDepth 100000
set_option maxHeartbeats 4000000
/-! Kern7: what a def promises on data; how it is called; how its body keeps the promise. -/
namespace G
open PySem PySem.Spec PyProof.Rows L2

abbrev FR := Res (Val × Option Dt)
def ValF (W : Wd) (Fm Hb H : Hp) (io : Option Addr) : Val → V → Prop
  | .imm d, v => RdD W Hb d v
  | .fresh d, v => ∃ p, v = .ref p ∧ Hb p = none ∧ Fm p = none ∧ OwnAt W Hb H p d ∧ io ≠ some p
def OutF (W : Wd) (Hb H : Hp) : Option Addr → Option Dt → Prop
  | none, none => True
  | some a, some d => Hb a = none ∧ OwnAt W Hb H a d
  | _, _ => False
def PostF (W : Wd) (E : XK) (Fm Hb : Hp) (io : Option Addr) (Q : VK) : FR → Prop
  | .ok (val, out) => ∀ v H' Hb', Same Hb Hb' → Bse Fm Hb' H' → ValF W Fm Hb' H' io val v → OutF W Hb' H' io out → Q v H'
  | .err x => ∀ c dx H' Hb', Same Hb Hb' → Bse Fm Hb' H' → ErrAt W Hb' H' x c dx → E c dx H'
  | .bad => False
def ArgF (W : Wd) (Fm Hb H : Hp) (io : Bool) (ds : List Dt) (vs : List V) (ia : Option Addr) : Prop :=
  match io with
  | false => ia = none ∧ RdL W Hb ds vs
  | true => ∃ a d dr vr, ds = d :: dr ∧ vs = .ref a :: vr ∧ ia = some a ∧ Hb a = none ∧ Fm a = none ∧ OwnAt W Hb H a d ∧ RdL W Hb dr vr
def spF (W : Wd) (n : Nat) (io : Bool) (F : List Dt → FR) : Sp := fun vs H Q E => ∃ Fm Hb ds ia, Bse Fm Hb H ∧ vs.length = n ∧ ArgF W Fm Hb H io ds vs ia ∧ PostF W E Fm Hb ia Q (F ds)

/-- as FnOk, where nothing is being shown (repr) around the call; a def may let errors out -/
structure FnG (P : Program) (w : World) (K : PySem.W.Frag) (mg : Str → Option Value) (base : Heap) (k : Nat) (f : Addr) (fd : FuncData) (ps : List Str) (sp : Sp) : Prop where
  len : ∀ vs H Q E, sp vs H Q E → vs.length = ps.length
  run : ∀ (A : Around) (outer : List Env) (s : Shared) (H : Hp) (args : Args) (us : List Value) (vs : List V) (Q : VK) (E : XK), A.guards = some [] → Room k A → Env0 P w K mg base A outer s H →
    BindsTo s fd args (ps.zip us) → Vals vs us → sp vs H Q E → codeAny (model P w) A (.call (.ref f) args) (CR (L2.CX P w) outer P w H s Q E) s
theorem FnG.mono {P : Program} {w : World} {K : PySem.W.Frag} {mg : Str → Option Value} {base : Heap} {j k : Nat} {f : Addr} {fd : FuncData} {ps : List Str} {sp : Sp} (F : FnG P w K mg base j f fd ps sp) (h : j ≤ k) : FnG P w K mg base k f fd ps sp where
  len := F.len
  run := fun A outer s H args us vs Q E hg hr => F.run A outer s H args us vs Q E hg (hr.mono h)

/-- where a parameter's value comes from: a place among the positional values, among the keywords', a default -/
inductive Src where
  | pos (i : Nat) | kw (j : Nat) | cst (v : V)
def Src.v (vs zs : List V) : Src → V
  | .pos i => (vs[i]?).getD .non
  | .kw j => (zs[j]?).getD .non
  | .cst v => v
def Src.d (ds es : List Dt) : Src → Dt
  | .pos i => (ds[i]?).getD .non
  | .kw j => (es[j]?).getD .non
  | .cst v => (flatD v).getD .non
def Src.ok (n m : Nat) : Src → Bool
  | .pos i => decide (i < n)
  | .kw j => decide (j < m)
  | .cst v => (flatD v).isSome
structure Shape where
  np : Nat
  ks : List Str
  src : List Src
structure ShapeOk (K : PySem.W.Frag) (fd : FuncData) (ps : List Str) (sh : Shape) (g : List Value → List Value → List Value) : Prop where
  to : ∀ (s : Shared) (us ws : List Value), K.In s.heap → us.length = sh.np → ws.length = sh.ks.length → BindsTo s fd ⟨us, sh.ks.zip ws⟩ (ps.zip (g us ws))
  rel : ∀ {vs : List V} {us : List Value} {zs : List V} {ws : List Value}, Vals vs us → Vals zs ws → vs.length = sh.np → zs.length = sh.ks.length → Vals (sh.src.map (Src.v vs zs)) (g us ws)
theorem src_rd {W : Wd} {H : Hp} {ds es : List Dt} {vs zs : List V} (h1 : RdL W H ds vs) (h2 : RdL W H es zs) : ∀ {src : List Src}, (src.all (Src.ok ds.length es.length)) = true → RdL W H (src.map (Src.d ds es)) (src.map (Src.v vs zs))
  | [], _ => rfl
  | x :: src, h => by
    rw [List.all_cons, Bool.and_eq_true] at h
    refine ⟨_, _, rfl, ?_, src_rd h1 h2 h.2⟩
    cases x with
    | pos i =>
      have hi : i < ds.length := of_decide_eq_true h.1
      obtain ⟨v, e1, e2⟩ := h1.get (List.getElem?_eq_getElem hi)
      show RdD W H ((ds[i]?).getD .non) ((vs[i]?).getD .non)
      rw [e1, List.getElem?_eq_getElem hi]
      exact e2
    | kw i =>
      have hi : i < es.length := of_decide_eq_true h.1
      obtain ⟨v, e1, e2⟩ := h2.get (List.getElem?_eq_getElem hi)
      show RdD W H ((es[i]?).getD .non) ((zs[i]?).getD .non)
      rw [e1, List.getElem?_eq_getElem hi]
      exact e2
    | cst v =>
      obtain ⟨d, e⟩ := Option.isSome_iff_exists.mp (show (flatD v).isSome = true from h.1)
      show RdD W H ((flatD v).getD .non) v
      rw [e]
      exact flatD_rd e

/-! ### calls -/
section
variable {W : Wd} {EX : XK} {Fm Hb H : Hp} {ia : Option Addr} {env : Env'} {σ : L2.St} {Q : VK} {n : Nat} {F : List Dt → FR}
open Classical in
/-- what the callee may not touch: foreign things, and what this body owns (but what slot i lends) -/
noncomputable def lend (Fm H : Hp) (env : Env') (σ : L2.St) (i : Option Nat) : Hp := fun a => if ∃ j d, some j ≠ i ∧ Owns env j d ∧ σ[j]? = some (some (.ref a)) then H a else Fm a
theorem lend_yes {i : Option Nat} {j : Nat} {d : Dt} {a : Addr} (h1 : some j ≠ i) (h2 : Owns env j d) (h3 : σ[j]? = some (some (.ref a))) : lend Fm H env σ i a = H a := if_pos ⟨j, d, h1, h2, h3⟩
theorem lend_cases (i : Option Nat) (a : Addr) : (∃ j d, some j ≠ i ∧ Owns env j d ∧ σ[j]? = some (some (.ref a)) ∧ lend Fm H env σ i a = H a) ∨ ((∀ j d, some j ≠ i → Owns env j d → σ[j]? ≠ some (some (.ref a))) ∧ lend Fm H env σ i a = Fm a) := by
  by_cases h : ∃ j d, some j ≠ i ∧ Owns env j d ∧ σ[j]? = some (some (.ref a))
  · obtain ⟨j, d, h1, h2, h3⟩ := id h
    exact .inl ⟨j, d, h1, h2, h3, if_pos h⟩
  · exact .inr ⟨fun j d h1 h2 h3 => h ⟨j, d, h1, h2, h3⟩, if_neg h⟩
theorem lend_bse (A : Agr W Fm Hb ia env σ H) (i : Option Nat) : Bse (lend Fm H env σ i) Hb H where
  hb := A.bs.hb
  fm := fun a o e => by
    rcases lend_cases (Fm := Fm) (H := H) (env := env) (σ := σ) i a with ⟨_, _, _, _, _, z⟩ | ⟨_, z⟩
    · rw [z] at e
      exact e
    · rw [z] at e
      exact A.bs.fm a o e
  dj := fun a o e => by
    rcases lend_cases (Fm := Fm) (H := H) (env := env) (σ := σ) i a with ⟨j, d, h1, h2, h3, z⟩ | ⟨_, z⟩
    · obtain ⟨b, g1, g2, _⟩ := A.own j d h2
      rw [h3] at g1
      cases g1
      exact g2
    · rw [z] at e
      exact A.bs.dj a o e
theorem lend_back (A : Agr W Fm Hb ia env σ H) {i : Option Nat} {Hb' H' : Hp} (b : Bse (lend Fm H env σ i) Hb' H') : Bse Fm Hb' H' where
  hb := b.hb
  fm := fun a o e => b.fm a o (by
    rcases lend_cases (Fm := Fm) (H := H) (env := env) (σ := σ) i a with ⟨j, d, h1, h2, h3, z⟩ | ⟨_, z⟩
    · obtain ⟨b', g1, _, g3, _⟩ := A.own j d h2
      rw [h3] at g1
      cases g1
      rw [g3] at e
      cases e
    · rw [z]
      exact e)
  dj := fun a o e => b.dj a o (by
    rcases lend_cases (Fm := Fm) (H := H) (env := env) (σ := σ) i a with ⟨j, d, h1, h2, h3, z⟩ | ⟨_, z⟩
    · obtain ⟨b', g1, _, g3, _⟩ := A.own j d h2
      rw [h3] at g1
      cases g1
      rw [g3] at e
      cases e
    · rw [z]
      exact e)
theorem lend_own (A : Agr W Fm Hb ia env σ H) {i : Option Nat} {Hb' H' : Hp} (s : Same Hb Hb') (b : Bse (lend Fm H env σ i) Hb' H') {j : Nat} {d : Dt} (hj : some j ≠ i) (h : Owns env j d) :
    ∃ a, σ[j]? = some (some (.ref a)) ∧ Hb' a = none ∧ Fm a = none ∧ OwnAt W Hb' H' a d := by
  obtain ⟨a, g1, g2, g3, g4⟩ := A.own j d h
  have z := lend_yes (Fm := Fm) (H := H) hj h g1
  obtain ⟨o, ho⟩ := g4.there
  exact ⟨a, g1, b.dj a o (by rw [z]; exact ho), g3, g4.move s fun o' ho' => b.fm a o' (by rw [z]; exact ho')⟩
theorem agr_after (A : Agr W Fm Hb ia env σ H) {Hb' H' : Hp} (s : Same Hb Hb') (b : Bse (lend Fm H env σ none) Hb' H') : Agr W Fm Hb' ia env σ H' where
  bs := lend_back A b
  len := A.len
  imm := fun i d e => by
    obtain ⟨v, h1, h2⟩ := A.imm i d e
    exact ⟨v, h1, RdD.mono s _ _ h2⟩
  own := fun i d e => lend_own A s b (fun z => nomatch z) e
  inj := A.inj
  io := A.io
  ioh := A.ioh
theorem lend_fresh {i : Option Nat} {p : Addr} (A : Agr W Fm Hb ia env σ H) (h : lend Fm H env σ i p = none) : Fm p = none ∧ ∀ j d, some j ≠ i → Owns env j d → σ[j]? ≠ some (some (.ref p)) := by
  refine ⟨?_, fun j d hj ho z => ?_⟩
  · rcases lend_cases (Fm := Fm) (H := H) (env := env) (σ := σ) i p with ⟨j, d, h1, h2, h3, z⟩ | ⟨_, z⟩
    · obtain ⟨b', g1, _, g3, _⟩ := A.own j d h2
      rw [h3] at g1
      cases g1
      exact g3
    · rw [z] at h
      exact h
  · obtain ⟨b', g1, _, _, g4⟩ := A.own j d ho
    rw [z] at g1
    cases g1
    obtain ⟨o, ho'⟩ := g4.there
    rw [lend_yes (Fm := Fm) (H := H) hj ho z, ho'] at h
    cases h
/-- the callee's answer, in the caller's words -/
def asRes (env : Env') : FR → Res (Val × Env')
  | .ok (v, none) => .ok (v, env)
  | .ok (_, some _) => .bad
  | .err x => .err x
  | .bad => .bad
theorem call_sp (A : Agr W Fm Hb ia env σ H) {ds : List Dt} {vs : List V} (r : RdL W Hb ds vs) (hn : vs.length = n) (p : Post W EX Fm Hb ia σ (GE W Fm σ Q) (asRes env (F ds))) : spF W n false F vs H Q EX := by
  refine ⟨lend Fm H env σ none, Hb, ds, none, lend_bse A none, hn, ⟨rfl, r⟩, ?_⟩
  cases hF : F ds with
  | ok q =>
    obtain ⟨val, out⟩ := q
    rw [hF] at p
    intro v H' Hb' s b hv ho
    cases out with
    | some d => exact p.elim
    | none =>
      have A' := agr_after A s b
      refine p H' Hb' s A' v ?_
      cases val with
      | imm d => exact hv
      | fresh d =>
        obtain ⟨q, rfl, h1, h2, h3, _⟩ := hv
        obtain ⟨h4, h5⟩ := lend_fresh A h2
        exact ⟨q, rfl, h1, h4, h3, fun i x o => h5 i x (fun z => nomatch z) o⟩
  | err x =>
    rw [hF] at p
    exact fun c dx H' Hb' s b e => p c dx H' Hb' s (lend_back A b) e
  | bad =>
    rw [hF] at p
    exact p.elim
/-- a lent slot -/
def asResIo (env : Env') (i : Nat) (mk : Dt → Slot) : FR → Res (Val × Env')
  | .ok (v, some d) => .ok (v, env.set i (mk d))
  | .ok (_, none) => .bad
  | .err x => .err x
  | .bad => .bad
theorem call_spIo (A : Agr W Fm Hb ia env σ H) {i : Nat} {d : Dt} {a : Addr} {mk : Dt → Slot} (hs : (env[i]? = some (.own d) ∧ mk = Slot.own) ∨ (env[i]? = some (.io d) ∧ mk = Slot.io)) (ha : σ[i]? = some (some (.ref a))) {ds : List Dt} {vs : List V} (r : RdL W Hb ds vs) (hn : vs.length + 1 = n)
    (p : Post W EX Fm Hb ia σ (GE W Fm σ Q) (asResIo env i mk (F (d :: ds)))) : spF W n true F (.ref a :: vs) H Q EX := by
  have hO : Owns env i d := by
    rcases hs with ⟨h, _⟩ | ⟨h, _⟩
    · exact .inl h
    · exact .inr h
  obtain ⟨a', g1, g2, g3, g4⟩ := A.own i d hO
  rw [ha] at g1
  cases g1
  have na : lend Fm H env σ (some i) a = none := by
    rcases lend_cases (Fm := Fm) (H := H) (env := env) (σ := σ) (some i) a with ⟨j, e, h1, h2, h3, z⟩ | ⟨_, z⟩
    · exact absurd (congrArg some (A.inj j i e d a h2 hO h3 ha)) h1
    · rw [z]
      exact g3
  refine ⟨lend Fm H env σ (some i), Hb, d :: ds, some a, lend_bse A (some i), hn, ⟨a, d, ds, vs, rfl, rfl, rfl, g2, na, g4, r⟩, ?_⟩
  cases hF : F (d :: ds) with
  | ok q =>
    obtain ⟨val, out⟩ := q
    rw [hF] at p
    intro v H' Hb' s b hv ho
    cases out with
    | none => exact ho.elim
    | some d' =>
      obtain ⟨o1, o2⟩ := ho
      have hl : i < env.length := by
        rcases hO with h | h <;> exact (List.getElem?_eq_some_iff.mp h).1
      have key : ∀ j e, Owns (env.set i (mk d')) j e → (i = j ∧ e = d') ∨ (i ≠ j ∧ Owns env j e) := fun j e g => by
        rcases g with g | g
        · rcases get_set g with ⟨z, q, _⟩ | ⟨ne, q⟩
          · rcases hs with ⟨_, rfl⟩ | ⟨_, rfl⟩
            · cases q; exact .inl ⟨z, rfl⟩
            · cases q
          · exact .inr ⟨ne, .inl q⟩
        · rcases get_set g with ⟨z, q, _⟩ | ⟨ne, q⟩
          · rcases hs with ⟨_, rfl⟩ | ⟨_, rfl⟩
            · cases q
            · cases q; exact .inl ⟨z, rfl⟩
          · exact .inr ⟨ne, .inr q⟩
      have A' : Agr W Fm Hb' ia (env.set i (mk d')) σ H' := {
        bs := lend_back A b
        len := by rw [List.length_set]; exact A.len
        imm := fun j e g => by
          rcases get_set g with ⟨_, q, _⟩ | ⟨ne, q⟩
          · rcases hs with ⟨_, rfl⟩ | ⟨_, rfl⟩ <;> cases q
          · obtain ⟨v, h1, h2⟩ := A.imm j e q
            exact ⟨v, h1, RdD.mono s _ _ h2⟩
        own := fun j e g => by
          rcases key j e g with ⟨rfl, rfl⟩ | ⟨ne, g⟩
          · exact ⟨a, ha, o1, g3, o2⟩
          · exact lend_own A s b (fun z => ne (Option.some.inj z).symm) g
        inj := fun j k e e' b' x1 x2 y1 y2 => by
          rcases key j e x1 with ⟨rfl, rfl⟩ | ⟨n1, k1⟩
          · rcases key k e' x2 with ⟨rfl, rfl⟩ | ⟨n2, k2⟩
            · rfl
            · exact A.inj i k d e' b' hO k2 y1 y2
          · rcases key k e' x2 with ⟨rfl, rfl⟩ | ⟨n2, k2⟩
            · exact A.inj j i e d b' k1 hO y1 y2
            · exact A.inj j k e e' b' k1 k2 y1 y2
        io := fun j e g => by
          rcases get_set g with ⟨rfl, q, _⟩ | ⟨ne, q⟩
          · rcases hs with ⟨_, rfl⟩ | ⟨hs, rfl⟩
            · cases q
            · exact A.io i d hs
          · exact A.io j e q
        ioh := fun b' e => by
          obtain ⟨d'', g⟩ := A.ioh b' e
          by_cases z : i = 0
          · subst z
            rcases hs with ⟨hs, _⟩ | ⟨hs, rfl⟩
            · rw [hs] at g; cases g
            · exact ⟨d', List.getElem?_set_self hl⟩
          · exact ⟨d'', by rw [List.getElem?_set_ne z]; exact g⟩ }
      refine p H' Hb' s A' v ?_
      cases val with
      | imm d => exact hv
      | fresh e =>
        obtain ⟨q, rfl, h1, h2, h3, h6⟩ := hv
        obtain ⟨h4, h5⟩ := lend_fresh A h2
        refine ⟨q, rfl, h1, h4, h3, fun j x o z => ?_⟩
        rcases key j x o with ⟨rfl, rfl⟩ | ⟨ne, o⟩
        · rw [ha] at z
          cases z
          exact h6 rfl
        · exact h5 j x (fun y => ne (Option.some.inj y).symm) o z
  | err x =>
    rw [hF] at p
    exact fun c dx H' Hb' s b e => p c dx H' Hb' s (lend_back A b) e
  | bad =>
    rw [hF] at p
    exact p.elim
end
end G


set_option maxRecDepth 100000
set_option maxHeartbeats 4000000
/-! Kern8: calls of defs, and what a def's body makes of its promise. -/
namespace G
open PySem PySem.Spec PyProof.Rows L2

/-! ### argument lists without stars -/
def isStar : Expr → Bool
  | .Starred _ _ => true
  | _ => false
theorem star_no {e : Expr} {es : List Expr} {env : Env} (h : isStar e = false) : starEach (e :: es) env = (false, eval e env) :: starEach es env := by
  cases e <;> first
    | rfl
    | cases h
theorem star_none {env : Env} {pos : Pos} : ∀ {es : List Expr}, es.all (fun e => !isStar e) = true → (backTo pos (starEach es env)).any (·.1) = false
  | [], _ => rfl
  | e :: es, h => by
    rw [List.all_cons, Bool.and_eq_true] at h
    rw [star_no (by simpa using h.1)]
    show (false || (backTo pos (starEach es env)).any (·.1)) = false
    rw [star_none h.2]
    rfl
def kwName (k : Keyword) : Str := k.arg.getD Str.empty
def kwsOk (kws : List Keyword) : Bool := kws.all fun k => k.arg.isSome
theorem kw_all {env : Env} {pos : Pos} : ∀ {kws : List Keyword}, kwsOk kws = true → (backToKw pos (keywordEach kws env)).all (·.1.isSome) = true ∧ (backToKw pos (keywordEach kws env)).any (·.1.isNone) = false ∧ (backToKw pos (keywordEach kws env)).filterMap (·.1) = kws.map kwName
  | [], _ => ⟨rfl, rfl, rfl⟩
  | ⟨nm, v, p⟩ :: kws, h => by
    obtain ⟨h1, h2⟩ := (Bool.and_eq_true _ _).mp (show (nm.isSome && kwsOk kws) = true from h)
    obtain ⟨x, rfl⟩ := Option.isSome_iff_exists.mp h1
    obtain ⟨i1, i2, i3⟩ := kw_all (env := env) (pos := pos) h2
    refine ⟨?_, ?_, ?_⟩
    · show (true && (backToKw pos (keywordEach kws env)).all (·.1.isSome)) = true
      rw [i1]
      rfl
    · show (false || (backToKw pos (keywordEach kws env)).any (·.1.isNone)) = false
      rw [i2]
      rfl
    · show x :: (backToKw pos (keywordEach kws env)).filterMap (·.1) = x :: kws.map kwName
      rw [i3]
abbrev SK (X : Cx) (EX : XK) (kws : List Keyword) (f : DA) : Prop := PK X kws (rdA (wd X) EX f)
theorem pk_mono {X : Cx} {e : List Keyword} {t t' : TA} (h : PK X e t) (w : ∀ σ H Q, t' σ H Q → t σ H Q) : PK X e t' := ⟨fun pos pins s σ H Q I q => h.run pos pins s σ H Q I (w σ H Q q)⟩
section
variable {X : Cx} {EX : XK} {pos p kpos : Pos} {e : Expr} {es : List Expr} {kws : List Keyword} {f : DE} {g gk : DA} {nm : Option Str}
theorem sk_nil : SK X EX [] aNil := pk_mono pk_nil fun σ H Q ⟨Fm, Hb, ia, env, A, p⟩ => p H Hb (Same.refl _) A [] rfl
theorem sk_cons (ha : SE X EX e f) (hr : SK X EX kws g) : SK X EX (⟨nm, e, kpos⟩ :: kws) (aCons f g) := pk_mono (pk_cons ha hr) fun σ H Q ⟨Fm, Hb, ia, env, A, p⟩ =>
  ⟨Fm, Hb, ia, env, A, Post.bindV p fun va e1 x H1 Hb1 s1 A1 r1 q1 => ⟨Fm, Hb1, ia, e1, A1, Post.bind q1 fun ds e2 H2 Hb2 s2 A2 q2 vs hv => q2 H2 Hb2 (Same.refl _) A2 (x :: vs) ⟨x, vs, rfl, RdD.mono s2 _ _ r1, hv⟩⟩⟩

/-! ### built-ins by name -/
theorem se_callB {x : Str} {id : String} {r : List V → Hp → VK → Prop} {h : List Dt → Res Val} (hc : CallR X (.builtin id) r) (hs : CaS (wd X) r h) (hg : Gl X x) (hm : X.mg x = none) (hv : bootBuiltins x = some (.builtin id)) (ha : SA X EX (e :: es) g)
    (hn : x ≠ "__name__") (hdb : (x == ("__debug__" : Str)) = false) (hst : (e :: es).all (fun e => !isStar e) = true) : SE X EX (.Call (.Name x p) (e :: es) [] pos) (dCallB h g) := by
  rw [List.all_cons, Bool.and_eq_true] at hst
  exact pe_mono (pe_callB hc hg hm hv ha hn hdb (star_no (by simpa using hst.1)) (star_none hst.2)) (rd_cb hs)
theorem se_callTy {x : Str} {id : String} {r : List V → Hp → VK → Prop} {h : List Dt → Res Val} (hc : CallR X (.type id) r) (hs : CaS (wd X) r h) (hg : Gl X x) (hm : X.mg x = none) (hv : bootBuiltins x = some (.type id)) (ha : SA X EX (e :: es) g)
    (hn : x ≠ "__name__") (hdb : (x == ("__debug__" : Str)) = false) (hst : (e :: es).all (fun e => !isStar e) = true) : SE X EX (.Call (.Name x p) (e :: es) [] pos) (dCallB h g) := by
  rw [List.all_cons, Bool.and_eq_true] at hst
  exact pe_mono (pe_callTy hc hg hm hv ha hn hdb (star_no (by simpa using hst.1)) (star_none hst.2)) (rd_cb hs)

/-! ### defs -/
section
variable {k n : Nat} {a : Addr} {fd : FuncData} {ps : List Str} {sp : Sp} {F : List Dt → FR} {x : Str} {sh : Shape} {gv : List Value → List Value → List Value}
theorem run_g {pins : List (Addr × Obj)} {σ : L2.St} {H : Hp} {s : Shared} {Q : VK} {us ws : List Value} {zs : List V} {kw : List (Str × Value)} (F : FnG X.prog X.w X.K X.mg X.base k a fd ps sp) (hg : X.A.guards = some []) (hr : Room k X.A) (hx : Passes (L2.CX X.prog X.w) X EX)
    (I : Inv X pins σ H s) (hb : BindsTo s fd ⟨us, kw⟩ (ps.zip ws)) (rz : Vals zs ws) (h : sp zs H Q EX) : wpAny (model X.prog X.w) X.A (call (.ref a) us kw) (EP X pins σ Q) X.xe s := by
  refine wpAny_call (codeAny_mono (F.run X.A X.stack s H ⟨us, kw⟩ ws zs Q EX hg hr I.env0 hb rz h) fun res s1 hq => ?_)
  cases res with
  | error e => exact hx pins σ H s e s1 I hq
  | ok fl =>
    cases fl with
    | ret u => exact I.after hq
    | next => exact hq.elim
    | brk => exact hq.elim
    | cont => exact hq.elim
def dCall (F : List Dt → FR) (sh : Shape) (g gk : DA) : DE := fun env => (g env).bind fun p => (gk p.2).bind fun q =>
  if p.1.length = sh.np ∧ q.1.length = sh.ks.length ∧ sh.src.all (Src.ok sh.np sh.ks.length) = true then asRes q.2 (F (sh.src.map (Src.d p.1 q.1))) else .bad
theorem rd_call {W : Wd} {V2 : List V → List V → L2.St → Hp → VK → Prop} (hV : ∀ vs zs σ H Q, vs.length = sh.np → zs.length = sh.ks.length → spF W n false F (sh.src.map (Src.v vs zs)) H Q EX → V2 vs zs σ H Q) (hl : sh.src.length = n) :
    ∀ σ H Q, rdE W EX (dCall F sh g gk) σ H Q → rdA W EX g σ H fun vs H1 => rdA W EX gk σ H1 fun zs H2 => V2 vs zs σ H2 Q := fun σ H Q ⟨Fm, Hb, ia, env, A, p⟩ =>
  ⟨Fm, Hb, ia, env, A, Post.bind p fun ds e1 H1 Hb1 s1 A1 q1 vs hv => ⟨Fm, Hb1, ia, e1, A1, Post.bind q1 fun es e2 H2 Hb2 s2 A2 q2 zs hz => by
    dsimp only at q2
    split at q2
    · rename_i hc
      have r1 := RdL.mono s2 _ _ hv
      refine hV vs zs σ H2 Q (by rw [← hv.len]; exact hc.1) (by rw [← hz.len]; exact hc.2.1) ?_
      exact call_sp A2 (src_rd r1 hz (by rw [hc.1, hc.2.1]; exact hc.2.2)) (by rw [List.length_map]; exact hl) q2
    · exact q2.elim⟩⟩
theorem se_call (Fo : FnG X.prog X.w X.K X.mg X.base k a fd ps (spF (wd X) n false F)) (so : ShapeOk X.K fd ps sh gv) (hl : sh.src.length = n) (hgd : X.A.guards = some []) (hr : Room k X.A) (hx : Passes (L2.CX X.prog X.w) X EX) (hg : Gl X x) (hm : X.mg x = some (.ref a)) (hk : PySem.W.keepIn X.K (.ref a) = true)
    (hdb : (x == ("__debug__" : Str)) = false) (ha : SA X EX es g) (hkw : SK X EX kws gk) (hst : es.all (fun e => !isStar e) = true) (hko : kwsOk kws = true) (hks : kws.map kwName = sh.ks) (hn0 : es = [] → g = aNil) (hk0 : kws = [] → gk = aNil) :
    SE X EX (.Call (.Name x p) es kws pos) (dCall F sh g gk) := by
  refine ⟨fun pins s σ H Q I h => ?_⟩
  have h' := rd_call (W := wd X) (EX := EX) (g := g) (gk := gk) (V2 := fun vs zs σ H Q => vs.length = sh.np ∧ zs.length = sh.ks.length ∧ spF (wd X) n false F (sh.src.map (Src.v vs zs)) H Q EX) (fun vs zs σ H Q a b c => ⟨a, b, c⟩) hl σ H Q h
  refine wpAny_Call_Name_kw (ld_glob I hg hm ?_ hdb)
  obtain ⟨k1, k2, k3⟩ := kw_all (env := X.env) (pos := pos) hko
  have fin : ∀ {vs zs : List V} {us ws : List Value} {H2 : Hp} {s2 : Shared}, Inv X pins σ H2 s2 → Vals vs us → Vals zs ws → (vs.length = sh.np ∧ zs.length = sh.ks.length ∧ spF (wd X) n false F (sh.src.map (Src.v vs zs)) H2 Q EX) →
      wpAny (model X.prog X.w) X.A (call (.ref a) us (sh.ks.zip ws)) (EP X pins σ Q) X.xe s2 := fun {vs zs us ws H2 s2} I2 r1 r2 hq =>
    run_g Fo hgd hr hx I2 (so.to s2 us ws I2.kIn (by rw [← r1.length]; exact hq.1) (by rw [← r2.length]; exact hq.2.1)) (so.rel r1 r2 hq.1 hq.2.1) hq.2.2
  have nil_of : ∀ {σ : L2.St} {H : Hp} {Q : List V → Hp → Prop}, rdA (wd X) EX aNil σ H Q → Q [] H := fun ⟨Fm, Hb, ia, env, A, p⟩ => p _ Hb (Same.refl _) A [] rfl
  cases es with
  | nil =>
    obtain rfl := hn0 rfl
    have h1 := nil_of h'
    cases kws with
    | nil =>
      obtain rfl := hk0 rfl
      have e0 : sh.ks = [] := by rw [← hks]; rfl
      have q := fin (us := []) (ws := []) I .nil .nil (nil_of h1)
      rw [e0] at q
      exact PySem.W.callWith_K0 I.kIn hk q
    | cons kw kws =>
      refine PySem.W.callWith_KW0 (h₀ := X.base) I.ok.mod.kin hk k1 (thn (hkw.run pos pins s σ H _ I h1) fun ws s2 ⟨zs, H2, I2, r2, hq⟩ => ⟨I2.kIn, ?_⟩) (by rw [k2]; rfl)
      rw [k3, hks]
      exact fin (us := []) I2 .nil r2 hq
  | cons e es =>
    rw [List.all_cons, Bool.and_eq_true] at hst
    have he : isStar e = false := by simpa using hst.1
    cases kws with
    | nil =>
      obtain rfl := hk0 rfl
      have e0 : sh.ks = [] := by rw [← hks]; rfl
      refine PySem.W.callWith_K (h₀ := X.base) I.ok.mod.kin hk (thn (ha.run pos pins s σ H _ I h') fun us s1 ⟨vs, H1, I1, r1, hq⟩ => ⟨I1.kIn, ?_⟩) (star_no he) (star_none hst.2)
      have q := fin (ws := []) I1 r1 .nil (nil_of hq)
      rw [e0] at q
      exact q
    | cons kw kws =>
      refine PySem.W.callWith_KW (h₀ := X.base) I.ok.mod.kin hk k1 (thn (ha.run pos pins s σ H _ I h') fun us s1 ⟨vs, H1, I1, r1, hq⟩ => ?_) ?_ (star_no he)
      · refine thn (hkw.run pos pins s1 σ H1 _ I1 hq) fun ws s2 ⟨zs, H2, I2, r2, hq⟩ => ⟨I2.kIn, ?_⟩
        rw [k3, hks]
        exact fin I2 r1 r2 hq
      · rw [k2, star_no he]
        show ((false || (backTo pos (starEach es X.env)).any (·.1)) || false) = false
        rw [star_none hst.2]
        rfl
/-- the first argument is lent -/
def asIo (i : Nat) (env : Env') (n : Nat) (F : List Dt → FR) (ds : List Dt) : Res (Val × Env') := if ds.length + 1 = n then match env[i]? with
  | some (.own d) => asResIo env i Slot.own (F (d :: ds))
  | some (.io d) => asResIo env i Slot.io (F (d :: ds))
  | _ => .bad else .bad
def isOwn : Slot → Bool
  | .own _ => true
  | .io _ => true
  | _ => false
def dCallIo (i n : Nat) (F : List Dt → FR) (g : DA) : DE := fun env => if (env[i]?.map isOwn) = some true then (g env).bind fun p => asIo i p.2 n F p.1 else .bad
theorem se_callIo {i : Nat} {ex : Expr} (Fo : FnG X.prog X.w X.K X.mg X.base k a fd ps (spF (wd X) n true F)) (hb : ∀ (s : Shared) (us : List Value), X.K.In s.heap → us.length = n → BindsTo s fd ⟨us, []⟩ (ps.zip us)) (hgd : X.A.guards = some []) (hr : Room k X.A) (hx : Passes (L2.CX X.prog X.w) X EX) (hg : Gl X x) (hm : X.mg x = some (.ref a))
    (hk : PySem.W.keepIn X.K (.ref a) = true) (hdb : (x == ("__debug__" : Str)) = false) (h0 : PE X ex (tVar i)) (ha : SA X EX es g) (hst : (ex :: es).all (fun e => !isStar e) = true) : SE X EX (.Call (.Name x p) (ex :: es) [] pos) (dCallIo i n F g) := by
  rw [List.all_cons, Bool.and_eq_true] at hst
  have he : isStar ex = false := by simpa using hst.1
  have hA : PA X (ex :: es) (tCons (tVar i) (rdA (wd X) EX g)) := pa_cons h0 ha (star_no he)
  refine ⟨fun pins s σ H Q I h => ?_⟩
  have key : tCons (tVar i) (rdA (wd X) EX g) σ H fun vs H1 => spF (wd X) n true F vs H1 Q EX := by
    obtain ⟨Fm, Hb, ia, env, A, p⟩ := h
    unfold dCallIo at p
    split at p
    · rename_i ho
      obtain ⟨sl, h1, h2⟩ := Option.map_eq_some_iff.mp ho
      obtain ⟨d, hd⟩ : ∃ d, Owns env i d := by
        cases sl with
        | own d => exact ⟨d, .inl h1⟩
        | io d => exact ⟨d, .inr h1⟩
        | un => cases h2
        | imm d => cases h2
      obtain ⟨b, g1, _⟩ := A.own i d hd
      refine ⟨.ref b, g1, Fm, Hb, ia, env, A, Post.bind p fun ds e1 H1 Hb1 s1 A1 q1 vs hv => ?_⟩
      dsimp only [asIo] at q1
      split at q1
      · rename_i hn
        have hn' : vs.length + 1 = n := by rw [← hv.len]; exact hn
        split at q1
        · rename_i d' hd'
          exact call_spIo A1 (.inl ⟨hd', rfl⟩) g1 hv hn' q1
        · rename_i d' hd'
          exact call_spIo A1 (.inr ⟨hd', rfl⟩) g1 hv hn' q1
        · exact q1.elim
      · exact q1.elim
    · exact p.elim
  refine wpAny_Call_Name_kw (ld_glob I hg hm ?_ hdb)
  refine PySem.W.callWith_K (h₀ := X.base) I.ok.mod.kin hk (thn (hA.run pos pins s σ H _ I key) fun us s1 ⟨vs, H1, I1, r1, hq⟩ => ⟨I1.kIn, ?_⟩) (star_no he) (star_none hst.2)
  obtain ⟨_, _, _, _, _, hl, _⟩ := id hq
  exact run_g Fo hgd hr hx I1 (hb s1 us I1.kIn (by rw [← r1.length]; exact hl)) r1 hq
end
end
end G


set_option maxRecDepth 100000
set_option maxHeartbeats 4000000
/-! Kern9: statements, targets, loops. -/
namespace G
open PySem PySem.Spec PyProof.Rows L2

/-! ### targets -/
abbrev DG := Dt → Env' → Res Env'
abbrev DGs := List Dt → Env' → Res Env'
/-- a slot that may be stored to -/
def canSet (env : Env') (i : Nat) : Bool := match env[i]? with
  | none => false
  | some (.io _) => false
  | some _ => true
def gSet (i : Nat) : DG := fun d env => if canSet env i then .ok (env.set i (.imm d)) else .bad
def gsNil : DGs := fun ds env => match ds with
  | [] => .ok env
  | _ :: _ => .bad
def gsCons (g : DG) (h : DGs) : DGs := fun ds env => match ds with
  | [] => .bad
  | d :: r => (g d env).bind fun e => h r e
def gTupD (n : Nat) (h : DGs) : DG := fun d env => match d with
  | .tup ds => if ds.length = n then h ds env else .bad
  | _ => .bad
/-- what is wanted behind a target's store; ts: the slots that it may store to -/
def PostG (W : Wd) (Fm Hb : Hp) (ia : Option Addr) (ts : List Nat) (σ : L2.St) (H : Hp) (Q : L2.St → Hp → Prop) : Res Env' → Prop
  | .ok e => ∀ σ', (∀ vs : List Nat, (∀ t ∈ ts, t ∈ vs) → wipe σ' vs = wipe σ vs) → Agr W Fm Hb ia e σ' H → Q σ' H
  | _ => False
def rdG (W : Wd) (ts : List Nat) (g : DG) : TG := fun x σ H Q => ∃ Fm Hb ia env d, Agr W Fm Hb ia env σ H ∧ RdD W Hb d x ∧ PostG W Fm Hb ia ts σ H Q (g d env)
def rdGs (W : Wd) (ts : List Nat) (g : DGs) : TGs := fun xs σ H Q => ∃ Fm Hb ia env ds, Agr W Fm Hb ia env σ H ∧ RdL W Hb ds xs ∧ PostG W Fm Hb ia ts σ H Q (g ds env)
theorem pg_mono {X : Cx} {e : Expr} {t t' : TG} (h : PG X e t) (w : ∀ x σ H Q, t' x σ H Q → t x σ H Q) : PG X e t' := ⟨fun pins s σ H v u Q I r q => h.run pins s σ H v u Q I r (w v σ H Q q)⟩
theorem pgs_mono {X : Cx} {e : List Expr} {t t' : TGs} (h : PGs X e t) (w : ∀ x σ H Q, t' x σ H Q → t x σ H Q) : PGs X e t' := ⟨fun pins s σ H v u Q I r q => h.run pins s σ H v u Q I r (w v σ H Q q)⟩
abbrev SG (X : Cx) (e : Expr) (ts : List Nat) (g : DG) : Prop := PG X e (rdG (wd X) ts g)
abbrev SGs (X : Cx) (e : List Expr) (ts : List Nat) (g : DGs) : Prop := PGs X e (rdGs (wd X) ts g)
theorem wipe_at {σ : L2.St} {i : Nat} : ∀ {vs : List Nat}, i ∈ vs → ∀ o, (wipe σ vs)[i]? = some o → o = none
  | [], h, _, _ => by cases h
  | v :: vs, h, o, e => by
    unfold wipe at e
    by_cases hv : v = i
    · subst hv
      by_cases hl : v < (wipe σ vs).length
      · rw [List.getElem?_set_self hl] at e
        exact (Option.some.inj e).symm
      · rw [List.getElem?_eq_none (by rw [List.length_set]; omega)] at e
        cases e
    · rw [List.getElem?_set_ne hv] at e
      rcases List.mem_cons.mp h with z | z
      · exact absurd z.symm hv
      · exact wipe_at z o e
theorem wipe_out' {σ : L2.St} {i : Nat} : ∀ {vs : List Nat}, i ∉ vs → (wipe σ vs)[i]? = σ[i]? := wipe_out
theorem wipe_ext {σ σ' : L2.St} {vs : List Nat} (hl : σ'.length = σ.length) (h : ∀ i, i ∉ vs → σ'[i]? = σ[i]?) : wipe σ' vs = wipe σ vs := by
  apply List.ext_getElem?
  intro i
  by_cases hi : i ∈ vs
  · have e1 : (wipe σ' vs).length = (wipe σ vs).length := by rw [wipe_length, wipe_length, hl]
    cases q : (wipe σ vs)[i]? with
    | none => exact List.getElem?_eq_none (by rw [e1]; exact List.getElem?_eq_none_iff.mp q)
    | some o =>
      have z := wipe_at hi o q
      subst z
      have hi' : i < (wipe σ' vs).length := by rw [e1]; exact (List.getElem?_eq_some_iff.mp q).1
      have q' := List.getElem?_eq_getElem hi'
      rw [q']
      rw [wipe_at hi _ q']
  · rw [wipe_out hi, wipe_out hi]
    exact h i hi
theorem wipe_set {σ : L2.St} {i : Nat} {o : Option V} {vs : List Nat} (h : i ∈ vs) : wipe (σ.set i o) vs = wipe σ vs :=
  wipe_ext (by rw [List.length_set]) fun j hj => List.getElem?_set_ne (fun z => hj (by rw [← z]; exact h))
theorem canSet_ok {env : Env'} {i : Nat} (h : canSet env i = true) : i < env.length ∧ ∀ e, env[i]? ≠ some (.io e) := by
  unfold canSet at h
  split at h
  · cases h
  · cases h
  · rename_i s hne hs
    refine ⟨(List.getElem?_eq_some_iff.mp hs).1, fun e q => ?_⟩
    rw [hs] at q
    exact hne e (Option.some.inj q)
section
variable {X : Cx} {EX : XK} {pos : Pos} {e a b c : Expr} {es : List Expr} {fa fb : DE} {ta tb : DT} {ts ts' : List Nat} {g : DG} {h : DGs}
theorem sg_name {i : Nat} (hp : PG X e (gName i)) (hi : i ∈ ts) : SG X e ts (gSet i) := pg_mono hp fun x σ H Q ⟨Fm, Hb, ia, env, d, A, r, p⟩ => by
  unfold gSet at p
  split at p
  · rename_i hc
    obtain ⟨h1, h2⟩ := canSet_ok hc
    exact p _ (fun vs hvs => wipe_set (hvs i hi)) (A.setImm h1 h2 r)
  · exact p.elim
theorem sgs_nil : SGs X [] ts gsNil := pgs_mono pgs_nil fun xs σ H Q ⟨Fm, Hb, ia, env, ds, A, r, p⟩ => by
  cases ds with
  | nil => exact ⟨r, p σ (fun _ _ => rfl) A⟩
  | cons _ _ => exact p.elim
theorem sgs_cons (h1 : SG X e ts g) (h2 : SGs X es ts h) (hs : (assignEach (e :: es) X.env).map (·.2) = assign e X.env :: (assignEach es X.env).map (·.2)) : SGs X (e :: es) ts (gsCons g h) := pgs_mono (pgs_cons h1 h2 hs) fun xs σ H Q ⟨Fm, Hb, ia, env, ds, A, r, p⟩ => by
  cases ds with
  | nil => exact p.elim
  | cons d ds =>
    obtain ⟨v, vr, rfl, r1, r2⟩ := r
    refine ⟨v, vr, rfl, Fm, Hb, ia, env, d, A, r1, ?_⟩
    have p' : PostG (wd X) Fm Hb ia ts σ H Q ((g d env).bind fun e => h ds e) := p
    cases q : g d env with
    | ok e1 =>
      rw [q] at p'
      intro σ1 w1 A1
      refine ⟨Fm, Hb, ia, e1, ds, A1, r2, ?_⟩
      have p2 : PostG (wd X) Fm Hb ia ts σ H Q (h ds e1) := p'
      cases q2 : h ds e1 with
      | ok e2 =>
        rw [q2] at p2
        exact fun σ2 w2 A2 => p2 σ2 (fun vs hvs => (w2 vs hvs).trans (w1 vs hvs)) A2
      | err x => rw [q2] at p2; exact p2.elim
      | bad => rw [q2] at p2; exact p2.elim
    | err x => rw [q] at p'; exact p'.elim
    | bad => rw [q] at p'; exact p'.elim
theorem sg_tup {n k : Nat} (hc : X.calm = true) (h1 : SGs X es ts h) (hn : (assignEach es X.env).length = n) (hst : (assignEach es X.env).findIdx? (·.1) = none) : SG X (.Tuple es k pos) ts (gTupD n h) := pg_mono (pg_tup hc h1 hn hst) fun x σ H Q ⟨Fm, Hb, ia, env, d, A, r, p⟩ => by
  cases d <;> first
    | exact p.elim
    | skip
  rename_i ds
  obtain ⟨a, vs, rfl, r1, r2⟩ := r
  unfold gTupD at p
  dsimp only at p
  split at p
  · rename_i hn'
    exact ⟨a, vs, rfl, same_t A.bs.hb r1, by rw [← r2.len]; exact hn', Fm, Hb, ia, env, ds, A, r2, p⟩
  · exact p.elim

/-! ### statements -/
def sNext : DS := fun env => .ok (.nx, env)
def sBad : DS := fun _ => .bad
def sBreak : DS := fun env => .ok (.bk, env)
def sCont : DS := fun env => .ok (.ct, env)
def seqK (g : DS) : Fl × Env' → Res (Fl × Env')
  | (.nx, e) => g e
  | (.rt v, e) => .ok (.rt v, e)
  | (.bk, e) => .ok (.bk, e)
  | (.ct, e) => .ok (.ct, e)
def sSeq (f g : DS) : DS := fun env => (f env).bind (seqK g)
def sIf (t : DT) (f g : DS) : DS := fun env => (t env).bind fun p => if p.1 = true then f p.2 else g p.2
def sRet (f : DE) : DS := fun env => (f env).bind fun p => .ok (.rt p.1, p.2)
def sRetN : DS := fun env => .ok (.rt (.imm .non), env)
def sExpr (f : DE) : DS := fun env => (f env).bind fun p => .ok (.nx, p.2)
def setVal (i : Nat) : Val × Env' → Res (Fl × Env')
  | (v, e) => if canSet e i then match v with
    | .imm d => .ok (.nx, e.set i (.imm d))
    | .fresh d => .ok (.nx, e.set i (.own d)) else .bad
def sSet (i : Nat) (f : DE) : DS := fun env => (f env).bind (setVal i)
def gDone : Res Env' → Res (Fl × Env')
  | .ok e => .ok (.nx, e)
  | _ => .bad
def sAsg (g : DG) (f : DE) : DS := fun env => (f env).bind fun p => gDone (g p.1.d p.2)
/-- two names at once -/
def sPar (i j : Nat) (f : DA) : DS := fun env => (f env).bind fun p => match p.1 with
  | [d, d'] => if canSet p.2 i && canSet p.2 j then .ok (.nx, (p.2.set i (.imm d)).set j (.imm d')) else .bad
  | _ => .bad
variable {f f1 f2 : DS} {st : Stmt} {sts : List Stmt}
theorem ss_next (h : PS X st tNext) : SS X EX st sNext := ps_mono h fun D σ H ⟨Fm, Hb, ia, env, A, p⟩ => p σ H Hb (Same.refl _) A
theorem ss_break (h : PS X st tBreak) : SS X EX st sBreak := ps_mono h fun D σ H ⟨Fm, Hb, ia, env, A, p⟩ => p σ H Hb (Same.refl _) A
theorem ss_cont (h : PS X st tCont) : SS X EX st sCont := ps_mono h fun D σ H ⟨Fm, Hb, ia, env, A, p⟩ => p σ H Hb (Same.refl _) A
theorem ss_bad : SS X EX st sBad := ps_mono ps_never fun D σ H ⟨Fm, Hb, ia, env, A, p⟩ => p.elim
theorem sss_nil : SSs X EX [] sNext := pss_mono pss_nil fun D σ H ⟨Fm, Hb, ia, env, A, p⟩ => p σ H Hb (Same.refl _) A
theorem seq_post {W : Wd} {Fm Hb : Hp} {ia : Option Addr} {D : Ends} {r : Res (Fl × Env')} (p : PostS W EX Fm Hb ia D (r.bind (seqK f2))) : PostS W EX Fm Hb ia { D with nx := rdS W EX f2 D } r := by
  cases r with
  | ok q =>
    obtain ⟨fl, e⟩ := q
    cases fl with
    | nx => exact fun σ' H' Hb' s A => ⟨Fm, Hb', ia, e, A, PostS.mono s p⟩
    | rt v => exact fun σ' H' Hb' s A => p σ' H' Hb' s A
    | bk => exact fun σ' H' Hb' s A => p σ' H' Hb' s A
    | ct => exact fun σ' H' Hb' s A => p σ' H' Hb' s A
  | err x => exact p
  | bad => exact p.elim
theorem sss_cons (h1 : SS X EX st f1) (h2 : SSs X EX sts f2) : SSs X EX (st :: sts) (sSeq f1 f2) := pss_mono (pss_cons h1 h2) fun D σ H ⟨Fm, Hb, ia, env, A, p⟩ => ⟨Fm, Hb, ia, env, A, seq_post p⟩
theorem sss_one (h1 : SS X EX st f1) : SSs X EX [st] f1 := pss_one h1
theorem ss_if {p q : List Stmt} (hc : ST X EX c ta) (h1 : SSs X EX p f1) (h2 : SSs X EX q f2) : SS X EX (.If c p q pos) (sIf ta f1 f2) := ps_mono (ps_if hc h1 h2) fun D σ H ⟨Fm, Hb, ia, env, A, p⟩ =>
  ⟨Fm, Hb, ia, env, A, Post.bindS p fun k e1 H1 Hb1 s1 A1 q1 => by
    cases k with
    | true => exact iteT ⟨Fm, Hb1, ia, e1, A1, q1⟩
    | false => exact iteF ⟨Fm, Hb1, ia, e1, A1, q1⟩⟩
theorem ss_ret (ha : SE X EX e fa) : SS X EX (.Return (some e) pos) (sRet fa) := ps_mono (ps_ret ha) fun D σ H ⟨Fm, Hb, ia, env, A, p⟩ =>
  ⟨Fm, Hb, ia, env, A, Post.bindS p fun val e1 H1 Hb1 s1 A1 q1 v hv => q1 σ H1 Hb1 (Same.refl _) A1 v hv⟩
theorem ss_retN : SS X EX (.Return none pos) sRetN := ps_mono ps_retN fun D σ H ⟨Fm, Hb, ia, env, A, p⟩ => p σ H Hb (Same.refl _) A _ rfl
theorem ss_expr (ha : SE X EX e fa) (hs : swapsWith e none pos.line X.env = pure false) : SS X EX (.Expr e pos) (sExpr fa) := ps_mono (ps_expr ha hs) fun D σ H ⟨Fm, Hb, ia, env, A, p⟩ =>
  ⟨Fm, Hb, ia, env, A, Post.bindS p fun val e1 H1 Hb1 s1 A1 q1 v hv => q1 σ H1 Hb1 (Same.refl _) A1⟩
theorem rd_set {W : Wd} {i : Nat} : ∀ D σ H, rdS W EX (sSet i fa) D σ H → tAsg (rdE W EX fa) (gName i) D σ H := fun D σ H ⟨Fm, Hb, ia, env, A, p⟩ =>
  ⟨Fm, Hb, ia, env, A, Post.bindS p fun val e1 H1 Hb1 s1 A1 q1 v hv => by
    unfold setVal at q1
    dsimp only at q1
    split at q1
    · rename_i hc
      obtain ⟨h1, h2⟩ := canSet_ok hc
      cases val with
      | imm d => exact q1 _ H1 Hb1 (Same.refl _) (A1.setImm h1 h2 hv)
      | fresh d =>
        obtain ⟨p, rfl, g1, g2, g3, g4⟩ := hv
        exact q1 _ H1 Hb1 (Same.refl _) (A1.setOwn h1 h2 g1 g2 g3 g4)
    · exact q1.elim⟩
theorem ss_set {i : Nat} (h : PS X st (tAsg (rdE (wd X) EX fa) (gName i))) : SS X EX st (sSet i fa) := ps_mono h rd_set
theorem ss_asg (hg : SG X a ts g) (ha : SE X EX e fa) (hs : swapsWithSole [a] e pos.line X.env = pure false) (hw : swappedStores [a] e X.env = pure none) (h1 : (assignEach [a] X.env).map (·.2) = [assign a X.env]) : SS X EX (.Assign [a] e pos) (sAsg g fa) := ps_mono (ps_asg ha hg hs hw h1) fun D σ H ⟨Fm, Hb, ia, env, A, p⟩ =>
  ⟨Fm, Hb, ia, env, A, Post.bindVS p fun val e1 v H1 Hb1 s1 A1 r1 q1 => ⟨Fm, Hb1, ia, e1, val.d, A1, r1, by
    dsimp only at q1
    cases q : g val.d e1 with
    | ok e2 =>
      rw [q] at q1
      exact fun σ' _ A2 => q1 σ' H1 Hb1 (Same.refl _) A2
    | err x => rw [q] at q1; exact q1.elim
    | bad => rw [q] at q1; exact q1.elim⟩⟩
end
end G


set_option maxRecDepth 100000
set_option maxHeartbeats 4000000
/-! Kern10: stores into lists; two names at once; while, for; what is walked. -/
namespace G
open PySem PySem.Spec PyProof.Rows L2

/-! ### stores into what a name owns -/
def slotWr (i : Nat) (env : Env') (f : Dt → Option Dt) : Res (Fl × Env') := match env[i]? with
  | some (.own d) => match f d with
    | some d' => .ok (.nx, env.set i (.own d'))
    | none => .bad
  | some (.io d) => match f d with
    | some d' => .ok (.nx, env.set i (.io d'))
    | none => .bad
  | _ => .bad
def addD (x : Dt) : Dt → Option Dt
  | .lst ds => if ds.length < sizeLine then some (.lst (ds ++ [x])) else none
  | _ => none
def extD (x : Dt) : Dt → Option Dt
  | .lst ds => match x with
    | .lst es => if ds.length + es.length ≤ sizeLine then some (.lst (ds ++ es)) else none
    | _ => none
  | _ => none
def putD (k x : Dt) : Dt → Option Dt
  | .lst ds => match k with
    | .int n => match L2.ixN ds.length n with
      | some j => some (.lst (ds.set j x))
      | none => none
    | _ => none
  | _ => none
def isLst : Slot → Bool
  | .own (.lst _) => true
  | .io (.lst _) => true
  | _ => false
def sApp (i : Nat) (f : DE) : DS := fun env => if (env[i]?.map isLst) = some true then (f env).bind fun p => slotWr i p.2 (addD p.1.d) else .bad
def sExt (i : Nat) (f : DE) : DS := fun env => if (env[i]?.map isLst) = some true then (f env).bind fun p => slotWr i p.2 (extD p.1.d) else .bad
def sPut (i : Nat) (fb f : DE) : DS := fun env => (f env).bind fun p => if (p.2[i]?.map isLst) = some true then (fb p.2).bind fun q => slotWr i q.2 (putD q.1.d p.1.d) else .bad
section
variable {W : Wd} {EX : XK} {Fm Hb H : Hp} {ia : Option Addr} {env : Env'} {σ : L2.St} {D : Ends}
/-- a list that a name owns -/
theorem lst_at (A : Agr W Fm Hb ia env σ H) {i : Nat} (h : (env[i]?.map isLst) = some true) : ∃ a vs, σ[i]? = some (some (.ref a)) ∧ H a = some (.lst vs) := by
  obtain ⟨s, h1, h2⟩ := Option.map_eq_some_iff.mp h
  cases s with
  | own d =>
    cases d <;> first
      | cases h2
      | skip
    obtain ⟨a, g1, _, _, vs, g2, _⟩ := A.own i _ (.inl h1)
    exact ⟨a, vs, g1, g2⟩
  | io d =>
    cases d <;> first
      | cases h2
      | skip
    obtain ⟨a, g1, _, _, vs, g2, _⟩ := A.own i _ (.inr h1)
    exact ⟨a, vs, g1, g2⟩
  | un => cases h2
  | imm d => cases h2
theorem slot_wr {f : Dt → Option Dt} {i : Nat} (A : Agr W Fm Hb ia env σ H) (p : PostS W EX Fm Hb ia D (slotWr i env f)) :
    ∃ a d d' mk, σ[i]? = some (some (.ref a)) ∧ f d = some d' ∧ OwnAt W Hb H a d ∧ (∀ o, OwnAt W Hb (upd H a o) a d' → Agr W Fm Hb ia (env.set i mk) σ (upd H a o)) ∧ PostS W EX Fm Hb ia D (.ok (.nx, env.set i mk)) := by
  unfold slotWr at p
  split at p
  · rename_i d hd
    cases q : f d with
    | some d' =>
      rw [q] at p
      obtain ⟨a, g1, g2, g3, g4⟩ := A.own i d (.inl hd)
      exact ⟨a, d, d', .own d', g1, q, g4, fun o ho => A.write (d := d) (.inl hd) (.inl ⟨hd, rfl⟩) g1 ho, p⟩
    | none => rw [q] at p; exact p.elim
  · rename_i d hd
    cases q : f d with
    | some d' =>
      rw [q] at p
      obtain ⟨a, g1, g2, g3, g4⟩ := A.own i d (.inr hd)
      exact ⟨a, d, d', .io d', g1, q, g4, fun o ho => A.write (d := d) (.inr hd) (.inr ⟨hd, rfl⟩) g1 ho, p⟩
    | none => rw [q] at p; exact p.elim
  · exact p.elim
end
section
variable {X : Cx} {EX : XK} {pos : Pos} {e a b c : Expr} {es : List Expr} {fa fb : DE} {st : Stmt}
theorem ss_app {i : Nat} (h : PS X st (tDrop (tBM X.K "list" rAppend (tVar i) (tCons (rdE (wd X) EX fa) tNil)))) : SS X EX st (sApp i fa) := ps_mono h fun D σ H ⟨Fm, Hb, ia, env, A, p⟩ => by
  unfold sApp at p
  split at p
  · rename_i ho
    obtain ⟨a, vs, g1, g2⟩ := lst_at A ho
    refine ⟨.ref a, g1, .inl ⟨rfl, vs, .inl (.inl g2)⟩, Fm, Hb, ia, env, A, Post.bindVS p fun val e1 v H1 Hb1 s1 A1 r1 q1 => ?_⟩
    obtain ⟨a', d, d', mk, k1, k2, k3, k4, k5⟩ := slot_wr A1 q1
    rw [g1] at k1
    cases k1
    cases d <;> first
      | cases k2
      | skip
    rename_i ds
    simp only [addD] at k2
    split at k2
    · rename_i hz
      cases k2
      obtain ⟨ws, w1, w2⟩ := k3
      refine ⟨a, ws, v, rfl, rfl, w1, by rw [← w2.len]; exact hz, ?_⟩
      exact k5 σ _ Hb1 (Same.refl _) (k4 _ ⟨_, upd_same, w2.append ⟨v, [], rfl, r1, rfl⟩⟩)
    · cases k2
  · exact p.elim
theorem ss_ext {i : Nat} (h : PS X st (tDrop (tBM X.K "list" rExtend (tVar i) (tCons (rdE (wd X) EX fa) tNil)))) : SS X EX st (sExt i fa) := ps_mono h fun D σ H ⟨Fm, Hb, ia, env, A, p⟩ => by
  unfold sExt at p
  split at p
  · rename_i ho
    obtain ⟨a, vs, g1, g2⟩ := lst_at A ho
    refine ⟨.ref a, g1, .inl ⟨rfl, vs, .inl (.inl g2)⟩, Fm, Hb, ia, env, A, Post.bindVS p fun val e1 v H1 Hb1 s1 A1 r1 q1 => ?_⟩
    obtain ⟨a', d, d', mk, k1, k2, k3, k4, k5⟩ := slot_wr A1 q1
    rw [g1] at k1
    cases k1
    cases d <;> first
      | cases k2
      | skip
    rename_i ds
    dsimp only at k2 r1
    generalize val.d = x at k2 r1
    cases x <;> first
      | cases k2
      | skip
    rename_i es
    simp only [extD] at k2
    split at k2
    · rename_i hz
      cases k2
      obtain ⟨ws, w1, w2⟩ := k3
      obtain ⟨b, zs, rfl, z1, z2⟩ := r1
      refine ⟨a, b, ws, zs, rfl, rfl, w1, A1.bs.hb _ _ z1, by rw [← w2.len, ← z2.len]; exact hz, ?_⟩
      exact k5 σ _ Hb1 (Same.refl _) (k4 _ ⟨_, upd_same, w2.append z2⟩)
    · cases k2
  · exact p.elim
theorem ss_put {i : Nat} (h : PS X st (tAsg (rdE (wd X) EX fa) (gSub (tVar i) (rdE (wd X) EX fb) rSetL))) : SS X EX st (sPut i fb fa) := ps_mono h fun D σ H ⟨Fm, Hb, ia, env, A, p⟩ =>
  ⟨Fm, Hb, ia, env, A, Post.bindVS p fun val e1 v H1 Hb1 s1 A1 r1 q1 => by
    dsimp only at q1
    split at q1
    · rename_i ho
      obtain ⟨a, vs, g1, g2⟩ := lst_at A1 ho
      refine ⟨.ref a, g1, Fm, Hb1, ia, e1, A1, Post.bindVS q1 fun vk e2 k H2 Hb2 s2 A2 r2 q2 => ?_⟩
      obtain ⟨a', d, d', mk, k1, k2, k3, k4, k5⟩ := slot_wr A2 q2
      rw [g1] at k1
      cases k1
      cases d <;> first
        | cases k2
        | skip
      rename_i ds
      dsimp only at k2 r2
      generalize vk.d = x at k2 r2
      cases x <;> first
        | cases k2
        | skip
      rename_i n
      simp only [putD] at k2
      split at k2
      · rename_i j hj
        cases k2
        obtain ⟨ws, w1, w2⟩ := k3
        refine ⟨a, ws, n, j, rfl, r2, w1, by rw [← w2.len]; exact hj, ?_⟩
        exact k5 σ _ Hb2 (Same.refl _) (k4 _ ⟨_, upd_same, w2.set (RdD.mono s2 _ _ r1) j⟩)
      · cases k2
    · exact q1.elim⟩
theorem ss_par {i j : Nat} {g : DA} (hij : i ≠ j) (h : PS X st (tPar i j (rdA (wd X) EX g))) : SS X EX st (sPar i j g) := ps_mono h fun D σ H ⟨Fm, Hb, ia, env, A, p⟩ =>
  ⟨Fm, Hb, ia, env, A, Post.bindS p fun ds e1 H1 Hb1 s1 A1 q1 vs hv => by
    dsimp only at q1
    split at q1
    · rename_i d d'
      split at q1
      · rename_i hc
        rw [Bool.and_eq_true] at hc
        obtain ⟨v, w, rfl, r1, r2⟩ := hv.two
        obtain ⟨c1, c2⟩ := canSet_ok hc.1
        obtain ⟨c3, c4⟩ := canSet_ok hc.2
        refine ⟨v, w, rfl, ?_⟩
        exact q1 _ H1 Hb1 (Same.refl _) ((A1.setImm c1 c2 r1).setImm (by rw [List.length_set]; exact c3) (fun x => by rw [List.getElem?_set_ne hij]; exact c4 x) r2)
      · exact q1.elim
    · exact q1.elim⟩
/-- x op= e -/
def sAug (i : Nat) (g : Dt → Dt → Res Val) (f : DE) : DS := fun env => match env[i]? with
  | some (.imm d) => (f env).bind fun p => if canSet p.2 i then match g d p.1.d with
    | .ok (.imm r) => .ok (.nx, p.2.set i (.imm r))
    | _ => .bad else .bad
  | _ => .bad
theorem ss_augI {i : Nat} {f : Int → Int → Int} {g : Dt → Dt → Res Val} (hg : ∀ x y r, g x y = .ok r → ∃ a b, x = .int a ∧ y = .int b ∧ r = .imm (.int (f a b))) (h : PS X st (tAug i (rdE (wd X) EX fa) (ipI f))) : SS X EX st (sAug i g fa) := ps_mono h fun D σ H ⟨Fm, Hb, ia, env, A, p⟩ => by
  unfold sAug at p
  split at p
  · rename_i d hd
    obtain ⟨x, h1, h2⟩ := A.imm i d hd
    refine ⟨x, h1, Fm, Hb, ia, env, A, Post.bindVS p fun val e1 v H1 Hb1 s1 A1 r1 q1 => ?_⟩
    dsimp only at q1
    split at q1
    · rename_i hc
      obtain ⟨c1, c2⟩ := canSet_ok hc
      split at q1
      · rename_i r hr
        obtain ⟨a, b, rfl, e2, e3⟩ := hg _ _ _ hr
        cases e3
        rw [e2] at r1
        exact ⟨a, b, h2, r1, q1 _ H1 Hb1 (Same.refl _) (A1.setImm c1 c2 rfl)⟩
      · exact q1.elim
    · exact q1.elim
  · exact p.elim

/-! ### while -/
def sWhile (t : DT) (f : DS) : Nat → DS
  | 0 => fun _ => .bad
  | n + 1 => fun env => (t env).bind fun p => if p.1 = true then (f p.2).bind fun q => match q.1 with
    | .nx => sWhile t f n q.2
    | .ct => sWhile t f n q.2
    | .bk => .ok (.nx, q.2)
    | .rt v => .ok (.rt v, q.2) else .ok (.nx, p.2)
variable {t : DT} {f : DS} {body : List Stmt}
theorem loop_post {W : Wd} {Fm Hb : Hp} {ia : Option Addr} {D : Ends} {N : L2.St → Hp → Prop} {k : Env' → Res (Fl × Env')} {r : Res (Fl × Env')} (p : PostS W EX Fm Hb ia D (r.bind fun q => match q.1 with
    | .nx => k q.2
    | .ct => k q.2
    | .bk => .ok (.nx, q.2)
    | .rt v => .ok (.rt v, q.2)))
    (h : ∀ e σ' H' Hb', Same Hb Hb' → Agr W Fm Hb' ia e σ' H' → PostS W EX Fm Hb' ia D (k e) → N σ' H') : PostS W EX Fm Hb ia { D with nx := N, ct := N, bk := D.nx } r := by
  cases r with
  | ok q =>
    obtain ⟨fl, e⟩ := q
    cases fl with
    | nx => exact fun σ' H' Hb' s A => h e σ' H' Hb' s A (PostS.mono s p)
    | rt v => exact fun σ' H' Hb' s A => p σ' H' Hb' s A
    | bk => exact fun σ' H' Hb' s A => p σ' H' Hb' s A
    | ct => exact fun σ' H' Hb' s A => h e σ' H' Hb' s A (PostS.mono s p)
  | err x => exact p
  | bad => exact p.elim
theorem ss_while {n : Nat} (hp : PassesOwn (model X.prog X.w) X.A X.env X.xe) (hc : ST X EX c t) (hb : SSs X EX body f) : SS X EX (.While c body [] pos) (sWhile t f n) := ps_mono (ps_while hp hc hb) fun D σ H ⟨Fm, Hb, ia, env, A, p⟩ =>
  ⟨fun m σ' H' => ∃ Hb' e, Agr (wd X) Fm Hb' ia e σ' H' ∧ PostS (wd X) EX Fm Hb' ia D (sWhile t f m e), ⟨n, Hb, env, A, p⟩, fun m σ1 H1 ⟨Hb1, e1, A1, p1⟩ => by
    cases m with
    | zero => exact p1.elim
    | succ m =>
      refine ⟨Fm, Hb1, ia, e1, A1, Post.bindS p1 fun k e2 H2 Hb2 s2 A2 q2 => ?_⟩
      cases k with
      | true =>
        refine iteT ⟨fun σ' H' => ∃ Hb' e, Agr (wd X) Fm Hb' ia e σ' H' ∧ PostS (wd X) EX Fm Hb' ia D (sWhile t f m e), fun σ' H' h => ⟨m, Nat.lt_succ_self _, h⟩, Fm, Hb2, ia, e2, A2, ?_⟩
        exact loop_post q2 fun e σ' H' Hb' s A p => ⟨Hb', e, A, p⟩
      | false => exact iteF (q2 σ1 H2 Hb2 (Same.refl _) A2)⟩

/-! ### what is walked -/
/-- the i-th turn gives d: the heap stays, or a new tuple is laid -/
def Yl (W : Wd) (Hb H : Hp) (d : Dt) (x : V) (H' : Hp) : Prop := (H' = H ∧ RdD W Hb d x) ∨ ∃ T vs es, x = .ref T ∧ H T = none ∧ H' = upd H T (.tup vs) ∧ d = .tup es ∧ RdL W Hb es vs
structure Yields (W : Wd) (Fm Hb0 : Hp) (J : It) (ds : List Dt) : Prop where
  go : ∀ i Hb H, i < ds.length → Same Hb0 Hb → Bse Fm Hb H → J.go i H
  stop : ∀ Hb H, Same Hb0 Hb → Bse Fm Hb H → J.stop ds.length H
  yld : ∀ i d Hb H x H', ds[i]? = some d → Same Hb0 Hb → Bse Fm Hb H → J.yld i H x H' → Yl W Hb H d x H'
/-- iter walks the data that it tells -/
def SI (X : Cx) (EX : XK) (tg iter : Expr) (it : DA) : Prop := ∃ wi, PI X tg iter wi ∧ ∀ Fm Hb ia σ env H (R : It → Hp → Prop), Agr (wd X) Fm Hb ia env σ H →
  Post (wd X) EX Fm Hb ia σ (fun ds e Hb1 H1 => ∀ J, Yields (wd X) Fm Hb1 J ds → R J H1) (it env) → wi σ H R
theorem Yl.agr {W : Wd} {Fm Hb H H' : Hp} {ia : Option Addr} {env : Env'} {σ : L2.St} {d : Dt} {x : V} (y : Yl W Hb H d x H') (A : Agr W Fm Hb ia env σ H) : ∃ Hb', Same Hb Hb' ∧ Agr W Fm Hb' ia env σ H' ∧ RdD W Hb' d x := by
  rcases y with ⟨rfl, r⟩ | ⟨T, vs, es, rfl, hT, rfl, rfl, r⟩
  · exact ⟨Hb, Same.refl _, A, r⟩
  · have hn := A.bs.hb.free hT
    exact ⟨upd Hb T (.tup vs), same_lay hn, A.lay hT, T, vs, rfl, .inl (.inl upd_same), RdL.mono (same_lay hn) _ _ r⟩
def sLoop (g : DG) (f : DS) : List Dt → DS
  | [] => fun env => .ok (.nx, env)
  | d :: ds => fun env => match g d env with
    | .ok e => (f e).bind fun q => match q.1 with
      | .nx => sLoop g f ds q.2
      | .ct => sLoop g f ds q.2
      | .bk => .ok (.nx, q.2)
      | .rt v => .ok (.rt v, q.2)
    | _ => .bad
def sFor (it : DA) (g : DG) (f : DS) : DS := fun env => (it env).bind fun p => sLoop g f p.1 p.2
theorem ss_for {tg iter : Expr} {it : DA} {g : DG} {ts : List Nat} (hp : PassesOwn (model X.prog X.w) X.A X.env X.xe) (hc : X.calm = true) (hi : SI X EX tg iter it) (hg : SG X tg ts g) (hb : SSs X EX body f) (hs : ∀ x, foldedSetIterable iter X.env x = pure x) : SS X EX (.For tg iter body [] pos) (sFor it g f) := by
  obtain ⟨wi, h1, h2⟩ := hi
  refine ps_mono (ps_for hp hc h1 hg hb hs) fun D σ H ⟨Fm, Hb, ia, env, A, p⟩ => ?_
  refine h2 Fm Hb ia σ env H _ A (Post.bindS p fun ds e1 H1 Hb1 s1 A1 q1 J y => ?_)
  dsimp only at q1
  refine ⟨fun i m σ' H' => m = ds.length - i ∧ i ≤ ds.length ∧ ∃ Hb' e, Same Hb1 Hb' ∧ Agr (wd X) Fm Hb' ia e σ' H' ∧ PostS (wd X) EX Fm Hb' ia D (sLoop g f (ds.drop i) e), ⟨ds.length, rfl, Nat.zero_le _, Hb1, e1, Same.refl _, A1, q1⟩, ?_⟩
  rintro i m σ2 H2 ⟨rfl, hi, Hb2, e2, s2, A2, p2⟩
  by_cases hlt : i < ds.length
  · right
    have hd : ds.drop i = ds[i] :: ds.drop (i + 1) := List.drop_eq_getElem_cons hlt
    refine ⟨y.go i Hb2 H2 hlt s2 A2.bs, fun σ' H' => ∃ Hb' e, Same Hb1 Hb' ∧ Agr (wd X) Fm Hb' ia e σ' H' ∧ PostS (wd X) EX Fm Hb' ia D (sLoop g f (ds.drop (i + 1)) e), ?_, ?_⟩
    · rintro σ' H' ⟨Hb', e, x1, x2, x3⟩
      exact ⟨ds.length - (i + 1), by omega, rfl, by omega, Hb', e, x1, x2, x3⟩
    · intro x H3 hy
      obtain ⟨Hb3, s3, A3, r3⟩ := (y.yld i ds[i] Hb2 H2 x H3 (List.getElem?_eq_getElem hlt) s2 A2.bs hy).agr A2
      rw [hd] at p2
      have p3 := PostS.mono s3 p2
      refine ⟨Fm, Hb3, ia, e2, ds[i], A3, r3, ?_⟩
      unfold sLoop at p3
      cases q : g ds[i] e2 with
      | ok e3 =>
        rw [q] at p3
        intro σ3 _ A4
        refine ⟨Fm, Hb3, ia, e3, A4, loop_post p3 fun e σ' H' Hb' s A p => ⟨Hb', e, (s2.trans s3).trans s, A, p⟩⟩
      | err z => rw [q] at p3; exact p3.elim
      | bad => rw [q] at p3; exact p3.elim
  · left
    have e : i = ds.length := by omega
    subst e
    rw [List.drop_length] at p2
    exact ⟨y.stop Hb2 H2 s2 A2.bs, p2 σ2 H2 Hb2 (Same.refl _) A2⟩
end
end G


set_option maxRecDepth 100000
set_option maxHeartbeats 4000000
/-! Kern11: what is walked (lists, tuples, ranges); list comprehensions. -/
namespace G
open PySem PySem.Spec PyProof.Rows L2

/-! ### walks -/
theorem yields_l {W : Wd} {Fm Hb : Hp} {a : Addr} {vs : List V} {ds : List Dt} (h : SqL W.K Hb a vs) (r : RdL W Hb ds vs) : Yields W Fm Hb (Itl W.K a) ds where
  go := fun i Hb' H hi s b => by
    obtain ⟨v, h1, _⟩ := r.get (List.getElem?_eq_getElem hi)
    exact ⟨vs, v, same_l b.hb (same_l s h), h1⟩
  stop := fun Hb' H s b => ⟨vs, same_l b.hb (same_l s h), by rw [← r.len]; exact Nat.le_refl _⟩
  yld := fun i d Hb' H x H' hd s b y => by
    obtain ⟨e, y⟩ := y
    obtain ⟨v, h1, h2⟩ := r.get hd
    have := y vs (same_l b.hb (same_l s h))
    rw [h1] at this
    cases this
    exact .inl ⟨e, RdD.mono s _ _ h2⟩
theorem yields_t {W : Wd} {Fm Hb : Hp} {a : Addr} {vs : List V} {ds : List Dt} (h : SqT W.K Hb a vs) (r : RdL W Hb ds vs) : Yields W Fm Hb (Itt W.K a) ds where
  go := fun i Hb' H hi s b => by
    obtain ⟨v, h1, _⟩ := r.get (List.getElem?_eq_getElem hi)
    exact ⟨vs, v, same_t b.hb (same_t s h), h1⟩
  stop := fun Hb' H s b => ⟨vs, same_t b.hb (same_t s h), by rw [← r.len]; exact Nat.le_refl _⟩
  yld := fun i d Hb' H x H' hd s b y => by
    obtain ⟨e, y⟩ := y
    obtain ⟨v, h1, h2⟩ := r.get hd
    have := y vs (same_t b.hb (same_t s h))
    rw [h1] at this
    cases this
    exact .inl ⟨e, RdD.mono s _ _ h2⟩
def rngD (lo : Int) (n : Nat) : List Dt := (List.range n).map fun i => .int (lo + (i : Nat))
theorem rngD_len (lo : Int) (n : Nat) : (rngD lo n).length = n := by
  unfold rngD
  rw [List.length_map, List.length_range]
theorem yields_r {W : Wd} {Fm Hb : Hp} (lo : Int) (n : Nat) : Yields W Fm Hb (Itr lo n) (rngD lo n) where
  go := fun i Hb' H hi s b => by rw [rngD_len] at hi; exact hi
  stop := fun Hb' H s b => by rw [rngD_len]; exact Nat.le_refl _
  yld := fun i d Hb' H x H' hd s b y => by
    obtain ⟨e, e'⟩ := y
    refine .inl ⟨e, ?_⟩
    unfold rngD at hd
    rw [List.getElem?_map] at hd
    obtain ⟨j, hj, rfl⟩ := Option.map_eq_some_iff.mp hd
    obtain ⟨hl, e2⟩ := List.getElem?_eq_some_iff.mp hj
    rw [List.getElem_range] at e2
    subst e2
    exact e'
theorem pi_either {X : Cx} {tg e : Expr} {w1 w2 : TI} (h1 : PI X tg e w1) (h2 : PI X tg e w2) : PI X tg e (fun σ H R => w1 σ H R ∨ w2 σ H R) := ⟨fun pins s σ H R I h => by
  rcases h with h | h
  · exact h1.run pins s σ H R I h
  · exact h2.run pins s σ H R I h⟩
def itSeq (f : DE) : DA := fun env => (f env).bind fun p => match seqD p.1.d with
  | some ds => .ok (ds, p.2)
  | none => .bad
def int62 (j : Int) : Bool := decide (j.natAbs < 2 ^ 62)
theorem int62_le {j : Int} (h : int62 j = true) : -(2 ^ 62) ≤ j ∧ j < 2 ^ 62 := by
  have := of_decide_eq_true h
  omega
def itRng1 (g : DA) : DA := fun env => (g env).bind fun p => match p.1 with
  | [.int j] => if int62 j = true then .ok (rngD 0 j.toNat, p.2) else .bad
  | _ => .bad
def itRng2 (g : DA) : DA := fun env => (g env).bind fun p => match p.1 with
  | [.int i, .int j] => if int62 i = true ∧ int62 j = true then .ok (rngD i (j - i).toNat, p.2) else .bad
  | _ => .bad
section
variable {X : Cx} {EX : XK} {pos p1 : Pos} {tg e a b c l : Expr} {es : List Expr} {f fa fb : DE} {g : DA}
theorem si_seq (hl : SE X EX l f) : SI X EX tg l (itSeq f) := by
  refine ⟨_, pi_either (pi_list hl) (pi_tup hl), fun Fm Hb ia σ env H R A p => ?_⟩
  unfold itSeq at p
  cases q : f env with
  | err x =>
    rw [q] at p
    exact .inl ⟨Fm, Hb, ia, env, A, by rw [q]; exact p⟩
  | bad => rw [q] at p; exact p.elim
  | ok r =>
    obtain ⟨val, e1⟩ := r
    rw [q, Res.bind_ok] at p
    dsimp only at p
    have tup : ∀ es, val.d = .tup es → iTup X.K (rdE (wd X) EX f) σ H R := fun es hd => by
      rw [hd] at p
      refine ⟨Fm, Hb, ia, env, A, ?_⟩
      rw [q]
      refine fun H1 Hb1 s1 A1 => GE.use (fun d Hb2 v ed s2 A2 r2 => ?_) A1
      subst ed
      rw [hd] at r2
      obtain ⟨a, vs, rfl, h1, h2⟩ := r2
      exact ⟨a, rfl, ⟨vs, same_t A2.bs.hb h1⟩, p H1 Hb2 (s1.trans s2) A2 _ (yields_t (W := wd X) h1 h2)⟩
    have lst : ∀ ds, seqD val.d = some ds → (∀ es, val.d ≠ .tup es) → iList X.K (rdE (wd X) EX f) σ H R := fun ds hd hn => by
      rw [hd] at p
      refine ⟨Fm, Hb, ia, env, A, ?_⟩
      rw [q]
      refine fun H1 Hb1 s1 A1 => GE.use (fun d Hb2 v ed s2 A2 r2 => ?_) A1
      subst ed
      have r3 : ∃ a vs, v = .ref a ∧ SqL X.K Hb2 a vs ∧ RdL (wd X) Hb2 ds vs := by
        generalize val.d = d at hd hn r2
        cases d with
        | lst es =>
          cases hd
          obtain ⟨a, vs, rfl, h1, h2⟩ := r2
          exact ⟨a, vs, rfl, .inl (.inl h1), h2⟩
        | scr ns =>
          cases hd
          obtain ⟨a, rfl, h1⟩ := r2
          exact ⟨a, _, rfl, h1, RdL.ofInts ns⟩
        | tup es => exact absurd rfl (hn es)
        | _ => cases hd
      obtain ⟨a, vs, rfl, h1, h2⟩ := r3
      exact ⟨a, rfl, ⟨vs, same_l A2.bs.hb h1⟩, p H1 Hb2 (s1.trans s2) A2 _ (yields_l (W := wd X) h1 h2)⟩
    cases hd : seqD val.d with
    | none => rw [hd] at p; exact p.elim
    | some ds =>
      cases hk : val.d with
      | tup es => exact .inr (tup es hk)
      | _ => exact .inl (lst ds hd fun es z => by rw [hk] at z; cases z)
theorem si_rng1 (hg : Gl X "range") (hm : X.mg "range" = none) (ha : SA X EX [a] g) (hs : isStar a = false) : SI X EX tg (.Call (.Name "range" p1) [a] [] pos) (itRng1 g) := by
  refine ⟨_, pi_range1 hg hm ha (star_no hs), fun Fm Hb ia σ env H R A p => ?_⟩
  refine ⟨Fm, Hb, ia, env, A, Post.bind p fun ds e1 H1 Hb1 s1 A1 q1 vs hv => ?_⟩
  dsimp only at q1
  split at q1
  · rename_i j
    split at q1
    · rename_i hj
      have hj := int62_le hj
      obtain ⟨v, r, rfl, h1, h2⟩ := hv
      cases (show v = V.int j from h1)
      cases (show r = [] from h2)
      exact ⟨j, rfl, hj.1, hj.2, q1 H1 Hb1 (Same.refl _) A1 _ (yields_r 0 j.toNat)⟩
    · exact q1.elim
  · exact q1.elim
theorem si_rng2 (hg : Gl X "range") (hm : X.mg "range" = none) (ha : SA X EX [a, b] g) (hs : isStar a = false) (hs2 : isStar b = false) : SI X EX tg (.Call (.Name "range" p1) [a, b] [] pos) (itRng2 g) := by
  refine ⟨_, pi_range2 hg hm ha (by rw [star_no hs, star_no hs2]; rfl) (star_no hs2), fun Fm Hb ia σ env H R A p => ?_⟩
  refine ⟨Fm, Hb, ia, env, A, Post.bind p fun ds e1 H1 Hb1 s1 A1 q1 vs hv => ?_⟩
  dsimp only at q1
  split at q1
  · rename_i i j
    split at q1
    · rename_i hj
      have h1 := int62_le hj.1
      have h2 := int62_le hj.2
      obtain ⟨v, w, rfl, r1, r2⟩ := hv.two
      cases (show v = V.int i from r1)
      cases (show w = V.int j from r2)
      exact ⟨i, j, rfl, ⟨h1.1, h1.2, h2.1, h2.2⟩, q1 H1 Hb1 (Same.refl _) A1 _ (yields_r i (j - i).toNat)⟩
    · exact q1.elim
  · exact q1.elim
end

/-! ### list comprehensions -/
def Res.hard {α : Type} : Res α → Res α
  | .err _ => .bad
  | r => r
def wipeE (env : Env') : List Nat → Env'
  | [] => env
  | v :: vs => (wipeE env vs).set v .un
def backE (e0 e : Env') : List Nat → Env'
  | [] => e
  | v :: vs => (backE e0 e vs).set v (e0[v]?.getD .un)
def lcOk (env : Env') (vs : List Nat) : Bool := vs.all fun v => match env[v]? with
  | some .un => true
  | some (.imm _) => true
  | _ => false
def lcTurn (vs : List Nat) (g : DG) (t : DT) (f : DE) (d : Dt) (env : Env') : Res (Option Dt × Env') := ((g d env).bind t).hard.bind fun p =>
  if p.1 = true then (f p.2).hard.bind fun q => .ok (some q.1.d, wipeE q.2 vs) else .ok (none, wipeE p.2 vs)
def lcLoop (vs : List Nat) (g : DG) (t : DT) (f : DE) : List Dt → DA
  | [] => fun env => .ok ([], env)
  | d :: ds => fun env => (lcTurn vs g t f d env).bind fun p => (lcLoop vs g t f ds p.2).bind fun q => .ok (p.1.toList ++ q.1, q.2)
def dLc (vs : List Nat) (it : DA) (g : DG) (t : DT) (f : DE) : DE := fun env => (it env).bind fun p =>
  if lcOk p.2 vs = true ∧ p.1.length ≤ sizeLine then (lcLoop vs g t f p.1 (wipeE p.2 vs)).hard.bind fun q => .ok (.fresh (.lst q.1), backE p.2 q.2 vs) else .bad
def dYes : DT := fun env => .ok (true, env)

theorem wipeE_len (env : Env') : ∀ vs, (wipeE env vs).length = env.length
  | [] => rfl
  | v :: vs => by unfold wipeE; rw [List.length_set, wipeE_len env vs]
theorem backE_len (e0 e : Env') : ∀ vs, (backE e0 e vs).length = e.length
  | [] => rfl
  | v :: vs => by unfold backE; rw [List.length_set, backE_len e0 e vs]
theorem backE_out {e0 e : Env'} {i : Nat} : ∀ {vs : List Nat}, i ∉ vs → (backE e0 e vs)[i]? = e[i]?
  | [], _ => rfl
  | v :: vs, h => by
    unfold backE
    rw [List.getElem?_set_ne fun z => h (by rw [z]; exact List.mem_cons_self)]
    exact backE_out fun z => h (List.mem_cons_of_mem _ z)
theorem backE_in {e0 e : Env'} {i : Nat} {s : Slot} : ∀ {vs : List Nat}, i ∈ vs → (backE e0 e vs)[i]? = some s → s = e0[i]?.getD .un
  | [], h, _ => by cases h
  | v :: vs, h, q => by
    unfold backE at q
    by_cases hv : v = i
    · subst hv
      rcases get_set q with ⟨_, e, _⟩ | ⟨ne, _⟩
      · exact e
      · exact absurd rfl ne
    · rw [List.getElem?_set_ne hv] at q
      rcases List.mem_cons.mp h with z | z
      · exact absurd z.symm hv
      · exact backE_in z q
theorem lcOk_at {env : Env'} {vs : List Nat} (h : lcOk env vs = true) {i : Nat} (hi : i ∈ vs) : env[i]? = some .un ∨ ∃ d, env[i]? = some (.imm d) := by
  have h' := List.all_eq_true.mp h i hi
  revert h'
  cases q : env[i]? with
  | none => intro h'; cases h'
  | some s =>
    cases s with
    | un => intro _; exact .inl rfl
    | imm d => intro _; exact .inr ⟨d, rfl⟩
    | own d => intro h'; cases h'
    | io d => intro h'; cases h'
section
variable {W : Wd} {Fm Hb Hb' H H' : Hp} {ia : Option Addr} {env env' : Env'} {σ : L2.St} {vs : List Nat} {D : Addr} {o o' : HO}
theorem Agr.wipeAll (A : Agr W Fm Hb ia env σ H) : ∀ {vs : List Nat}, (∀ a, ia = some a → 0 ∉ vs) → Agr W Fm Hb ia (wipeE env vs) (wipe σ vs) H
  | [], _ => A
  | v :: vs, h => by
    have A' := Agr.wipeAll A (vs := vs) fun a e z => h a e (List.mem_cons_of_mem _ z)
    exact A'.forget fun e z => by
      obtain ⟨h0, a, ha, _⟩ := A'.io v e z
      exact h a ha (by rw [h0]; exact List.mem_cons_self)
theorem Agr.alien (A : Agr W Fm Hb ia env σ H) (h1 : Hb D = none) (ho : H D = some o) (h2 : ∀ i d, Owns env i d → σ[i]? ≠ some (some (.ref D))) : Agr W (upd Fm D o) Hb ia env σ H where
  bs := ⟨A.bs.hb, fun a u e => by
    by_cases ha : a = D
    · subst ha
      rw [upd_same] at e
      rw [← e]
      exact ho
    · rw [upd_ne ha] at e
      exact A.bs.fm a u e, fun a u e => by
    by_cases ha : a = D
    · rw [ha]; exact h1
    · rw [upd_ne ha] at e
      exact A.bs.dj a u e⟩
  len := A.len
  imm := A.imm
  own := fun i d e => by
    obtain ⟨a, g1, g2, g3, g4⟩ := A.own i d e
    exact ⟨a, g1, g2, by rw [upd_ne fun z => h2 i d e (by rw [← z]; exact g1)]; exact g3, g4⟩
  inj := A.inj
  io := A.io
  ioh := A.ioh
theorem Bse.unalien (b : Bse (upd Fm D o) Hb H) (h : Fm D = none) : Bse Fm Hb H := ⟨b.hb, fun a u e => b.fm a u (by rw [upd_ne (ne_of_none e h)]; exact e), fun a u e => b.dj a u (by rw [upd_ne (ne_of_none e h)]; exact e)⟩
theorem upd_none {a : Addr} (h : (upd Fm D o) a = none) : a ≠ D ∧ Fm a = none := by
  by_cases ha : a = D
  · rw [ha, upd_same] at h; cases h
  · rw [upd_ne ha] at h; exact ⟨ha, h⟩
theorem Agr.unalien (A : Agr W (upd Fm D o) Hb ia env σ H) (h : Fm D = none) : Agr W Fm Hb ia env σ H where
  bs := A.bs.unalien h
  len := A.len
  imm := A.imm
  own := fun i d e => by
    obtain ⟨a, g1, g2, g3, g4⟩ := A.own i d e
    exact ⟨a, g1, g2, (upd_none g3).2, g4⟩
  inj := A.inj
  io := A.io
  ioh := A.ioh
theorem Agr.alienSet (A : Agr W (upd Fm D o) Hb ia env σ H) (h : Fm D = none) : Agr W (upd Fm D o') Hb ia env σ (upd H D o') where
  bs := by
    have hb := A.bs.dj D o upd_same
    refine ⟨fun a u e => ?_, fun a u e => ?_, fun a u e => ?_⟩
    · rw [upd_ne (ne_of_none e hb)]; exact A.bs.hb a u e
    · by_cases ha : a = D
      · subst ha; rw [upd_same] at e ⊢; exact e
      · rw [upd_ne ha] at e ⊢
        exact A.bs.fm a u (by rw [upd_ne ha]; exact e)
    · by_cases ha : a = D
      · rw [ha]; exact hb
      · rw [upd_ne ha] at e
        exact A.bs.dj a u (by rw [upd_ne ha]; exact e)
  len := A.len
  imm := A.imm
  own := fun i d e => by
    obtain ⟨a, g1, g2, g3, g4⟩ := A.own i d e
    obtain ⟨ne, g3⟩ := upd_none g3
    exact ⟨a, g1, g2, by rw [upd_ne ne]; exact g3, g4.move (Same.refl _) fun u e => by rw [upd_ne ne]; exact e⟩
  inj := A.inj
  io := A.io
  ioh := A.ioh
theorem Agr.back (A : Agr W Fm Hb ia env σ H) (s : Same Hb Hb') (B : Agr W Fm Hb' ia env' (wipe σ vs) H') (h : lcOk env vs = true) : Agr W Fm Hb' ia (backE env env' vs) σ H' := by
  have key : ∀ i sl, (backE env env' vs)[i]? = some sl → (i ∈ vs ∧ (sl = .un ∨ ∃ d, sl = .imm d ∧ env[i]? = some (.imm d))) ∨ (i ∉ vs ∧ env'[i]? = some sl ∧ (wipe σ vs)[i]? = σ[i]?) := fun i sl q => by
    by_cases hi : i ∈ vs
    · have e := backE_in hi q
      rcases lcOk_at h hi with z | ⟨d, z⟩
      · rw [z] at e; exact .inl ⟨hi, .inl e⟩
      · rw [z] at e; exact .inl ⟨hi, .inr ⟨d, e, z⟩⟩
    · rw [backE_out hi] at q
      exact .inr ⟨hi, q, wipe_out hi⟩
  have keyO : ∀ i d, Owns (backE env env' vs) i d → i ∉ vs ∧ Owns env' i d ∧ (wipe σ vs)[i]? = σ[i]? := fun i d q => by
    rcases q with q | q
    · rcases key i _ q with ⟨_, z | ⟨_, z, _⟩⟩ | ⟨z1, z2, z3⟩
      · cases z
      · cases z
      · exact ⟨z1, .inl z2, z3⟩
    · rcases key i _ q with ⟨_, z | ⟨_, z, _⟩⟩ | ⟨z1, z2, z3⟩
      · cases z
      · cases z
      · exact ⟨z1, .inr z2, z3⟩
  exact {
    bs := B.bs
    len := by rw [backE_len, B.len, wipe_length]
    imm := fun i d q => by
      rcases key i _ q with ⟨_, z | ⟨d', z, y⟩⟩ | ⟨z1, z2, z3⟩
      · cases z
      · cases z
        obtain ⟨v, h1, h2⟩ := A.imm i d y
        exact ⟨v, h1, RdD.mono s _ _ h2⟩
      · rw [← z3]
        exact B.imm i d z2
    own := fun i d q => by
      obtain ⟨z1, z2, z3⟩ := keyO i d q
      rw [← z3]
      exact B.own i d z2
    inj := fun i j d d' a q1 q2 e1 e2 => by
      obtain ⟨_, z2, z3⟩ := keyO i d q1
      obtain ⟨_, y2, y3⟩ := keyO j d' q2
      exact B.inj i j d d' a z2 y2 (by rw [z3]; exact e1) (by rw [y3]; exact e2)
    io := fun i d q => by
      rcases key i _ q with ⟨_, z | ⟨_, z, _⟩⟩ | ⟨z1, z2, z3⟩
      · cases z
      · cases z
      · rw [← z3]; exact B.io i d z2
    ioh := fun a e => by
      obtain ⟨d, q⟩ := B.ioh a e
      refine ⟨d, ?_⟩
      have h0 : 0 ∉ vs := fun z => by
        obtain ⟨d', q'⟩ := A.ioh a e
        rcases lcOk_at h z with y | ⟨_, y⟩
        · rw [q'] at y; cases y
        · rw [q'] at y; cases y
      rw [backE_out h0]
      exact q }
theorem wipe_twice (σ : L2.St) (vs : List Nat) : wipe (wipe σ vs) vs = wipe σ vs := wipe_ext (wipe_length _ _) fun i hi => wipe_out hi
end
abbrev EN : XK := fun _ _ _ => False
theorem hard_ok {α : Type} {r : Res α} {x : α} (h : r.hard = .ok x) : r = .ok x := by
  cases r with
  | ok y => exact h
  | err _ => cases h
  | bad => cases h
theorem bind_okE {α β : Type} {r : Res α} {k : α → Res β} {y : β} (h : r.bind k = .ok y) : ∃ x, r = .ok x ∧ k x = .ok y := by
  cases r with
  | ok x => exact ⟨x, rfl, h⟩
  | err _ => cases h
  | bad => cases h
theorem rd_lc {W : Wd} {EX : XK} {wi : TI} {it : DA} {vs : List Nat} {g : DG} {t : DT} {f : DE}
    (hi : ∀ Fm Hb ia σ env H (R : It → Hp → Prop), Agr W Fm Hb ia env σ H → Post W EX Fm Hb ia σ (fun ds e Hb1 H1 => ∀ J, Yields W Fm Hb1 J ds → R J H1) (it env) → wi σ H R) :
    ∀ σ H Q, rdE W EX (dLc vs it g t f) σ H Q → tLc wi (rdG W vs g) (rdT W EN t) (rdE W EN f) vs σ H Q := fun σ H Q ⟨Fm, Hb, ia, env, A, p⟩ => by
  refine hi Fm Hb ia σ env H _ A (Post.bind p fun ds e H1 Hb1 s1 A1 q1 J y D hD => ?_)
  dsimp only at q1
  split at q1
  · rename_i hc
    obtain ⟨hok, hz⟩ := hc
    cases hL : (lcLoop vs g t f ds (wipeE e vs)).hard with
    | err x => rw [hL] at q1; cases hq : lcLoop vs g t f ds (wipeE e vs) <;> rw [hq] at hL <;> cases hL
    | bad => rw [hL] at q1; exact q1.elim
    | ok r =>
      obtain ⟨all, ef⟩ := r
      rw [hL, Res.bind_ok] at q1
      have hL := hard_ok hL
      obtain ⟨hDb, hDf⟩ := A1.bs.free hD
      have h0 : ∀ a, ia = some a → 0 ∉ vs := fun a ea z => by
        obtain ⟨d', q'⟩ := A1.ioh a ea
        rcases lcOk_at hok z with y | ⟨_, y⟩
        · rw [q'] at y; cases y
        · rw [q'] at y; cases y
      have B0 := A1.wipeAll h0
      have B1 := (B0.put hDb hDf (B0.apart hD) (o := .lst [])).alien hDb upd_same (B0.apart hD)
      refine ⟨fun i m H' => m = ds.length - i ∧ i ≤ ds.length ∧ ∃ Hb' ew acc av rest, Same Hb1 Hb' ∧ Agr W (upd Fm D (.lst av)) Hb' ia ew (wipe σ vs) H' ∧ RdL W Hb' acc av ∧ av.length ≤ i ∧ lcLoop vs g t f (ds.drop i) ew = .ok (rest, ef) ∧ acc ++ rest = all,
        ⟨ds.length, rfl, Nat.zero_le _, Hb1, wipeE e vs, [], [], all, Same.refl _, B1, rfl, Nat.zero_le _, hL, rfl⟩, ?_⟩
      rintro i m H2 ⟨rfl, hi, Hb2, ew, acc, av, rest, s2, A2, ra, hl, hlo, hall⟩
      by_cases hlt : i < ds.length
      · refine .inr ⟨y.go i Hb2 H2 hlt s2 (A2.bs.unalien hDf), fun H' => ∃ Hb' ew acc av rest, Same Hb1 Hb' ∧ Agr W (upd Fm D (.lst av)) Hb' ia ew (wipe σ vs) H' ∧ RdL W Hb' acc av ∧ av.length ≤ i + 1 ∧ lcLoop vs g t f (ds.drop (i + 1)) ew = .ok (rest, ef) ∧ acc ++ rest = all, ?_, ?_⟩
        · rintro H' ⟨Hb', ew', acc', av', rest', x1, x2, x3, x4, x5, x6⟩
          exact ⟨ds.length - (i + 1), by omega, rfl, by omega, Hb', ew', acc', av', rest', x1, x2, x3, x4, x5, x6⟩
        · intro x H3 hy
          obtain ⟨Hb3, s3, A3, r3⟩ := (y.yld i ds[i] Hb2 H2 x H3 (List.getElem?_eq_getElem hlt) s2 (A2.bs.unalien hDf) hy).agr A2
          rw [show ds.drop i = ds[i] :: ds.drop (i + 1) from List.drop_eq_getElem_cons hlt] at hlo
          unfold lcLoop at hlo
          obtain ⟨⟨od, e4⟩, ht, hlo⟩ := bind_okE hlo
          obtain ⟨⟨rest', e5⟩, hr, hlo⟩ := bind_okE hlo
          cases hlo
          unfold lcTurn at ht
          obtain ⟨⟨bb, e6⟩, hgt, ht⟩ := bind_okE ht
          obtain ⟨e7, hg, htt⟩ := bind_okE (hard_ok hgt)
          refine ⟨_, Hb3, ia, ew, ds[i], A3, r3, ?_⟩
          rw [hg]
          intro σ4 w4 A4
          have w4' : wipe σ4 vs = wipe σ vs := (w4 vs fun _ h => h).trans (wipe_twice σ vs)
          refine ⟨w4', _, Hb3, ia, e7, A4, ?_⟩
          rw [htt]
          intro H5 Hb5 s5 A5
          cases bb with
          | false =>
            cases ht
            have A6 := A5.wipeAll h0
            rw [w4'] at A6
            exact ⟨Hb5, _, acc, av, rest', (s2.trans s3).trans s5, A6, RdL.mono (s3.trans s5) _ _ ra, by omega, hr, hall⟩
          | true =>
            obtain ⟨⟨val, e8⟩, hf, ht⟩ := bind_okE ht
            cases ht
            have hf := hard_ok hf
            refine ⟨_, Hb5, ia, e6, A5, ?_⟩
            rw [hf]
            refine fun H6 Hb6 s6 A6 => GE.use (fun dd Hb7 v ed s7 A7 r7 => ?_) A6
            have hD7 : H6 D = some (.lst av) := A7.bs.fm D _ upd_same
            refine ⟨av, hD7, by omega, ?_⟩
            have A8 := (A7.alienSet hDf (o' := .lst (av ++ [v]))).wipeAll h0
            rw [w4'] at A8
            refine ⟨Hb7, _, acc ++ [dd], _, rest', (((s2.trans s3).trans s5).trans s6).trans s7, A8, (RdL.mono (((s3.trans s5).trans s6).trans s7) _ _ ra).append ⟨v, [], rfl, r7, rfl⟩, by rw [List.length_append]; simp; omega, hr, ?_⟩
            rw [← hall, List.append_assoc, ← ed]
            rfl
      · have e' : i = ds.length := by omega
        subst e'
        rw [List.drop_length] at hlo
        cases hlo
        rw [List.append_nil] at hall
        subst hall
        have A3 := A2.unalien hDf
        refine .inl ⟨y.stop Hb2 H2 s2 A3.bs, ?_⟩
        have A4 := A1.back s2 A3 hok
        refine q1 H2 Hb2 s2 A4 _ ⟨D, rfl, A2.bs.dj D _ upd_same, hDf, ⟨av, A2.bs.fm D _ upd_same, ra⟩, fun i d ho hz => ?_⟩
        by_cases hiv : i ∈ vs
        · rcases ho with q | q
          · have e := backE_in hiv q
            rcases lcOk_at hok hiv with z | ⟨_, z⟩ <;> rw [z] at e <;> cases e
          · have e := backE_in hiv q
            rcases lcOk_at hok hiv with z | ⟨_, z⟩ <;> rw [z] at e <;> cases e
        · have ho' : Owns ef i d := by
            rcases ho with q | q
            · exact .inl (by rw [backE_out hiv] at q; exact q)
            · exact .inr (by rw [backE_out hiv] at q; exact q)
          obtain ⟨a, g1, g2, g3, g4⟩ := A2.own i d ho'
          rw [wipe_out hiv, hz] at g1
          cases g1
          exact (upd_none g3).1 rfl
  · exact q1.elim
section
variable {X : Cx} {EX : XK} {pos spos py : Pos} {elt tg iter : Expr} {ifs : List Expr} {scope : Scope} {own : List (Str × Nat)} {it : DA} {g : DG} {t : DT} {f : DE}
/-- a clause's tests, in the block -/
def SPt (X : Cx) (ifs : List Expr) (t : DT) : Prop := PTs X ifs (rdT (wd X) EN t)
theorem spt_nil : SPt X [] dYes := ⟨fun pins s σ H Q I ⟨Fm, Hb, ia, env, A, p⟩ => pts_nil.run pins s σ H Q I (p H Hb (Same.refl _) A)⟩
theorem spt_one {c : Expr} (h : ST X EN c t) : SPt X [c] t := pts_one h
theorem se_lc (hc : X.calm = true) (hN : X.N.Nodup) (hi : SI X EX tg iter it) (ok : BlkOk X.N X.env.scope scope own)
    (hg : ∀ (s : Shared) (H : Hp) (C : Addr) (cl : List (Str × Addr)) (fp : List Addr), SG (X.blk s H scope (compEnvC scope cl C X.env) fp) tg (own.map (fun p : Str × Nat => p.2)) g) (ht : ∀ (s : Shared) (H : Hp) (C : Addr) (cl : List (Str × Addr)) (fp : List Addr), SPt (X.blk s H scope (compEnvC scope cl C X.env) fp) ifs t)
    (he : ∀ (s : Shared) (H : Hp) (C : Addr) (cl : List (Str × Addr)) (fp : List Addr), SE (X.blk s H scope (compEnvC scope cl C X.env) fp) EN elt f) (hs : ∀ x, foldedSetIterable iter X.env x = pure x) :
    SE X EX (.ListComp elt [⟨tg, iter, ifs, 0⟩] scope pos) (dLc (own.map (fun p : Str × Nat => p.2)) it g t f) := by
  obtain ⟨wi, h1, h2⟩ := hi
  exact pe_mono (pe_lc (own := own) (g := rdG (wd X) (own.map (fun p : Str × Nat => p.2)) g) (tt := rdT (wd X) EN t) (te := rdE (wd X) EN f) hc hN h1 ok hg ht he hs) (rd_lc h2)
theorem ss_setLc {i : Nat} {y : Str} (hc : X.calm = true) (hN : X.N.Nodup) (hy : X.N[i]? = some y) (hyl : X.env.scope.names.lookup y = some .local)
    (hsw : swapsWith (.ListComp elt [⟨tg, iter, ifs, 0⟩] scope pos) (some (.Name y py)) spos.line X.env = pure true) (hi : SI X EX tg iter it) (ok : BlkOk X.N X.env.scope scope own)
    (hg : ∀ (s : Shared) (H : Hp) (C : Addr) (cl : List (Str × Addr)) (fp : List Addr), SG (X.blk s H scope (compEnvC scope cl C X.env) fp) tg (own.map (fun p : Str × Nat => p.2)) g) (ht : ∀ (s : Shared) (H : Hp) (C : Addr) (cl : List (Str × Addr)) (fp : List Addr), SPt (X.blk s H scope (compEnvC scope cl C X.env) fp) ifs t)
    (he : ∀ (s : Shared) (H : Hp) (C : Addr) (cl : List (Str × Addr)) (fp : List Addr), SE (X.blk s H scope (compEnvC scope cl C X.env) fp) EN elt f) (hs : ∀ x, foldedSetIterable iter X.env x = pure x) :
    SS X EX (.Assign [.Name y py] (.ListComp elt [⟨tg, iter, ifs, 0⟩] scope pos) spos) (sSet i (dLc (own.map (fun p : Str × Nat => p.2)) it g t f)) := by
  obtain ⟨wi, h1, h2⟩ := hi
  exact ps_mono (ps_setLc (own := own) (g := rdG (wd X) (own.map (fun p : Str × Nat => p.2)) g) (tt := rdT (wd X) EN t) (te := rdE (wd X) EN f) hc hN hy hyl hsw h1 ok hg ht he hs) fun D σ H h => rd_lc (W := wd X) h2 σ H _ (rd_set (W := wd X) D σ H h)
end
end G


set_option maxRecDepth 100000
set_option maxHeartbeats 4000000
/-! Kern12: a def's promise from its body; the law's head. -/
namespace G
open PySem PySem.Spec PyProof.Rows L2

def env0 (io : Bool) (n : Nat) (ds : List Dt) : Env' := match io, ds with
  | true, d :: r => .io d :: (r.map Slot.imm ++ List.replicate (n - (r.length + 1)) .un)
  | _, ds => ds.map Slot.imm ++ List.replicate (n - ds.length) .un
def outOf (io : Bool) (e : Env') : Option Dt := match io with
  | false => none
  | true => match (e[0]? : Option Slot) with
    | some (Slot.io d) => some d
    | _ => none
def runF (io : Bool) (n : Nat) (f : DS) (ds : List Dt) : FR := match f (env0 io n ds) with
  | .ok (.rt v, e) => .ok (v, outOf io e)
  | .ok (.nx, e) => .ok (.imm .non, outOf io e)
  | .err x => .err x
  | _ => .bad
section
variable {W : Wd} {Fm Hb H : Hp} {ia : Option Addr} {ds : List Dt} {vs : List V} {N : List Str}
theorem start_get {i : Nat} : (L2.start N vs)[i]? = if i < vs.length then (vs[i]?).map some else if i < vs.length + (N.length - vs.length) then some none else none := by
  unfold L2.start
  split
  · rename_i h
    rw [List.getElem?_append_left (by simpa using h), List.getElem?_map]
  · rename_i h
    rw [List.getElem?_append_right (by simpa using h), List.length_map, List.getElem?_replicate]
    by_cases h2 : i < vs.length + (N.length - vs.length)
    · rw [if_pos h2, if_pos (by omega)]
    · rw [if_neg h2, if_neg (by omega)]
theorem env0_imm {n i : Nat} {s : Slot} (h : (ds.map Slot.imm ++ List.replicate (n - ds.length) Slot.un)[i]? = some s) : s = .un ∨ ∃ d, s = .imm d ∧ ds[i]? = some d := by
  by_cases hi : i < ds.length
  · rw [List.getElem?_append_left (by simpa using hi), List.getElem?_map] at h
    obtain ⟨d, h1, rfl⟩ := Option.map_eq_some_iff.mp h
    exact .inr ⟨d, rfl, h1⟩
  · rw [List.getElem?_append_right (by simpa using hi), List.getElem?_replicate] at h
    split at h
    · exact .inl (Option.some.inj h).symm
    · cases h
theorem agr_start (b : Bse Fm Hb H) (hn : vs.length ≤ N.length) {io : Bool} (h : ArgF W Fm Hb H io ds vs ia) : Agr W Fm Hb ia (env0 io N.length ds) (L2.start N vs) H := by
  have hls : (L2.start N vs).length = N.length := by
    unfold L2.start
    rw [List.length_append, List.length_map, List.length_replicate]
    omega
  cases io with
  | false =>
    obtain ⟨rfl, r⟩ := h
    have hl := r.len
    have e0 : env0 false N.length ds = ds.map Slot.imm ++ List.replicate (N.length - ds.length) .un := by unfold env0; rfl
    rw [e0]
    have no : ∀ i d, ¬ Owns (ds.map Slot.imm ++ List.replicate (N.length - ds.length) Slot.un) i d := fun i d o => by
      rcases o with o | o
      · rcases env0_imm o with z | ⟨_, z, _⟩ <;> cases z
      · rcases env0_imm o with z | ⟨_, z, _⟩ <;> cases z
    exact {
      bs := b
      len := by rw [hls, List.length_append, List.length_map, List.length_replicate]; omega
      imm := fun i d e => by
        rcases env0_imm e with z | ⟨d', z, g⟩
        · cases z
        · cases z
          obtain ⟨v, g1, g2⟩ := r.get g
          have hi : i < vs.length := (List.getElem?_eq_some_iff.mp g1).1
          exact ⟨v, by rw [start_get, if_pos hi, g1]; rfl, g2⟩
      own := fun i d o => (no i d o).elim
      inj := fun i j d d' a o => (no i d o).elim
      io := fun i d e => (no i d (.inr e)).elim
      ioh := fun a e => by cases e }
  | true =>
    obtain ⟨a, d, dr, vr, rfl, rfl, rfl, h1, h2, h3, r⟩ := h
    have hl := r.len
    have e0 : env0 true N.length (d :: dr) = .io d :: (dr.map Slot.imm ++ List.replicate (N.length - (dr.length + 1)) .un) := by unfold env0; rfl
    rw [e0]
    have tl : ∀ i s, (Slot.io d :: (dr.map Slot.imm ++ List.replicate (N.length - (dr.length + 1)) Slot.un))[i]? = some s → (i = 0 ∧ s = .io d) ∨ (∃ j, i = j + 1 ∧ (s = .un ∨ ∃ d', s = .imm d' ∧ dr[j]? = some d')) := fun i s e => by
      cases i with
      | zero => exact .inl ⟨rfl, (Option.some.inj e).symm⟩
      | succ j =>
        refine .inr ⟨j, rfl, ?_⟩
        have e' : (dr.map Slot.imm ++ List.replicate ((N.length - 1) - dr.length) Slot.un)[j]? = some s := by
          rw [show N.length - 1 - dr.length = N.length - (dr.length + 1) by omega]
          simpa using e
        exact env0_imm e'
    have ow : ∀ i d', Owns (Slot.io d :: (dr.map Slot.imm ++ List.replicate (N.length - (dr.length + 1)) Slot.un)) i d' → i = 0 ∧ d' = d := fun i d' o => by
      rcases o with o | o
      · rcases tl i _ o with ⟨_, z⟩ | ⟨_, _, z | ⟨_, z, _⟩⟩ <;> cases z
      · rcases tl i _ o with ⟨z0, z⟩ | ⟨_, _, z | ⟨_, z, _⟩⟩
        · cases z; exact ⟨z0, rfl⟩
        · cases z
        · cases z
    have s0 : (L2.start N (.ref a :: vr))[0]? = some (some (.ref a)) := by rw [start_get, if_pos (by simp)]; rfl
    exact {
      bs := b
      len := by
        have := hn
        rw [List.length_cons] at this
        rw [hls, List.length_cons, List.length_append, List.length_map, List.length_replicate]; omega
      imm := fun i d' e => by
        rcases tl i _ e with ⟨_, z⟩ | ⟨j, rfl, z | ⟨d'', z, g⟩⟩
        · cases z
        · cases z
        · cases z
          obtain ⟨v, g1, g2⟩ := r.get g
          have hi : j < vr.length := (List.getElem?_eq_some_iff.mp g1).1
          exact ⟨v, by rw [start_get, if_pos (by rw [List.length_cons]; omega), List.getElem?_cons_succ, g1]; rfl, g2⟩
      own := fun i d' o => by
        obtain ⟨rfl, rfl⟩ := ow i d' o
        exact ⟨a, s0, h1, h2, h3⟩
      inj := fun i j d1 d2 b o1 o2 _ _ => by rw [(ow i d1 o1).1, (ow j d2 o2).1]
      io := fun i d' e => by
        obtain ⟨rfl, rfl⟩ := ow i d' (.inr e)
        exact ⟨rfl, a, rfl, s0⟩
      ioh := fun b e => ⟨d, rfl⟩ }
/-- the body's end is the call's end -/
theorem end_ok {E : XK} {Q : VK} {io : Bool} {f : DS} {n : Nat} (h : ArgF W Fm Hb H io ds vs ia) (p : PostF W E Fm Hb ia Q (runF io n f ds)) : PostS W E Fm Hb ia { nx := fun _ H' => Q .non H', rt := Q } (f (env0 io n ds)) := by
  have hio : (io = false ∧ ia = none) ∨ (io = true ∧ ∃ a, ia = some a) := by
    cases io with
    | false => exact .inl ⟨rfl, h.1⟩
    | true =>
      obtain ⟨a, _, _, _, _, _, e, _⟩ := h
      exact .inr ⟨rfl, a, e⟩
  have out : ∀ {σ' : L2.St} {H' Hb' : Hp} {e : Env'}, Agr W Fm Hb' ia e σ' H' → OutF W Hb' H' ia (outOf io e) := fun {σ' H' Hb' e} A => by
    rcases hio with ⟨rfl, rfl⟩ | ⟨rfl, a, rfl⟩
    · trivial
    · obtain ⟨d, q⟩ := A.ioh a rfl
      obtain ⟨_, a', e1, e2⟩ := A.io 0 d q
      cases e1
      obtain ⟨b, g1, g2, g3, g4⟩ := A.own 0 d (.inr q)
      rw [e2] at g1
      cases g1
      have eo : outOf true e = some d := by unfold outOf; dsimp only; rw [q]
      rw [eo]
      exact ⟨g2, g4⟩
  unfold runF at p
  cases q : f (env0 io n ds) with
  | err x => rw [q] at p; exact p
  | bad => rw [q] at p; exact p.elim
  | ok r =>
    obtain ⟨fl, e⟩ := r
    rw [q] at p
    cases fl with
    | nx => exact fun σ' H' Hb' s A => p .non H' Hb' s A.bs rfl (out A)
    | bk => exact p.elim
    | ct => exact p.elim
    | rt val =>
      refine fun σ' H' Hb' s A v hv => p v H' Hb' s A.bs ?_ (out A)
      cases val with
      | imm d => exact hv
      | fresh d =>
        obtain ⟨z, rfl, h1, h2, h3, h4⟩ := hv
        refine ⟨z, rfl, h1, h2, h3, fun ei => ?_⟩
        obtain ⟨d', q'⟩ := A.ioh z ei
        obtain ⟨_, a', e1, e2⟩ := A.io 0 d' q'
        rw [ei] at e1
        cases e1
        exact h4 0 d' (.inr q') e2
end

/-- a def by its body -/
theorem fn_body {P : Program} {w : World} {K : PySem.W.Frag} {mg : Str → Option Value} {base : Heap} {k : Nat} {f : Addr} {name qual : Str} {params : Arguments} {body : List Stmt} {scope : Scope} {dV kV doc pm cdv ct oc : Value} {an od : Option Addr} {osl : Array (Option Value)} {N ps : List Str} {io : Bool} {fb : DS}
    (lk : K.lookup f = some ⟨oc, od, .func (PySem.W.fnOf name qual params body scope dV kV doc pm an cdv ct), osl⟩) (hcd : PySem.W.codeIn K cdv qual = true) (S : FnScope N ps scope)
    (hbody : ∀ (A : Around) (outer : List Env) (s : Shared) (H : Hp) (E : XK), A.guards = some [] → Room k (A.deeper (envOfC qual scope s.heap.objs.size f cdv)) → SSs (cxOf (L2.CX P w) P w K mg base N qual scope f cdv A outer s H E) E body fb) :
    FnG P w K mg base (k + 1) f (PySem.W.fnOf name qual params body scope dV kV doc pm an cdv ct) ps (spF ⟨K, mg⟩ ps.length io (runF io N.length fb)) where
  len := fun vs H Q E ⟨_, _, _, _, _, hl, _⟩ => hl
  run := fun A outer s H args us vs Q E hg hr e0 hb r hsp => by
    obtain ⟨Fm, Hb, ds, ia, bs, hl, ha, hp⟩ := hsp
    have inK : K.In s.heap := e0.mod.kin.keeps fun b o e => (e0.bs b o e).1
    have nolim : s.heap.NoLimit := e0.mod.nolimit.keeps fun b o e => (e0.bs b o e).1
    refine codeAny_call_function hr.depth (inK _ _ lk) rfl S.co S.gen rfl (PySem.W.codeRec_of inK hcd) (hb _ _ _ _ ?_)
    refine wpAny_newFunctionEnv_cells S.kind (fun z hz => ?_) fun env he s1 x => ?_
    · obtain ⟨n, v⟩ := z
      rcases S.par n (List.of_mem_zip hz).1 with q | q
      · exact .inl q
      · exact .inr ⟨q, PySem.W.cellsFrom_some _ _ _ (.inl q)⟩
    · subst he
      refine ⟨nolim.keeps x.toInCall.keep, codeAny_func ?_⟩
      have hpl : ps.length ≤ N.length := by
        have := congrArg List.length S.pre
        rw [List.length_take] at this
        omega
      have ht := hbody A outer s H E hg (hr.deeper _)
      have J0 := inv_start (CX := L2.CX P w) (P := P) (w := w) (N := N) (outer := outer) (E := E) S hr.hd e0 hl r x
      refine wpAny_mono (ht.run [] s1 (L2.start N vs) H { nx := fun _ H' => Q .non H', rt := Q } J0 ⟨Fm, Hb, ia, env0 io N.length ds, agr_start bs (by omega) ha, end_ok ha hp⟩) (fun fl s' hs => ?_) fun e s' hs => hs
      cases fl with
      | ret u =>
        obtain ⟨v, σ', H', J, rv, q⟩ := hs
        exact ⟨v, H', J.os, J.bare, J.base, J.hok, rv, q⟩
      | next =>
        obtain ⟨σ', H', J, q⟩ := hs
        exact ⟨V.non, H', J.os, J.bare, J.base, J.hok, rfl, q⟩
      | brk =>
        obtain ⟨_, _, _, q⟩ := hs
        exact q.elim
      | cont =>
        obtain ⟨_, _, _, q⟩ := hs
        exact q.elim

/-! ### the law's head -/
/-- the law's def runs on the heap behind the top -/
theorem law_at {P : Program} {w : World} {K : PySem.W.Frag} {mg mb : Str → Option Value} {k : Nat} {fa a : Addr} {fd : FuncData} {x : Str} {sp : Sp} {sh : Shared} {us : List Value} {ns : List Int}
    (inK : K.In sh.heap) (hmain : sh.heap.Ns mainGlobals mg) (hbi : sh.heap.Ns builtinsNs mb) (hboot : ∀ y : Str, y ≠ "__name__" → mb y = bootBuiltins y) (nolim : sh.heap.NoLimit) (hgen : sh.gens = #[])
    (hscr : sh.heap.get? a = some { cls := .type "list", data := .seq us.toArray }) (hi : IntsAre us ns) (hlen : ns.length ≤ sizeLine) (room : Room k callerA)
    (nodig : sh.heap.NoDigits) (F : ∀ b : Heap, K.In b → b.Ns mainGlobals mg → b.NoDigits → FnG P w K mg b k fa fd [x] sp) (bnd : ∀ (t : Shared) (u : Value), BindsTo t fd ⟨[u], []⟩ [(x, u)])
    (hs : ∀ H : Hp, Only H → SqL K H a (ns.map V.int) → sp [.ref a] H (fun v _ => v = .bl true) fun _ _ _ => False) :
    codeAny (model P w) callerA (.call (.ref fa) ⟨[.ref a], []⟩) (fun r t => r = .ok (.ret (.bool true)) ∧ OldK sh.heap t.heap ∧ t.os = sh.os ∧ AllBare t.gens) sh := by
  have vals := vals_ints hi
  have hln := hi.length
  -- H tracks at most the script
  have go : ∀ H : Hp, Only H → SqL K H a (ns.map V.int) → HOk P w H sh.heap → (∀ b, H b ≠ none → b = a) → (H a ≠ none → K.lookup a = none) →
      codeAny (model P w) callerA (.call (.ref fa) ⟨[.ref a], []⟩) (fun r t => r = .ok (.ret (.bool true)) ∧ OldK sh.heap t.heap ∧ t.os = sh.os ∧ AllBare t.gens) sh := by
    intro H only scr hokH onlyA notK
    have notDict : ∀ {b : Addr} {o : Obj} {es : Array DictEntry} {ep : Nat}, sh.heap.get? b = some o → o.data = .dict es ep → H b = none := fun {b o es ep} e d => by
      cases q : H b with
      | none => rfl
      | some u =>
        obtain rfl : b = a := onlyA b (by rw [q]; simp)
        rw [hscr] at e
        cases e
        exact nomatch (show Data.seq us.toArray _ = Data.dict es ep from d)
    have ns' : ∀ {b : Addr} {m : Str → Option Value}, sh.heap.Ns b m → (hidT sh.heap H).Ns b m := fun {b m} ⟨o, es, ep, e, d, r⟩ => ⟨o, es, ep, hidT_get e (notDict e d), d, r⟩
    have inB : K.In (hidT sh.heap H) := fun b o e => hidT_get (inK b o e) (by
      cases q : H b with
      | none => rfl
      | some u =>
        obtain rfl : b = a := onlyA b (by rw [q]; simp)
        rw [notK (by rw [q]; simp)] at e
        cases e)
    obtain ⟨mc, l1, l2⟩ := nolim
    have env : Env0 P w K mg (hidT sh.heap H) callerA [] sh H := ⟨rfl, ⟨inB, ns' hmain, ⟨mb, ns' hbi, hboot⟩, mc, ns' l1, l2⟩, fun b o e => of_hidT e, Nat.le_of_eq (hidT_size _ _), trivial, fun b hb => (nomatch (show b ∈ ([] : List Addr) from hb)), hokH, .of_eq hgen⟩
    refine codeAny_mono ((F _ inB (ns' hmain) (let ⟨mk, d1, d2⟩ := nodig; ⟨mk, ns' d1, d2⟩)).run callerA [] sh H ⟨[.ref a], []⟩ [.ref a] [.ref a] _ _ rfl room env (bnd sh (.ref a)) (.cons rfl .nil) (hs H only scr)) fun r t h => ?_
    cases r with
    | error e =>
      obtain ⟨_, _, _, _, _, _, _, _, _, _, _, _, no⟩ := h
      exact no.elim
    | ok fl =>
      cases fl with
      | next => exact h.elim
      | brk => exact h.elim
      | cont => exact h.elim
      | ret u =>
        obtain ⟨v, H', os, bare, un, hok', rl, q⟩ := h
        obtain rfl : v = .bl true := q
        obtain rfl : u = Value.bool true := rl
        refine ⟨rfl, OldK.of_keep fun b o e => ?_, os, bare⟩
        rcases only b with z | ⟨ob, xs, z⟩
        · exact un.keep b o e z (fun y => nomatch (show b ∈ ([] : List Addr) from y)) (by simp)
        · obtain ⟨e1, _⟩ := hokH b _ z
          obtain ⟨e2, _⟩ := hok' b _ (un.frzs b ob _ z)
          rw [e] at e1
          cases e1
          exact e2
  cases hk : K.lookup a with
  | some o =>
    have e := inK a o hk
    rw [hscr] at e
    cases e
    exact go (fun _ => none) (fun _ => .inl rfl) (.inr ⟨_, us.toArray, _, hk, rfl, rfl, rfl, by rw [List.size_toArray, hln]; exact hlen, by simpa using vals⟩) (fun b u z => nomatch (show (none : Option HO) = some u from z)) (fun b z => absurd rfl z) fun z => absurd rfl z
  | none =>
    have at' : ∀ b u, (fun b => if b = a then some (HO.frz { cls := .type "list", data := .seq us.toArray } (.lst (ns.map V.int))) else none : Hp) b = some u → b = a ∧ u = HO.frz { cls := .type "list", data := .seq us.toArray } (.lst (ns.map V.int)) := fun b u z => by
      by_cases hb : b = a
      · exact ⟨hb, Option.some.inj (z.symm.trans (if_pos hb))⟩
      · exact nomatch z.symm.trans (if_neg hb)
    refine go (fun b => if b = a then some (.frz { cls := .type "list", data := .seq us.toArray } (.lst (ns.map V.int))) else none) (fun b => ?_) (.inl (.inr ⟨{ cls := .type "list", data := .seq us.toArray }, if_pos rfl⟩)) (fun b u z => ?_) (fun b z => ?_) fun _ => hk
    · by_cases hb : b = a
      · exact .inr ⟨_, _, if_pos hb⟩
      · exact .inl (if_neg hb)
    · obtain ⟨rfl, rfl⟩ := at' b u z
      exact ⟨hscr, by rw [List.length_map]; exact hlen, us, _, vals, hscr⟩
    · by_cases hb : b = a
      · exact hb
      · exact absurd (if_neg hb) z
/-- what is wanted of the law's data function -/
def LawTrue (F : List Dt → FR) (n : Nat) : Prop := ∀ ns : List Int, ns.length ≤ n → ∃ val, F [.scr ns] = .ok (val, none) ∧ val = .imm (.bl true)
theorem walk_G {l : PySem.W.OpenLaw} {n k : Nat} {q : Program} {loose : List Str} {XP : (Str → Option Value) → Heap → Prop} {YP : World → Heap → Prop} {d : DefRec} {K : Params → PySem.W.Frag} {F : List Dt → FR} {x : Str}
    (hn : l.most = some n) (hn2 : n ≤ sizeLine) (hdf : d.params.defaults = []) (room : Room k callerA) (hY : ∀ (w : World) (h : Heap), YP w h → (K w.params).In h)
    (Fo : ∀ (w : World) (mg : Str → Option Value) (fa : Addr) (h : Heap), (K w.params).In h → h.Ns mainGlobals mg → mg d.name = some (.ref fa) →
      ∃ fd : FuncData, (∀ (s : Shared) (u : Value), BindsTo s fd ⟨[u], []⟩ [(x, u)]) ∧ ∀ base : Heap, (K w.params).In base → base.Ns mainGlobals mg → base.NoDigits → FnG l.prog w (K w.params) mg base k fa fd [x] (spF ⟨K w.params, mg⟩ 1 false F))
    (hF : LawTrue F n) : PySem.W.WalkO q loose XP YP l.row.toRowW d [] (fun f vs => PySem.call f vs) := by
  refine Att.attach_call hn hdf fun w s₀ s₁ mg mb fa o pm cd doc a vs ns G Y ho hd hcd hmg hobj hints hlen hg => ?_
  have inK := hY w _ Y
  obtain ⟨fd, hb, hFo⟩ := Fo w mg fa _ inK G.T.g hmg
  refine law_at inK G.T.g G.T.b G.T.builtins G.T.nolimit hg hobj hints (Nat.le_trans hlen hn2) room G.T.nodigits hFo hb fun H only scr => ?_
  obtain ⟨val, hv, rfl⟩ := hF ns hlen
  refine ⟨fun _ => none, H, [.scr ns], none, ⟨Same.refl _, fun _ _ e => (nomatch e), fun _ _ e => (nomatch e)⟩, rfl, ⟨rfl, _, _, rfl, ⟨a, rfl, scr⟩, rfl⟩, ?_⟩
  rw [hv]
  exact fun v H' Hb' s b hv _ => hv
end G


set_option maxRecDepth 100000
set_option maxHeartbeats 4000000
/-! Kern13: repr of data, its ints of up to 3880 digits. -/
namespace G
open PySem PySem.Spec PyProof.Rows L2

/-! ### what may be shown, and how long it grows -/
mutual
def okP : PyData → Bool
  | .none => true
  | .bool _ => true
  | .int i => decide (i.natAbs < 2 ^ 12900)
  | .str _ => true
  | .list xs => okPs xs
  | .tuple xs => okPs xs
  | .dict _ => false
def okPs : List PyData → Bool
  | [] => true
  | x :: xs => okP x && okPs xs
end
mutual
def wtP : PyData → Nat
  | .none => 5
  | .bool _ => 5
  | .int _ => 12901
  | .str x => (reprText x).length
  | .list xs => 2 + wtPs xs
  | .tuple xs => 3 + wtPs xs
  | .dict _ => 0
def wtPs : List PyData → Nat
  | [] => 0
  | x :: xs => (wtP x + 2) + wtPs xs
end
theorem text_len : ∀ (ts : List Str) (k : Nat) (acc : Str), (textFrom k acc ts).length ≤ acc.length + (ts.map fun t => t.length + 2).sum
  | [], k, acc => Nat.le_refl _
  | t :: r, k, acc => by
    have h := text_len r (k + 1) (acc ++ (if k > 0 then ", " else "" : String) ++ t)
    have e : (acc ++ Str.ofString (if k > 0 then ", " else "" : String) ++ t).length ≤ acc.length + 2 + t.length := by
      rw [strLen_append, strLen_append]
      have : (Str.ofString (if k > 0 then ", " else "" : String)).length ≤ 2 := by split <;> decide
      omega
    show (textFrom (k + 1) (acc ++ (if k > 0 then ", " else "" : String) ++ t) r).length ≤ _
    rw [List.map_cons, List.sum_cons]
    omega
theorem piled_sum : ∀ ts : List Str, piled ts = (ts.map fun t => t.length + 2).sum
  | [] => rfl
  | t :: r => by
    rw [List.map_cons, List.sum_cons, ← piled_sum r]
    simp [piled]
mutual
theorem shown_le : ∀ d : PyData, okP d = true → d.shown.length ≤ wtP d
  | .none, _ => by simp only [PyData.shown, wtP]; decide
  | .bool b, _ => by cases b <;> (simp only [PyData.shown, wtP]; decide)
  | .int i, h => by
    have h' : i.natAbs < 2 ^ 12900 := of_decide_eq_true h
    have hl : i.natAbs.log2 < 12900 := by
      by_cases h0 : i.natAbs = 0
      · rw [h0]; decide
      · exact (Nat.log2_lt h0).mpr h'
    have e := int_text_length_le (k := 12900) (by decide) hl
    simp only [PyData.shown, wtP]
    rw [PySem.ofString_length]
    exact e
  | .str x, _ => by simp only [PyData.shown, wtP]; exact Nat.le_refl _
  | .list xs, h => by
    have e := showns_le xs h
    have t := text_len (PyData.shownAll xs) 0 "["
    simp only [PyData.shown, wtP]
    show (textFrom 0 "[" (PyData.shownAll xs) ++ Str.ofString "]").length ≤ _
    rw [strLen_append]
    have e1 : (Str.ofString "[").length = 1 := by decide
    have e2 : (Str.ofString "]").length = 1 := by decide
    omega
  | .tuple xs, h => by
    have e := showns_le xs h
    rw [← piled_sum] at e
    simp only [PyData.shown, wtP]
    unfold tupleText
    rw [strLen_append, strLen_append]
    have e1 : (Str.ofString "(").length = 1 := by decide
    have e2 : (Str.ofString (if (PyData.shownAll xs).length == 1 then ",)" else ")")).length ≤ 2 := by split <;> decide
    have e3 : (Str.join ", " (PyData.shownAll xs)).length ≤ piled (PyData.shownAll xs) := by
      by_cases hn : PyData.shownAll xs = []
      · rw [hn]; decide
      · have := join_length_add _ hn
        omega
    omega
  | .dict _, h => by cases h
theorem showns_le : ∀ ds : List PyData, okPs ds = true → ((PyData.shownAll ds).map fun t => t.length + 2).sum ≤ wtPs ds
  | [], _ => by simp [PyData.shownAll, wtPs]
  | x :: xs, h => by
    obtain ⟨h1, h2⟩ := (Bool.and_eq_true _ _).mp (show (okP x && okPs xs) = true from h)
    have e1 := shown_le x h1
    have e2 := showns_le xs h2
    simp only [PyData.shownAll, wtPs, List.map_cons, List.sum_cons]
    omega
end

/-! ### the interpreter's own code for it -/
section
variable {prog : Program} {w : World}
theorem lt_digits {i : Int} (h : i.natAbs < 2 ^ 12900) : i.natAbs < 10 ^ 4300 := Nat.lt_of_lt_of_le h pow_lo
theorem int_shown {A : Around} {E : Value → Shared → Prop} {s : Shared} {i : Int} {t : Tok} {Q : Value → Shared → Prop} (hn : s.heap.NoDigits) (hi : i.natAbs < 10 ^ 4300) (h : Q (.str (toString i) s.toks) { s with toks := s.toks + 1 }) :
    wpAny (model prog w) A (call (.builtin "int.__repr__") [.int i t]) Q E s := by
  refine wpAny_call (codeAny_call_builtin F.slot_int_repr.plain F.entry_int_repr (F.slot_int_repr.check _ _ _ _ _ _ _ _ (typeIs_int s i t) (F.args_int_repr_1 _) ?_))
  unfold Builtin.«int.__repr__»
  show wpAny _ _ (do let r ← Builtin.overDigitLimit? i; _) _ _ s
  refine wpAny_bind (overDigitLimit_any hn (fun hlt => ?_) fun hge => absurd hi (Nat.not_lt.mpr hge))
  exact wpAny_bind (wpAny_mkStr (wpAny_pure h) (int_text_fits10 hlt))
theorem obj_int_shown {A : Around} {E : Value → Shared → Prop} {s : Shared} {i : Int} {t : Tok} {Q : Value → Shared → Prop} (hn : s.heap.NoDigits) (hi : i.natAbs < 10 ^ 4300) (h : Q (.str (toString i) s.toks) { s with toks := s.toks + 1 }) :
    wpAny (model prog w) A (pyReprObj (.int i t)) Q E s := by
  have hv : [Value.int i t].any Value.onHeap = false := rfl
  unfold pyReprObj
  simp only [cRoomFor, hv, Bool.false_eq_true, if_false, pure_bind]
  refine wpAny_bind (wpAny_specialOf (name := Str.ofString "__repr__") (typeIs_int s i t) F.slot_int_repr.lookup ?_)
  refine wpAny_bind (m := callSpecialIfBound? (.int i t) (Str.ofString "__repr__")) (wpAny_callSpecialIfBound?_slot (name := Str.ofString "__repr__") (typeIs_int s i t) F.slot_int_repr (int_shown hn hi ?_))
  exact wpAny_bind (wpAny_isInstance (T := "str") (b := true) rfl isSubtype_str_str (wpAny_pure h))
theorem ks_int {h₀ : Heap} {as : List Addr} {d : Nat} {i : Int} {t : Tok} (hn : h₀.NoDigits) (hi : i.natAbs < 10 ^ 4300) : ReprK prog w as h₀ d (.int i t) (toString i) := fun b hb A g E s Q _ _ _ hk hQ => by
  rw [pyReprUnder_leaf (v := .int i t) (by omega) fun _ e => nomatch e]
  unfold pyRepr
  exact wpAny_bind (obj_int_shown (hn.keeps hk) hi (wpAny_pure (hQ s.heap _ fun _ _ e => e)))
variable {h₀ : Heap}
mutual
theorem ks_of (hn : h₀.NoDigits) : ∀ {v : Value} {d : PyData} {as : List Addr}, Reads h₀ v d as → okP d = true → d.shown.length ≤ sizeLine → ∃ bs, ReadAtMost h₀ d.depth bs ∧ ReprK prog w bs h₀ d.depth v d.shown
  | _, _, _, .none, _, _ => ⟨[], (fun _ h => nomatch h), .of_is (by rw [PyData.shown]; exact ReprIs.none) _ _ _⟩
  | _, _, _, .bool b, _, _ => ⟨[], (fun _ h => nomatch h), .of_is (by rw [PyData.shown]; exact ReprIs.bool b) _ _ _⟩
  | _, _, _, .int i t, h, _ => ⟨[], (fun _ h => nomatch h), by rw [PyData.shown]; exact ks_int hn (lt_digits (of_decide_eq_true h))⟩
  | _, _, _, .str x t, _, z => ⟨[], (fun _ h => nomatch h), .of_is (by rw [PyData.shown] at z ⊢; exact ReprIs.str x t z) _ _ _⟩
  | _, _, _, .list (a := a) (vs := us) (xs := xs) e1 e2 e3 e4, h, z => by
    rw [PyData.shown] at z
    have r : Reads h₀ (.ref a) (.list xs) _ := .list e1 e2 e3 e4
    obtain ⟨bs, rb, ks⟩ := kss_of hn e4 h fun t ht => Nat.le_trans (listText_mem_le ht) z
    have hd : (PyData.list xs).depth = PyData.depthAll xs + 1 := by rw [PyData.depth] <;> omega
    have na : a ∉ bs := not_mem_of_deeper r (by rw [hd]; exact Nat.lt_succ_self _) rb
    refine ⟨a :: bs, rb.cons r (by rw [hd]; exact Nat.le_succ _), ?_⟩
    rw [PyData.shown, hd]
    obtain ⟨l⟩ := us
    cases l with
    | nil =>
      have e4' : ReadsAll h₀ [] xs _ := e4
      cases e4'
      rw [PyData.shownAll, listText_nil]
      exact .listEmpty e1 e2 e3
    | cons y l => exact .list e1 e2 e3 na (by simpa using ks.length_eq) fun i y e => ks.item i y (by simpa using e)
  | _, _, _, .tuple (a := a) (xs := xs) e1 e2 e3 e4, h, z => by
    rw [PyData.shown] at z
    have r : Reads h₀ (.ref a) (.tuple xs) _ := .tuple e1 e2 e3 e4
    obtain ⟨bs, rb, ks⟩ := kss_of hn e4 h fun t ht => Nat.le_trans (tupleText_mem_le ht) z
    have hd : (PyData.tuple xs).depth = PyData.depthAll xs + 1 := by rw [PyData.depth] <;> omega
    have na : a ∉ bs := not_mem_of_deeper r (by rw [hd]; exact Nat.lt_succ_self _) rb
    refine ⟨a :: bs, rb.cons r (by rw [hd]; exact Nat.le_succ _), ?_⟩
    rw [PyData.shown, hd]
    exact .tuple e1 e2 e3 na ks
  | _, _, _, .dict _ _ _ _ _, h, _ => nomatch h
theorem kss_of (hn : h₀.NoDigits) : ∀ {vs : List Value} {ds : List PyData} {as : List Addr}, ReadsAll h₀ vs ds as → okPs ds = true → (∀ t ∈ PyData.shownAll ds, t.length ≤ sizeLine) → ∃ bs, ReadAtMost h₀ (PyData.depthAll ds) bs ∧ ReprAllK prog w bs h₀ (PyData.depthAll ds) vs (PyData.shownAll ds)
  | _, _, _, .nil, _, _ => ⟨[], (fun _ h => nomatch h), .nil⟩
  | _, _, _, .cons (d := d) (ds := ds) r rs, h, z => by
    obtain ⟨h1, h2⟩ := (Bool.and_eq_true _ _).mp (show (okP d && okPs ds) = true from h)
    have es : PyData.shownAll (d :: ds) = d.shown :: PyData.shownAll ds := by rw [PyData.shownAll]
    have ed : PyData.depthAll (d :: ds) = max d.depth (PyData.depthAll ds) := by rw [PyData.depthAll]
    rw [es] at z ⊢
    rw [ed]
    obtain ⟨b1, g1, k1⟩ := ks_of hn r h1 (z _ List.mem_cons_self)
    obtain ⟨b2, g2, k2⟩ := kss_of hn rs h2 fun t ht => z t (List.mem_cons_of_mem _ ht)
    exact ⟨b1 ++ b2, (g1.mono (Nat.le_max_left _ _)).append (g2.mono (Nat.le_max_right _ _)), .cons ((k1.more fun b hb => List.mem_append_left _ hb).level_le (Nat.le_max_left _ _)) (k2.more_le (fun b hb => List.mem_append_right _ hb) (Nat.le_max_right _ _))⟩
end
end

/-! ### the call -/
def reprOk (p : PyData) : Bool := okP p && decide (wtP p ≤ sizeLine) && decide (p.depth ≤ 100)
def rRepr (K : PySem.W.Frag) : List V → Hp → VK → Prop := fun vs H Q => ∃ x p, vs = [x] ∧ Dp K H x p ∧ reprOk p = true ∧ Q (.str p.shown) H
theorem cr_repr {X : Cx} (hg : X.A.guards = some []) (hu : X.A.units + 150 < cLine) (hn : X.base.NoDigits) : CallR X (.builtin "repr") (rRepr X.K) := by
  intro pins s σ H xs us Q I rv h
  obtain ⟨x, p, rfl, hd, hp, q⟩ := h
  obtain ⟨u, rfl, ru⟩ := vals1 rv
  obtain ⟨as, r⟩ := Dp.reads I p x u hd ru
  unfold reprOk at hp
  rw [Bool.and_eq_true, Bool.and_eq_true, decide_eq_true_eq, decide_eq_true_eq] at hp
  obtain ⟨⟨h1, h2⟩, h3⟩ := hp
  have hz : p.shown.length ≤ sizeLine := Nat.le_trans (shown_le p h1) h2
  have hns : s.heap.NoDigits := hn.keeps I.bk
  have fin : ∀ h' v tk, (∀ b o, s.heap.get? b = some o → h'.get? b = some o) → EP X pins σ Q (.str p.shown v) { s with heap := h', toks := tk } := fun h' v tk hk => ⟨.str p.shown, H, I.kept hk, ⟨v, rfl⟩, q⟩
  have fin2 : ∀ v tk, EP X pins σ Q (.str p.shown v) { s with toks := tk } := fun v tk => fin s.heap v tk fun _ _ e => e
  have hu1 : X.A.units + 1 < cLine := by omega
  cases r with
  | none => exact PySem.P.repr_of_none (by rw [PyData.shown] at fin2; exact fin2 _ _)
  | bool b => exact PySem.P.repr_of_bool (by rw [PyData.shown] at fin2; exact fin2 _ _)
  | str y t => exact PySem.P.repr_of_str (by rw [PyData.shown] at fin2; exact fin2 _ _) (by rw [PyData.shown] at hz; exact hz)
  | int i t => exact call_repr_slot hu1 (typeIs_int s i t) F.slot_int_repr.toG (int_shown hns (lt_digits (of_decide_eq_true h1)) ⟨_, _, rfl, by rw [PyData.shown] at fin2; exact fin2 _ _⟩)
  | @list a o vs n xs as e1 e2 e3 e4 =>
    have r : Reads s.heap (.ref a) (.list xs) _ := .list e1 e2 e3 e4
    have ed : (PyData.list xs).depth = PyData.depthAll xs + 1 := by rw [PyData.depth] <;> omega
    rw [PyData.shown] at hz
    obtain ⟨bs, rb, ks⟩ := kss_of (prog := X.prog) (w := X.w) hns e4 h1 fun t ht => Nat.le_trans (listText_mem_le ht) hz
    have na : a ∉ bs := not_mem_of_deeper r (by rw [ed]; exact Nat.lt_succ_self _) rb
    refine call_repr_slot hu1 ⟨o, e1, e2⟩ F.slot_list_repr.toG ?_
    rw [PyData.shown] at fin
    obtain ⟨l⟩ := vs
    cases l with
    | nil =>
      have e4' : ReadsAll s.heap [] xs _ := e4
      cases e4'
      rw [PyData.shownAll, listText_nil] at fin
      exact call_list_repr_empty ⟨o, e1, e2⟩ e1 e3 ⟨_, _, rfl, fin s.heap _ _ fun _ _ e => e⟩
    | cons y l =>
      exact call_list_reprK e1 e2 e3 na (by simpa using ks.length_eq) (fun i y e => ks.item i y (by simpa using e)) (A := X.A.in1) (g := []) hg (fun b _ => Clear.nil b) (by show X.A.units + 1 + _ < _; omega) (fun _ _ e => e) (fun h' v tk hk => ⟨_, _, rfl, fin h' v tk hk⟩) hz
  | @tuple a o vs n xs as e1 e2 e3 e4 =>
    have r : Reads s.heap (.ref a) (.tuple xs) _ := .tuple e1 e2 e3 e4
    have ed : (PyData.tuple xs).depth = PyData.depthAll xs + 1 := by rw [PyData.depth] <;> omega
    rw [PyData.shown] at hz
    obtain ⟨bs, rb, ks⟩ := kss_of (prog := X.prog) (w := X.w) hns e4 h1 fun t ht => Nat.le_trans (tupleText_mem_le ht) hz
    have na : a ∉ bs := not_mem_of_deeper r (by rw [ed]; exact Nat.lt_succ_self _) rb
    rw [PyData.shown] at fin
    exact call_repr_slot hu1 ⟨o, e1, e2⟩ F.slot_tuple_repr (call_tuple_reprK e1 e2 e3 na ks (A := X.A.in1) (g := []) hg (fun b _ => Clear.nil b) (by show X.A.units + 1 + _ < _; omega) (fun _ _ e => e) (fun h' v tk hk => ⟨_, _, rfl, fin h' v tk hk⟩) hz)
  | dict _ _ _ _ _ => cases h1
def bRepr : List Dt → Res Val
  | [d] => match dToP d with
    | some p => if reprOk p = true then .ok (.imm (.str p.shown)) else .bad
    | none => .bad
  | _ => .bad
theorem cas_repr {W : Wd} : CaS W (rRepr W.K) bRepr := by
  intro EX Fm Hb ia env σ H ds vs Q A r p
  unfold bRepr at p
  split at p
  · rename_i d
    split at p
    · rename_i q hq
      split at p
      · rename_i hok
        obtain ⟨v, rfl, h1⟩ := r.one
        exact ⟨v, q, rfl, (RdD.mono A.bs.hb _ _ h1).dp hq, hok, Post.imm p A rfl⟩
      · exact p.elim
    · exact p.elim
  · exact p.elim
end G


set_option maxRecDepth 100000
set_option maxHeartbeats 4000000
/-! Kern14: what a def of the text needs: its arguments' shape, its body; isinstance; names of the module. -/
namespace G
open PySem PySem.Spec PyProof.Rows L2

section
variable {X : Cx} {EX : XK} {pos p p1 p2 p3 tpos : Pos} {e a b c : Expr} {f fa fb fc : DE}
/-! ### small things -/
def opNeg : Dt → Res Val
  | .int i => vI (-i)
  | _ => .bad
def dUn (g : Dt → Res Val) (f : DE) : DE := fun env => (f env).bind fun p => (g p.1.d).map fun v => (v, p.2)
theorem se_neg (ha : SE X EX a f) : SE X EX (.UnaryOp .USub a pos) (dUn opNeg f) := pe_mono (pe_un un_neg ha) fun σ H Q ⟨Fm, Hb, ia, env, A, p⟩ =>
  ⟨Fm, Hb, ia, env, A, Post.bindV p fun va e1 x H1 Hb1 s1 A1 r1 q1 => by
    dsimp only at q1
    generalize va.d = d at q1 r1
    cases d <;> first
      | exact q1.elim
      | skip
    rename_i i
    exact ⟨i, r1, Post.imm q1 A1 rfl⟩⟩
theorem se_chain {op op' : CmpOp} {r r' : R2} {g g' : Dt → Dt → Res Val} (ho : OpR X (compareOp op) r) (ho' : OpR X (compareOp op') r') (hs : OpS (wd X) r g) (hs' : OpS (wd X) r' g') (ha : SE X EX a fa) (hb : SE X EX b fb) (hc : SE X EX c fc) (hm : lastMarks [op, op'] [b, c] = false) :
    SE X EX (.Compare a [op, op'] [b, c] pos) (dChain g g' fa fb fc) := pe_mono (pe_chain ho ho' ha hb hc hm) (rd_chain hs hs')
theorem st_chain {op op' : CmpOp} {r r' : R2} {g g' : Dt → Dt → Res Val} (ho : OpR X (compareOp op) r) (ho' : OpR X (compareOp op') r') (hs : OpS (wd X) r g) (hs' : OpS (wd X) r' g') (ha : SE X EX a fa) (hb : SE X EX b fb) (hc : SE X EX c fc) (hm : lastMarks [op, op'] [b, c] = false) :
    ST X EX (.Compare a [op, op'] [b, c] pos) (dTest (dChain g g' fa fb fc)) := pt_mono (pt_chain ho ho' ha hb hc hm) fun σ H Q h => by
  have q := rd_test (W := wd X) σ H Q h
  exact rd_chain hs hs' σ H _ q
theorem se_int {i : Int} {j} : SE X EX (.Constant (.int i) j pos) (dC (.int i)) := se_c pe_int rfl
theorem se_bl {i : Bool} {j} : SE X EX (.Constant (.bool i) j pos) (dC (.bl i)) := se_c pe_bl rfl
theorem se_non {j} : SE X EX (.Constant .none j pos) (dC .non) := se_c pe_non rfl
theorem se_str {x : Str} {j} : SE X EX (.Constant (.str x) j pos) (dC (.str x)) := se_c pe_str rfl
theorem se_glob {x : Str} {v : V} {u : Value} {d : Dt} (hg : Gl X x) (hm : X.mg x = some u) (r : RelV v u) (hd : flatD v = some d) (hb : (x == ("__debug__" : Str)) = false) : SE X EX (.Name x pos) (dC d) := se_c (pe_glob hg hm r hb) hd

/-! ### isinstance -/
def tyS : Dt → Option String
  | .non => some "NoneType"
  | .bl _ => some "bool"
  | .int _ => some "int"
  | .str _ => some "str"
  | .lst _ => some "list"
  | .scr _ => some "list"
  | .tup _ => some "tuple"
  | .dct _ _ => some "dict"
  | .obj _ _ _ => none
theorem tyS_rd {W : Wd} {H : Hp} {d : Dt} {v : V} {t : String} (r : RdD W H d v) (h : tyS d = some t) : TyX W.K H v (.type t) := by
  cases d with
  | non => cases h; cases (show v = .non from r); exact .base .non
  | bl b => cases h; cases (show v = .bl b from r); exact .base (.bl b)
  | int i => cases h; cases (show v = .int i from r); exact .base (.int i)
  | str x => cases h; cases (show v = .str x from r); exact .base (.str x)
  | lst ds =>
    cases h
    obtain ⟨a, vs, rfl, h1, _⟩ := r
    exact .base (.lst h1)
  | scr ns =>
    cases h
    obtain ⟨a, rfl, h1⟩ := r
    rcases h1 with (h1 | ⟨o, h1⟩) | ⟨o, us, n, h1, h2, _⟩
    · exact .base (.lst h1)
    · exact .base (.frz h1)
    · exact .kList h1 h2
  | tup ds =>
    cases h
    obtain ⟨a, vs, rfl, h1, _⟩ := r
    rcases h1 with (h1 | ⟨o, h1⟩) | ⟨o, us, n, h1, h2, _⟩
    · exact .base (.tup h1)
    · exact .fTuple h1
    · exact .kTuple h1 h2
  | dct ks ds =>
    cases h
    obtain ⟨a, rfl, h⟩ := r
    rcases h with ⟨kk, vs, h1, _⟩ | ⟨kk, vs, h1, _⟩
    · exact .base (.dK h1)
    · exact .base (.dT h1)
  | obj _ _ _ => cases h
def isiD (T : String) (d : Dt) : Res Val := match (tyS d).bind fun t => kitB t T with
  | some b => vB b
  | none => .bad
def isiD2 (T U : String) (d : Dt) : Res Val := match (tyS d).bind fun t => kitB t T, (tyS d).bind fun t => kitB t U with
  | some b, some c => vB (b || c)
  | _, _ => .bad
theorem isi_of {T : String} {d : Dt} {b : Bool} (h : ((tyS d).bind fun t => kitB t T) = some b) : ∃ t, tyS d = some t ∧ kitB t T = some b := Option.bind_eq_some_iff.mp h
theorem se_isi {x y : Str} {T : String} (hg : Gl X x) (hm : X.mg x = none) (hv : bootBuiltins x = some (.builtin "isinstance")) (hn : x ≠ "__name__") (hdb : (x == ("__debug__" : Str)) = false)
    (hg2 : Gl X y) (hm2 : X.mg y = none) (hv2 : bootBuiltins y = some (.type T)) (hn2 : y ≠ "__name__") (hdb2 : (y == ("__debug__" : Str)) = false) (ha : SE X EX a f) (hst : isStar a = false) :
    SE X EX (.Call (.Name x p) [a, .Name y p1] [] pos) (dUn (isiD T) f) := by
  have hA : PA X [a, .Name y p1] (tCons (rdE (wd X) EX f) (tCons (tC (.ty T)) tNil)) := pa_cons ha (pa_cons (pe_bltn hg2 hm2 hv2 rfl hn2 hdb2) pa_nil (star_no rfl)) (star_no hst)
  refine pe_mono (pe_callB call_isi hg hm hv hA hn hdb (star_no hst) (star_none rfl)) fun σ H Q ⟨Fm, Hb, ia, env, A, p⟩ => ?_
  refine ⟨Fm, Hb, ia, env, A, Post.bindV p fun va e1 v H1 Hb1 s1 A1 r1 q1 => ?_⟩
  dsimp only [isiD] at q1
  split at q1
  · rename_i b hb
    obtain ⟨t, h1, h2⟩ := isi_of hb
    exact ⟨v, .ty T, .type t, .type T, b, rfl, .ty T, tyS_rd (RdD.mono A1.bs.hb _ _ r1) h1, kit_ty h2, Post.imm q1 A1 rfl⟩
  · exact q1.elim
theorem se_isi2 {x y z : Str} {T U : String} {kk : Nat} (hg : Gl X x) (hm : X.mg x = none) (hv : bootBuiltins x = some (.builtin "isinstance")) (hn : x ≠ "__name__") (hdb : (x == ("__debug__" : Str)) = false)
    (hg2 : Gl X y) (hm2 : X.mg y = none) (hv2 : bootBuiltins y = some (.type T)) (hn2 : y ≠ "__name__") (hdb2 : (y == ("__debug__" : Str)) = false)
    (hg3 : Gl X z) (hm3 : X.mg z = none) (hv3 : bootBuiltins z = some (.type U)) (hn3 : z ≠ "__name__") (hdb3 : (z == ("__debug__" : Str)) = false) (ha : SE X EX a f) (hst : isStar a = false) :
    SE X EX (.Call (.Name x p) [a, .Tuple [.Name y p1, .Name z p2] kk tpos] [] pos) (dUn (isiD2 T U) f) := by
  have hA : PA X [a, .Tuple [.Name y p1, .Name z p2] kk tpos] (tCons (rdE (wd X) EX f) (tCons (tTup (tCons (tC (.ty T)) (tCons (tC (.ty U)) tNil))) tNil)) :=
    pa_cons ha (pa_cons (pe_tup (pa_cons (pe_bltn hg2 hm2 hv2 rfl hn2 hdb2) (pa_cons (pe_bltn hg3 hm3 hv3 rfl hn3 hdb3) pa_nil (star_no rfl)) (star_no rfl))) pa_nil (star_no rfl)) (star_no hst)
  refine pe_mono (pe_callB call_isiT hg hm hv hA hn hdb (star_no hst) (star_none rfl)) fun σ H Q ⟨Fm, Hb, ia, env, A, p⟩ => ?_
  refine ⟨Fm, Hb, ia, env, A, Post.bindV p fun va e1 v H1 Hb1 s1 A1 r1 q1 => ⟨by show 2 ≤ sizeLine; decide, fun t ht => ?_⟩⟩
  dsimp only [isiD2] at q1
  split at q1
  · rename_i b c hb hc
    obtain ⟨t1, h1, h2⟩ := isi_of hb
    obtain ⟨t2, h3, h4⟩ := isi_of hc
    rw [h1] at h3
    cases h3
    have hn := A1.bs.hb.free ht
    have A2 := A1.lay (o := .tup [.ty T, .ty U]) ht
    refine ⟨v, t, [.ty T, .ty U], .type t1, [.type T, .type U], b || c, rfl, upd_same, .cons (.ty T) (.cons (.ty U) .nil), tyS_rd (RdD.mono A2.bs.hb _ _ (RdD.mono (same_lay hn) _ _ r1)) h1, ?_, Post.imm (Post.mono (same_lay hn) q1) A2 rfl⟩
    refine kitAny_cons (kit_ty h2) (fun eb => kitAny_cons (kit_ty h4) (fun ec => ?_) fun ec => ?_) fun eb => ?_
    · rw [eb, ec]; exact kitAny_nil
    · rw [ec, Bool.or_true]
    · rw [eb, Bool.true_or]
  · exact q1.elim
end

/-! ### defs of the text -/
def Src.u (us ws : List Value) : Src → Value
  | .pos i => (us[i]?).getD .none
  | .kw j => (ws[j]?).getD .none
  | .cst _ => .none
def Src.plain : Src → Bool
  | .cst _ => false
  | _ => true
theorem src_rel {vs zs : List V} {us ws : List Value} (r1 : Vals vs us) (r2 : Vals zs ws) : ∀ {src : List Src}, src.all (Src.ok vs.length zs.length) = true → src.all Src.plain = true → Vals (src.map (Src.v vs zs)) (src.map (Src.u us ws))
  | [], _, _ => .nil
  | x :: src, h, k => by
    rw [List.all_cons, Bool.and_eq_true] at h k
    refine .cons ?_ (src_rel r1 r2 h.2 k.2)
    cases x with
    | pos i =>
      have hi : i < vs.length := of_decide_eq_true h.1
      have e1 := List.getElem?_eq_getElem hi
      obtain ⟨u, e2, r⟩ := r1.get e1
      show RelV ((vs[i]?).getD .non) ((us[i]?).getD .none)
      rw [e1, e2]
      exact r
    | kw i =>
      have hi : i < zs.length := of_decide_eq_true h.1
      have e1 := List.getElem?_eq_getElem hi
      obtain ⟨u, e2, r⟩ := r2.get e1
      show RelV ((zs[i]?).getD .non) ((ws[i]?).getD .none)
      rw [e1, e2]
      exact r
    | cst v => cases k.1
section
variable {P : Program} {w : World} {K : PySem.W.Frag} {mg : Str → Option Value} {base : Heap} {x qual : Str} {st : Stmt} {f : Addr} {fd : FuncData} {N ps : List Str} {k : Nat}
theorem shape_of (F : Fun K x qual st f fd) (sh : Shape) (hok : sh.src.all (Src.ok sh.np sh.ks.length) = true) (hpl : sh.src.all Src.plain = true)
    (h : ∀ (kV doc pm : Value) (an : Option Addr) (cdv ct : Value) (us ws : List Value), us.length = sh.np → ws.length = sh.ks.length →
      bindArgs (PySem.W.fnOf x qual (defArgs st) (defBody st) (defScope st) .none kV doc pm an cdv ct) ⟨us, sh.ks.zip ws⟩ = pure (ps.zip (sh.src.map (Src.u us ws)))) : ShapeOk K fd ps sh (fun us ws => sh.src.map (Src.u us ws)) := by
  obtain ⟨oc, od, kV, doc, pm, an, cdv, ct, osl, rfl, lk, hcd⟩ := F.ex
  exact ⟨fun s us ws _ h1 h2 => .of_eq (h kV doc pm an cdv ct us ws h1 h2), fun r1 r2 h1 h2 => src_rel r1 r2 (by rw [h1, h2]; exact hok) hpl⟩
theorem binds_of (F : Fun K x qual st f fd) (n : Nat) (h : ∀ (kV doc pm : Value) (an : Option Addr) (cdv ct : Value) (us : List Value), us.length = n →
      bindArgs (PySem.W.fnOf x qual (defArgs st) (defBody st) (defScope st) .none kV doc pm an cdv ct) ⟨us, []⟩ = pure (ps.zip us)) : ∀ (s : Shared) (us : List Value), K.In s.heap → us.length = n → BindsTo s fd ⟨us, []⟩ (ps.zip us) := by
  obtain ⟨oc, od, kV, doc, pm, an, cdv, ct, osl, rfl, lk, hcd⟩ := F.ex
  exact fun s us _ hl => .of_eq (h kV doc pm an cdv ct us hl)
/-- a body's context -/
abbrev CB (P : Program) (w : World) (K : PySem.W.Frag) (mg : Str → Option Value) (base : Heap) (N : List Str) (qual : Str) (sc : Scope) (f : Addr) (cdv : Value) (A : Around) (outer : List Env) (s : Shared) (H : Hp) (E : XK) : Cx := cxOf (L2.CX P w) P w K mg base N qual sc f cdv A outer s H E
theorem fn_text {io : Bool} {fb : DS} (F : Fun K x qual st f fd) (S : FnScope N ps (defScope st))
    (hb : ∀ (cdv : Value) (A : Around) (outer : List Env) (s : Shared) (H : Hp) (E : XK), (A.deeper (envOfC qual (defScope st) s.heap.objs.size f cdv)).guards = some [] → Room k (A.deeper (envOfC qual (defScope st) s.heap.objs.size f cdv)) → SSs (CB P w K mg base N qual (defScope st) f cdv A outer s H E) E (defBody st) fb) :
    FnG P w K mg base (k + 1) f fd ps (spF ⟨K, mg⟩ ps.length io (runF io N.length fb)) := by
  obtain ⟨oc, od, kV, doc, pm, an, cdv, ct, osl, rfl, lk, hcd⟩ := F.ex
  exact fn_body lk hcd S fun A outer s H E hg hr => hb cdv A outer s H E hg hr
theorem pass_body {qual : Str} {sc : Scope} {cdv : Value} {A : Around} {outer : List Env} {s : Shared} {H : Hp} {E : XK} : Passes (L2.CX P w) (CB P w K mg base N qual sc f cdv A outer s H E) E := passes_call (takes_of rfl rfl rfl rfl) fun _ _ _ _ h => h
theorem pass_blk {X : Cx} : Passes (L2.CX X.prog X.w) X EN := fun _ _ _ _ _ _ _ h => by
  obtain ⟨_, _, _, _, _, _, _, _, _, _, _, _, no⟩ := h
  exact no.elim
theorem own_body {qual : Str} {sc : Scope} {cdv : Value} {A : Around} {outer : List Env} {s : Shared} {H : Hp} {E : XK} : PassesOwn (model P w) (CB P w K mg base N qual sc f cdv A outer s H E).A (CB P w K mg base N qual sc f cdv A outer s H E).env (CB P w K mg base N qual sc f cdv A outer s H E).xe := PassesOwn.leaving
end
/-! ### equality, of texts too -/
def eqS (neg : Bool) : Dt → Dt → Res Val
  | .str x, .str y => vB (if neg then !decide (V.str x = V.str y) else decide (V.str x = V.str y))
  | d, e => eqD neg d e
def rEqS (K : PySem.W.Frag) : R2 := fun x y H Q => rEqD K x y H Q ∨ rEq x y H Q
def rNeS (K : PySem.W.Frag) : R2 := fun x y H Q => rNeD K x y H Q ∨ rNe x y H Q
theorem op_eqS {X : Cx} (hu : X.A.units + 64 < cLine) : OpR X (compareOp .Eq) (rEqS X.K) := (op_eqD hu).or op_eq
theorem op_neS {X : Cx} (hu : X.A.units + 64 < cLine) : OpR X (compareOp .NotEq) (rNeS X.K) := (op_neD hu).or op_ne
theorem eqS_split (neg : Bool) (d e : Dt) : (∃ x y, d = .str x ∧ e = .str y) ∨ eqS neg d e = eqD neg d e := by
  cases d <;> first
    | exact .inr rfl
    | skip
  cases e <;> first
    | exact .inr rfl
    | exact .inl ⟨_, _, rfl, rfl⟩
theorem ops_eqS {W : Wd} : OpS W (rEqS W.K) (eqS false) := by
  intro EX Fm Hb ia env σ H d1 d2 x y Q A r1 r2 p
  rcases eqS_split false d1 d2 with ⟨a, b, rfl, rfl⟩ | e
  · cases (show x = V.str a from r1)
    cases (show y = V.str b from r2)
    exact .inr ⟨rfl, Post.imm p A rfl⟩
  · rw [e] at p
    exact .inl (ops_eq EX Fm Hb ia env σ H d1 d2 x y Q A r1 r2 p)
theorem ops_neS {W : Wd} : OpS W (rNeS W.K) (eqS true) := by
  intro EX Fm Hb ia env σ H d1 d2 x y Q A r1 r2 p
  rcases eqS_split true d1 d2 with ⟨a, b, rfl, rfl⟩ | e
  · cases (show x = V.str a from r1)
    cases (show y = V.str b from r2)
    exact .inr ⟨rfl, Post.imm p A rfl⟩
  · rw [e] at p
    exact .inl (ops_ne EX Fm Hb ia env σ H d1 d2 x y Q A r1 r2 p)
def fuel : Nat := 2 ^ 20000
theorem un64 {k : Nat} {A : Around} (hr : Room k A) : A.units + 64 < cLine := by have := hr.un; omega
theorem un150 {k : Nat} {A : Around} (hr : Room k A) : A.units + 150 < cLine := by have := hr.un; omega
end G


set_option maxRecDepth 100000
set_option maxHeartbeats 4000000
set_option exponentiation.threshold 30000
namespace G
open PySem PySem.Spec PyProof.Rows L2
def topS (i : Nat) : Stmt := PySem.Challenge.pw_hindprice_k70_even_weights_and_factors.main.body.getD i (.Pass ⟨0, 0, 0, 0⟩)
abbrev s__law_pen : Stmt := topS 26
theorem sc__law_pen : FnScope ["_law_script", "_law_cell"] ["_law_script"] (defScope s__law_pen) := ⟨rfl, rfl, rfl, by decide +kernel, rfl, by decide +kernel, by decide +kernel⟩
def b__law_pen : DS := (sRet (dLst (aCons (dLc [1] (itSeq (dSl (dVar 0) oNone (oSome (dC (.int 62))))) (gSet 1) dYes (dCallB bInt (aCons (dVar 1) aNil))) (aCons (dC (.int 0)) (aCons (dC (.int 0)) aNil)))))
def F__law_pen : List Dt → FR := runF false 2 b__law_pen
abbrev s__law_words : Stmt := topS 35
theorem sc__law_words : FnScope ["_law_goods", "_law_days", "_law_found", "_law_turn", "_law_longer", "_law_word", "_law_good"] ["_law_goods", "_law_days"] (defScope s__law_words) := ⟨rfl, rfl, rfl, by decide +kernel, rfl, by decide +kernel, by decide +kernel⟩
def b__law_words : DS := (sSeq (sSet 2 (dLst (aCons (dTup aNil) aNil)))
    (sSeq (sFor (itRng1 (aCons (dVar 1) aNil)) (gSet 3) (sSeq (sSet 4 (dLst aNil))
    (sSeq (sFor (itSeq (dVar 2)) (gSet 5) (sExt 4 (dLc [6] (itRng1 (aCons (dVar 0) aNil)) (gSet 6) dYes (dBin opAdd (dVar 5) (dTup (aCons (dVar 6) aNil))))))
    (sSet 2 (dMove 4)))))
    (sRet (dMove 2))))
def F__law_words : List Dt → FR := runF false 7 b__law_words
abbrev s__law_low : Stmt := topS 29
theorem sc__law_low : FnScope ["_law_above", "_law_below", "_law_one", "_law_other"] ["_law_above", "_law_below"] (defScope s__law_low) := ⟨rfl, rfl, rfl, by decide +kernel, rfl, by decide +kernel, by decide +kernel⟩
def b__law_low : DS := (sSeq (sPar 2 3 (aCons (dCallB bAbs (aCons (dVar 0) aNil)) (aCons (dCallB bAbs (aCons (dVar 1) aNil)) aNil)))
    (sSeq (sWhile (dTest (dBin opGt (dVar 3) (dC (.int 0)))) (sPar 2 3 (aCons (dVar 3) (aCons (dBin opMod (dCallB bInt (aCons (dVar 2) aNil)) (dVar 3)) aNil))) fuel)
    (sSeq (sSet 2 (dIf (dTest (dBin opGt (dVar 1) (dC (.int 0)))) (dMove 2) (dUn opNeg (dVar 2))))
    (sRet (dTup (aCons (dBin opFDiv (dCallB bInt (aCons (dVar 0) aNil)) (dVar 2)) (aCons (dBin opFDiv (dCallB bInt (aCons (dVar 1) aNil)) (dVar 2)) aNil)))))))
def F__law_low : List Dt → FR := runF false 4 b__law_low
abbrev s__law_times : Stmt := topS 31
theorem sc__law_times : FnScope ["_law_one", "_law_other"] ["_law_one", "_law_other"] (defScope s__law_times) := ⟨rfl, rfl, rfl, by decide +kernel, rfl, by decide +kernel, by decide +kernel⟩
def b__law_times : DS := (sRet (dCall F__law_low ⟨2, [], [.pos 0, .pos 1]⟩ (aCons (dBin opMul (dIxS 0 (dC (.int 0))) (dIxS 1 (dC (.int 0)))) (aCons (dBin opMul (dIxS 0 (dC (.int 1))) (dIxS 1 (dC (.int 1)))) aNil)) aNil))
def F__law_times : List Dt → FR := runF false 2 b__law_times
abbrev s__law_even : Stmt := topS 36
theorem sc__law_even : FnScope ["_law_counts", "_law_found", "_law_many", "_law_count", "_law_turn"] ["_law_counts"] (defScope s__law_even) := ⟨rfl, rfl, rfl, by decide +kernel, rfl, by decide +kernel, by decide +kernel⟩
def b__law_even : DS := (sSeq (sPar 1 2 (aCons (dTup (aCons (dC (.int 1)) (aCons (dC (.int 1)) aNil))) (aCons (dCallB bLen (aCons (dVar 0) aNil)) aNil)))
    (sSeq (sFor (itSeq (dVar 0)) (gSet 3) (sFor (itRng1 (aCons (dVar 3) aNil)) (gSet 4) (sSeq (sSet 1 (dCall F__law_times ⟨2, [], [.pos 0, .pos 1]⟩ (aCons (dVar 1) (aCons (dTup (aCons (dBin opAdd (dVar 4) (dC (.int 1))) (aCons (dVar 2) aNil))) aNil)) aNil))
    (sSet 2 (dBin opAdd (dVar 2) (dC (.int 1)))))))
    (sRet (dMove 1))))
def F__law_even : List Dt → FR := runF false 5 b__law_even
abbrev s__law_draw : Stmt := topS 27
theorem sc__law_draw : FnScope ["_law_pen_here", "_law_many", "_law_rest", "_law_at", "_law_cell", "_law_mixed"] ["_law_pen_here", "_law_many"] (defScope s__law_draw) := ⟨rfl, rfl, rfl, by decide +kernel, rfl, by decide +kernel, by decide +kernel⟩
def b__law_draw : DS := (sSeq (sSet 2 (dCallB bInt (aCons (dIxS 0 (dC (.int 2))) aNil)))
    (sSeq (sIf (dTest (dBin opGt (dVar 2) (dC (.int 0)))) (sSeq (sPut 0 (dC (.int 2)) (dBin opFDiv (dVar 2) (dVar 1)))
    (sRet (dBin opMod (dVar 2) (dVar 1)))) sNext)
    (sSeq (sIf (dTest (dBin (eqS false) (dIxS 0 (dC (.int 0))) (dLst aNil))) (sRet (dC (.int 0))) sNext)
    (sSeq (sSet 3 (dIxS 0 (dC (.int 1))))
    (sSeq (sPut 0 (dC (.int 1)) (dBin opAdd (dVar 3) (dC (.int 1))))
    (sSeq (sSet 4 (dBin opIx (dIxS 0 (dC (.int 0))) (dBin opMod (dCallB bInt (aCons (dVar 3) aNil)) (dCallB bLen (aCons (dIxS 0 (dC (.int 0))) aNil)))))
    (sSeq (sIf (tAndD (dTest (dBin opLt (dVar 3) (dCallB bLen (aCons (dIxS 0 (dC (.int 0))) aNil)))) (dTest (dBin opGe (dCallB bAbs (aCons (dVar 4) aNil)) (dBin opPow (dC (.int 10)) (dC (.int 18)))))) (sSeq (sSet 2 (dBin opAdd (dBin opMul (dC (.int 2)) (dBin opSub (dCallB bAbs (aCons (dVar 4) aNil)) (dBin opPow (dC (.int 10)) (dC (.int 18))))) (dCallB bInt (aCons (dBin opLt (dVar 4) (dC (.int 0))) aNil))))
    (sSeq (sPut 0 (dC (.int 2)) (dBin opFDiv (dVar 2) (dVar 1)))
    (sRet (dBin opMod (dVar 2) (dVar 1))))) sNext)
    (sSeq (sSet 5 (dBin opMod (dCallB bInt (aCons (dBin opPow (dBin opAdd (dBin opAdd (dBin opMod (dCallB bInt (aCons (dVar 4) aNil)) (dC (.int 2147483563))) (dBin opMul (dC (.int 52081)) (dVar 3))) (dC (.int 7057))) (dC (.int 5))) aNil)) (dC (.int 2147483543))))
    (sSeq (sSet 5 (dBin opMod (dCallB bInt (aCons (dBin opPow (dBin opAdd (dBin opAdd (dBin opMul (dVar 5) (dBin opAdd (dBin opMul (dC (.int 2)) (dVar 3)) (dC (.int 6067)))) (dBin opMul (dBin opMul (dC (.int 52081)) (dVar 3)) (dVar 3))) (dC (.int 7057))) (dC (.int 3))) aNil)) (dC (.int 2147483579))))
    (sRet (dBin opMod (dCallB bInt (aCons (dBin opFDiv (dVar 5) (dC (.int 64))) aNil)) (dVar 1))))))))))))
def F__law_draw : List Dt → FR := runF true 6 b__law_draw
abbrev s__law_one_of : Stmt := topS 28
theorem sc__law_one_of : FnScope ["_law_pen_here", "_law_some"] ["_law_pen_here", "_law_some"] (defScope s__law_one_of) := ⟨rfl, rfl, rfl, by decide +kernel, rfl, by decide +kernel, by decide +kernel⟩
def b__law_one_of : DS := (sRet (dIxS 1 (dCallIo 0 2 F__law_draw (aCons (dCallB bLen (aCons (dVar 1) aNil)) aNil))))
def F__law_one_of : List Dt → FR := runF true 2 b__law_one_of
abbrev s_is_list : Stmt := topS 8
theorem sc_is_list : FnScope ["value"] ["value"] (defScope s_is_list) := ⟨rfl, rfl, rfl, by decide +kernel, rfl, by decide +kernel, by decide +kernel⟩
def b_is_list : DS := (sRet (dUn (isiD2 "list" "tuple") (dVar 0)))
def F_is_list : List Dt → FR := runF false 1 b_is_list
abbrev s_is_integer : Stmt := topS 6
theorem sc_is_integer : FnScope ["value"] ["value"] (defScope s_is_integer) := ⟨rfl, rfl, rfl, by decide +kernel, rfl, by decide +kernel, by decide +kernel⟩
def b_is_integer : DS := (sRet (dAnd (dUn (isiD "int") (dVar 0)) (dNot (dUn (isiD "bool") (dVar 0)))))
def F_is_integer : List Dt → FR := runF false 1 b_is_integer
abbrev s_is_within : Stmt := topS 7
theorem sc_is_within : FnScope ["value", "least", "most"] ["value", "least", "most"] (defScope s_is_within) := ⟨rfl, rfl, rfl, by decide +kernel, rfl, by decide +kernel, by decide +kernel⟩
def b_is_within : DS := (sSeq (sIf (tNotD (dTru (dCall F_is_integer ⟨1, [], [.pos 0]⟩ (aCons (dVar 0) aNil) aNil))) (sRet (dC (.bl false))) sNext)
    (sRet (dAnd (dOr (dBin opIs (dVar 1) (dC .non)) (dBin opLe (dVar 1) (dVar 0))) (dOr (dBin opIs (dVar 2) (dC .non)) (dBin opLe (dVar 0) (dVar 2))))))
def F_is_within : List Dt → FR := runF false 3 b_is_within
abbrev s_need_counts : Stmt := topS 13
theorem sc_need_counts : FnScope ["value", "part", "each"] ["value", "part"] (defScope s_need_counts) := ⟨rfl, rfl, rfl, by decide +kernel, rfl, by decide +kernel, by decide +kernel⟩
def b_need_counts : DS := (sSeq (sIf (tOrD (tNotD (dTru (dCall F_is_list ⟨1, [], [.pos 0]⟩ (aCons (dVar 0) aNil) aNil))) (tNotD (dTru (dCall F_is_within ⟨3, [], [.pos 0, .pos 1, .pos 2]⟩ (aCons (dCallB bLen (aCons (dVar 0) aNil)) (aCons (dC (.int 1)) (aCons (dC (.int 5)) aNil))) aNil)))) sBad sNext)
    (sSeq (sIf (tNotD (dTru (dCallB bAll (aCons (dLc [2] (itSeq (dVar 0)) (gSet 2) dYes (dCall F_is_within ⟨3, [], [.pos 0, .pos 1, .pos 2]⟩ (aCons (dVar 2) (aCons (dC (.int 0)) (aCons (dC .non) aNil))) aNil)) aNil)))) sBad sNext)
    (sRet (dCallB bTuple (aCons (dVar 0) aNil)))))
def F_need_counts : List Dt → FR := runF false 3 b_need_counts
abbrev s_factorial : Stmt := topS 20
theorem sc_factorial : FnScope ["number", "found", "each"] ["number"] (defScope s_factorial) := ⟨rfl, rfl, rfl, by decide +kernel, rfl, by decide +kernel, by decide +kernel⟩
def b_factorial : DS := (sSeq (sSet 1 (dC (.int 1)))
    (sSeq (sFor (itRng2 (aCons (dC (.int 2)) (aCons (dBin opAdd (dVar 0) (dC (.int 1))) aNil))) (gSet 2) (sSet 1 (dBin opMul (dVar 1) (dVar 2))))
    (sRet (dMove 1))))
def F_factorial : List Dt → FR := runF false 3 b_factorial
abbrev s_common : Stmt := topS 9
theorem sc_common : FnScope ["one", "other"] ["one", "other"] (defScope s_common) := ⟨rfl, rfl, rfl, by decide +kernel, rfl, by decide +kernel, by decide +kernel⟩
def b_common : DS := (sSeq (sPar 0 1 (aCons (dCallB bAbs (aCons (dVar 0) aNil)) (aCons (dCallB bAbs (aCons (dVar 1) aNil)) aNil)))
    (sSeq (sWhile (dTest (dBin opGt (dVar 1) (dC (.int 0)))) (sPar 0 1 (aCons (dVar 1) (aCons (dBin opMod (dVar 0) (dVar 1)) aNil))) fuel)
    (sRet (dMove 0))))
def F_common : List Dt → FR := runF false 2 b_common
abbrev s_lowest : Stmt := topS 15
theorem sc_lowest : FnScope ["above", "under", "part"] ["above", "under"] (defScope s_lowest) := ⟨rfl, rfl, rfl, by decide +kernel, rfl, by decide +kernel, by decide +kernel⟩
def b_lowest : DS := (sSeq (sSet 2 (dCall F_common ⟨2, [], [.pos 0, .pos 1]⟩ (aCons (dVar 0) (aCons (dVar 1) aNil)) aNil))
    (sSeq (sSet 2 (dIf (dTest (dBin opLt (dVar 1) (dC (.int 0)))) (dUn opNeg (dVar 2)) (dMove 2)))
    (sSeq (sPar 0 1 (aCons (dBin opFDiv (dVar 0) (dVar 2)) (aCons (dBin opFDiv (dVar 1) (dVar 2)) aNil)))
    (sRet (dIf (dTest (dBin (eqS false) (dVar 1) (dC (.int 1)))) (dMove 0) (dTup (aCons (dVar 0) (aCons (dVar 1) aNil))))))))
def F_lowest : List Dt → FR := runF false 3 b_lowest
abbrev s_weight_in : Stmt := topS 21
theorem sc_weight_in : FnScope ["counts", "above", "count"] ["counts"] (defScope s_weight_in) := ⟨rfl, rfl, rfl, by decide +kernel, rfl, by decide +kernel, by decide +kernel⟩
def b_weight_in : DS := (sSeq (sSet 1 (dCall F_factorial ⟨1, [], [.pos 0]⟩ (aCons (dBin opSub (dCallB bLen (aCons (dVar 0) aNil)) (dC (.int 1))) aNil) aNil))
    (sSeq (sFor (itSeq (dVar 0)) (gSet 2) (sSet 1 (dBin opMul (dVar 1) (dCall F_factorial ⟨1, [], [.pos 0]⟩ (aCons (dVar 2) aNil) aNil))))
    (sRet (dCall F_lowest ⟨2, [], [.pos 0, .pos 1]⟩ (aCons (dVar 1) (aCons (dCall F_factorial ⟨1, [], [.pos 0]⟩ (aCons (dBin opSub (dBin opAdd (dCallB bSum (aCons (dVar 0) aNil)) (dCallB bLen (aCons (dVar 0) aNil))) (dC (.int 1))) aNil) aNil) aNil)) aNil))))
def F_weight_in : List Dt → FR := runF false 3 b_weight_in
abbrev s_even_weight : Stmt := topS 23
theorem sc_even_weight : FnScope ["counts", "told"] ["counts"] (defScope s_even_weight) := ⟨rfl, rfl, rfl, by decide +kernel, rfl, by decide +kernel, by decide +kernel⟩
def b_even_weight : DS := (sSeq (sSet 1 (dCall F_need_counts ⟨2, [], [.pos 0, .pos 1]⟩ (aCons (dVar 0) (aCons (dC (.str "counts")) aNil)) aNil))
    (sSeq (sIf (dTest (dBin opGt (dCallB bMax (aCons (dVar 1) aNil)) (dC (.int 1000)))) sBad sNext)
    (sRet (dCall F_weight_in ⟨1, [], [.pos 0]⟩ (aCons (dVar 1) aNil) aNil))))
def F_even_weight : List Dt → FR := runF false 2 b_even_weight
abbrev s__law_plus : Stmt := topS 30
theorem sc__law_plus : FnScope ["_law_one", "_law_other"] ["_law_one", "_law_other"] (defScope s__law_plus) := ⟨rfl, rfl, rfl, by decide +kernel, rfl, by decide +kernel, by decide +kernel⟩
def b__law_plus : DS := (sRet (dCall F__law_low ⟨2, [], [.pos 0, .pos 1]⟩ (aCons (dBin opAdd (dBin opMul (dIxS 0 (dC (.int 0))) (dIxS 1 (dC (.int 1)))) (dBin opMul (dIxS 1 (dC (.int 0))) (dIxS 0 (dC (.int 1))))) (aCons (dBin opMul (dIxS 0 (dC (.int 1))) (dIxS 1 (dC (.int 1)))) aNil)) aNil))
def F__law_plus : List Dt → FR := runF false 2 b__law_plus
abbrev s__law_sum : Stmt := topS 33
theorem sc__law_sum : FnScope ["_law_some", "_law_found", "_law_each"] ["_law_some"] (defScope s__law_sum) := ⟨rfl, rfl, rfl, by decide +kernel, rfl, by decide +kernel, by decide +kernel⟩
def b__law_sum : DS := (sSeq (sSet 1 (dTup (aCons (dC (.int 0)) (aCons (dC (.int 1)) aNil))))
    (sSeq (sFor (itSeq (dVar 0)) (gSet 2) (sSet 1 (dCall F__law_plus ⟨2, [], [.pos 0, .pos 1]⟩ (aCons (dVar 1) (aCons (dVar 2) aNil)) aNil)))
    (sRet (dMove 1))))
def F__law_sum : List Dt → FR := runF false 3 b__law_sum
abbrev s_need_integer : Stmt := topS 10
theorem sc_need_integer : FnScope ["value", "part", "least", "most"] ["value", "part", "least", "most"] (defScope s_need_integer) := ⟨rfl, rfl, rfl, by decide +kernel, rfl, by decide +kernel, by decide +kernel⟩
def b_need_integer : DS := (sIf (tNotD (dTru (dCall F_is_within ⟨3, [], [.pos 0, .pos 1, .pos 2]⟩ (aCons (dVar 0) (aCons (dVar 2) (aCons (dVar 3) aNil))) aNil))) sBad sNext)
def F_need_integer : List Dt → FR := runF false 4 b_need_integer
abbrev s_need_goods : Stmt := topS 11
theorem sc_need_goods : FnScope ["value"] ["value"] (defScope s_need_goods) := ⟨rfl, rfl, rfl, by decide +kernel, rfl, by decide +kernel, by decide +kernel⟩
def b_need_goods : DS := (sExpr (dCall F_need_integer ⟨4, [], [.pos 0, .pos 1, .pos 2, .pos 3]⟩ (aCons (dVar 0) (aCons (dC (.str "goods")) (aCons (dC (.int 1)) (aCons (dC (.int 5)) aNil)))) aNil))
def F_need_goods : List Dt → FR := runF false 1 b_need_goods
abbrev s_need_days : Stmt := topS 12
theorem sc_need_days : FnScope ["value"] ["value"] (defScope s_need_days) := ⟨rfl, rfl, rfl, by decide +kernel, rfl, by decide +kernel, by decide +kernel⟩
def b_need_days : DS := (sExpr (dCall F_need_integer ⟨4, [], [.pos 0, .pos 1, .pos 2, .pos 3]⟩ (aCons (dVar 0) (aCons (dC (.str "days")) (aCons (dC (.int 0)) (aCons (dC (.int 1000)) aNil)))) aNil))
def F_need_days : List Dt → FR := runF false 1 b_need_days
abbrev s_choose_in : Stmt := topS 17
theorem sc_choose_in : FnScope ["many", "some", "found", "turn"] ["many", "some"] (defScope s_choose_in) := ⟨rfl, rfl, rfl, by decide +kernel, rfl, by decide +kernel, by decide +kernel⟩
def b_choose_in : DS := (sSeq (sSet 2 (dC (.int 1)))
    (sSeq (sFor (itRng1 (aCons (dVar 1) aNil)) (gSet 3) (sSet 2 (dBin opFDiv (dBin opMul (dVar 2) (dBin opSub (dVar 0) (dVar 3))) (dBin opAdd (dVar 3) (dC (.int 1))))))
    (sRet (dMove 2))))
def F_choose_in : List Dt → FR := runF false 4 b_choose_in
abbrev s_factor_in : Stmt := topS 22
theorem sc_factor_in : FnScope ["goods", "days"] ["goods", "days"] (defScope s_factor_in) := ⟨rfl, rfl, rfl, by decide +kernel, rfl, by decide +kernel, by decide +kernel⟩
def b_factor_in : DS := (sRet (dCall F_choose_in ⟨2, [], [.pos 0, .pos 1]⟩ (aCons (dBin opSub (dBin opAdd (dVar 1) (dVar 0)) (dC (.int 1))) (aCons (dBin opSub (dVar 0) (dC (.int 1))) aNil)) aNil))
def F_factor_in : List Dt → FR := runF false 2 b_factor_in
abbrev s_even_factor : Stmt := topS 24
theorem sc_even_factor : FnScope ["goods", "days"] ["goods", "days"] (defScope s_even_factor) := ⟨rfl, rfl, rfl, by decide +kernel, rfl, by decide +kernel, by decide +kernel⟩
def b_even_factor : DS := (sSeq (sExpr (dCall F_need_goods ⟨1, [], [.pos 0]⟩ (aCons (dVar 0) aNil) aNil))
    (sSeq (sExpr (dCall F_need_days ⟨1, [], [.pos 0]⟩ (aCons (dVar 1) aNil) aNil))
    (sRet (dCall F_factor_in ⟨2, [], [.pos 0, .pos 1]⟩ (aCons (dVar 0) (aCons (dVar 1) aNil)) aNil))))
def F_even_factor : List Dt → FR := runF false 2 b_even_factor
abbrev s__law_number : Stmt := topS 34
theorem sc__law_number : FnScope ["_law_one"] ["_law_one"] (defScope s__law_number) := ⟨rfl, rfl, rfl, by decide +kernel, rfl, by decide +kernel, by decide +kernel⟩
def b__law_number : DS := (sRet (dIf (dTest (dBin (eqS false) (dIxS 0 (dC (.int 1))) (dC (.int 1)))) (dIxS 0 (dC (.int 0))) (dMove 0)))
def F__law_number : List Dt → FR := runF false 1 b__law_number
abbrev s__law_triangle : Stmt := topS 37
theorem sc__law_triangle : FnScope ["_law_goods", "_law_days", "_law_rows", "_law_good", "_law_day"] ["_law_goods", "_law_days"] (defScope s__law_triangle) := ⟨rfl, rfl, rfl, by decide +kernel, rfl, by decide +kernel, by decide +kernel⟩
def b__law_triangle : DS := (sSeq (sSet 2 (dBin opMul (dLst (aCons (dC (.int 1)) aNil)) (dBin opAdd (dVar 1) (dC (.int 1)))))
    (sSeq (sFor (itRng1 (aCons (dBin opSub (dVar 0) (dC (.int 1))) aNil)) (gSet 3) (sFor (itRng2 (aCons (dC (.int 1)) (aCons (dBin opAdd (dVar 1) (dC (.int 1))) aNil))) (gSet 4) (sPut 2 (dVar 4) (dBin opAdd (dIxS 2 (dVar 4)) (dIxS 2 (dBin opSub (dVar 4) (dC (.int 1))))))))
    (sRet (dIxS 2 (dVar 1)))))
def F__law_triangle : List Dt → FR := runF false 5 b__law_triangle
abbrev s_law : Stmt := topS 38
theorem sc_law : FnScope ["_law_script", "_law_pen_here", "_law_turn", "_law_goods", "_law_counts", "_law_due", "_law_more", "_law_days", "_law_weights", "_law_word", "_law_told", "_law_good", "_law_its"] ["_law_script"] (defScope s_law) := ⟨rfl, rfl, rfl, by decide +kernel, rfl, by decide +kernel, by decide +kernel⟩
def b_law : DS := (sSeq (sSet 1 (dCall F__law_pen ⟨1, [], [.pos 0]⟩ (aCons (dVar 0) aNil) aNil))
    (sSeq (sFor (itRng1 (aCons (dC (.int 3)) aNil)) (gSet 2) (sSeq (sSet 3 (dBin opAdd (dC (.int 1)) (dCallIo 1 2 F__law_draw (aCons (dC (.int 5)) aNil))))
    (sSeq (sSet 4 (dLc [11] (itRng1 (aCons (dVar 3) aNil)) (gSet 11) dYes (dCallIo 1 2 F__law_one_of (aCons (dLst (aCons (dC (.int 0)) (aCons (dC (.int 1)) (aCons (dC (.int 2)) (aCons (dCallIo 1 2 F__law_draw (aCons (dC (.int 9)) aNil)) (aCons (dBin opMul (dCallIo 1 2 F__law_draw (aCons (dC (.int 9)) aNil)) (dCallIo 1 2 F__law_draw (aCons (dC (.int 30)) aNil))) aNil)))))) aNil))))
    (sSeq (sSet 5 (dCall F__law_even ⟨1, [], [.pos 0]⟩ (aCons (dVar 4) aNil) aNil))
    (sSeq (sIf (dTest (dBin (eqS true) (dCallB bRepr (aCons (dLst (aCons (dCall F_even_weight ⟨1, [], [.pos 0]⟩ (aCons (dVar 4) aNil) aNil) (aCons (dCall F_even_weight ⟨0, ["counts"], [.kw 0]⟩ aNil (aCons (dCallB bTuple (aCons (dVar 4) aNil)) aNil)) aNil))) aNil)) (dCallB bRepr (aCons (dBin opMul (dLst (aCons (dCall F__law_number ⟨1, [], [.pos 0]⟩ (aCons (dVar 5) aNil) aNil) aNil)) (dC (.int 2))) aNil)))) (sRet (dC (.bl false))) sNext)
    (sSeq (sSet 6 (dLc [11] (itRng1 (aCons (dVar 3) aNil)) (gSet 11) dYes (dCall F__law_even ⟨1, [], [.pos 0]⟩ (aCons (dBin opAdd (dBin opAdd (dSl (dVar 4) oNone (oSome (dVar 11))) (dLst (aCons (dBin opAdd (dIxS 4 (dVar 11)) (dC (.int 1))) aNil))) (dSl (dVar 4) (oSome (dBin opAdd (dVar 11) (dC (.int 1)))) oNone)) aNil) aNil)))
    (sSeq (sIf (tOrD (dTest (dBin (eqS true) (dCall F__law_sum ⟨1, [], [.pos 0]⟩ (aCons (dVar 6) aNil) aNil) (dVar 5))) (dTest (dBin (eqS true) (dCallB bRepr (aCons (dCall F_even_weight ⟨1, [], [.pos 0]⟩ (aCons (dBin opAdd (dSl (dVar 4) oNone (oSome (dUn opNeg (dC (.int 1))))) (dLst (aCons (dBin opAdd (dIxS 4 (dUn opNeg (dC (.int 1)))) (dC (.int 1))) aNil))) aNil) aNil) aNil)) (dCallB bRepr (aCons (dCall F__law_number ⟨1, [], [.pos 0]⟩ (aCons (dIxS 6 (dUn opNeg (dC (.int 1)))) aNil) aNil) aNil))))) (sRet (dC (.bl false))) sNext)
    (sSeq (sSet 7 (dCallIo 1 2 F__law_one_of (aCons (dLst (aCons (dC (.int 3)) (aCons (dC (.int 0)) (aCons (dC (.int 1)) (aCons (dC (.int 12)) (aCons (dCallIo 1 2 F__law_draw (aCons (dC (.int 60)) aNil)) (aCons (dIf (dTest (dBin opLt (dVar 3) (dC (.int 3)))) (dC (.int 1000)) (dC (.int 200))) aNil))))))) aNil)))
    (sIf (dTest (dBin (eqS true) (dCallB bRepr (aCons (dLst (aCons (dCall F_even_factor ⟨2, [], [.pos 0, .pos 1]⟩ (aCons (dVar 3) (aCons (dVar 7) aNil)) aNil) (aCons (dCall F_even_factor ⟨0, ["days", "goods"], [.kw 1, .kw 0]⟩ aNil (aCons (dVar 7) (aCons (dVar 3) aNil))) aNil))) aNil)) (dCallB bRepr (aCons (dBin opMul (dLst (aCons (dCall F__law_triangle ⟨2, [], [.pos 0, .pos 1]⟩ (aCons (dVar 3) (aCons (dVar 7) aNil)) aNil) aNil)) (dC (.int 2))) aNil)))) (sRet (dC (.bl false))) sNext)))))))))
    (sSeq (sPar 3 7 (aCons (dCallIo 1 2 F__law_one_of (aCons (dLst (aCons (dC (.int 2)) (aCons (dC (.int 3)) (aCons (dC (.int 1)) aNil)))) aNil)) (aCons (dCallIo 1 2 F__law_draw (aCons (dC (.int 5)) aNil)) aNil)))
    (sSeq (sSet 8 (dLst aNil))
    (sSeq (sFor (itSeq (dCall F__law_words ⟨2, [], [.pos 0, .pos 1]⟩ (aCons (dVar 3) (aCons (dVar 7) aNil)) aNil)) (gSet 9) (sSeq (sSet 10 (dCall F_even_weight ⟨1, [], [.pos 0]⟩ (aCons (dLc [11] (itRng1 (aCons (dVar 3) aNil)) (gSet 11) dYes (dCallB bLen (aCons (dLc [12] (itSeq (dVar 9)) (gSet 12) (dTest (dBin (eqS false) (dVar 12) (dVar 11))) (dC (.int 1))) aNil))) aNil) aNil))
    (sApp 8 (dIf (dTru (dUn (isiD "int") (dVar 10))) (dTup (aCons (dVar 10) (aCons (dC (.int 1)) aNil))) (dVar 10)))))
    (sRet (dAnd (dBin (eqS false) (dCall F__law_sum ⟨1, [], [.pos 0]⟩ (aCons (dVar 8) aNil) aNil) (dTup (aCons (dC (.int 1)) (aCons (dC (.int 1)) aNil)))) (dAnd (dBin (eqS false) (dCall F_even_weight ⟨1, [], [.pos 0]⟩ (aCons (dLst (aCons (dC (.int 1000)) aNil)) aNil) aNil) (dC (.int 1))) (dBin (eqS false) (dCall F_even_factor ⟨2, [], [.pos 0, .pos 1]⟩ (aCons (dC (.int 5)) (aCons (dC (.int 1000)) aNil)) aNil) (dBin opFDiv (dBin opMul (dBin opMul (dBin opMul (dC (.int 1004)) (dC (.int 1003))) (dC (.int 1002))) (dC (.int 1001))) (dC (.int 24))))))))))))
def F_law : List Dt → FR := runF false 13 b_law
structure Md (K : PySem.W.Frag) (mg : Str → Option Value) where
  a__law_pen : Addr
  d__law_pen : FuncData
  t__law_pen : Fun K "_law_pen" "_law_pen" s__law_pen a__law_pen d__law_pen
  g__law_pen : mg "_law_pen" = some (.ref a__law_pen)
  a__law_words : Addr
  d__law_words : FuncData
  t__law_words : Fun K "_law_words" "_law_words" s__law_words a__law_words d__law_words
  g__law_words : mg "_law_words" = some (.ref a__law_words)
  a__law_low : Addr
  d__law_low : FuncData
  t__law_low : Fun K "_law_low" "_law_low" s__law_low a__law_low d__law_low
  g__law_low : mg "_law_low" = some (.ref a__law_low)
  a__law_times : Addr
  d__law_times : FuncData
  t__law_times : Fun K "_law_times" "_law_times" s__law_times a__law_times d__law_times
  g__law_times : mg "_law_times" = some (.ref a__law_times)
  a__law_even : Addr
  d__law_even : FuncData
  t__law_even : Fun K "_law_even" "_law_even" s__law_even a__law_even d__law_even
  g__law_even : mg "_law_even" = some (.ref a__law_even)
  a__law_draw : Addr
  d__law_draw : FuncData
  t__law_draw : Fun K "_law_draw" "_law_draw" s__law_draw a__law_draw d__law_draw
  g__law_draw : mg "_law_draw" = some (.ref a__law_draw)
  a__law_one_of : Addr
  d__law_one_of : FuncData
  t__law_one_of : Fun K "_law_one_of" "_law_one_of" s__law_one_of a__law_one_of d__law_one_of
  g__law_one_of : mg "_law_one_of" = some (.ref a__law_one_of)
  a_is_list : Addr
  d_is_list : FuncData
  t_is_list : Fun K "is_list" "is_list" s_is_list a_is_list d_is_list
  g_is_list : mg "is_list" = some (.ref a_is_list)
  a_is_integer : Addr
  d_is_integer : FuncData
  t_is_integer : Fun K "is_integer" "is_integer" s_is_integer a_is_integer d_is_integer
  g_is_integer : mg "is_integer" = some (.ref a_is_integer)
  a_is_within : Addr
  d_is_within : FuncData
  t_is_within : Fun K "is_within" "is_within" s_is_within a_is_within d_is_within
  g_is_within : mg "is_within" = some (.ref a_is_within)
  a_need_counts : Addr
  d_need_counts : FuncData
  t_need_counts : Fun K "need_counts" "need_counts" s_need_counts a_need_counts d_need_counts
  g_need_counts : mg "need_counts" = some (.ref a_need_counts)
  a_factorial : Addr
  d_factorial : FuncData
  t_factorial : Fun K "factorial" "factorial" s_factorial a_factorial d_factorial
  g_factorial : mg "factorial" = some (.ref a_factorial)
  a_common : Addr
  d_common : FuncData
  t_common : Fun K "common" "common" s_common a_common d_common
  g_common : mg "common" = some (.ref a_common)
  a_lowest : Addr
  d_lowest : FuncData
  t_lowest : Fun K "lowest" "lowest" s_lowest a_lowest d_lowest
  g_lowest : mg "lowest" = some (.ref a_lowest)
  a_weight_in : Addr
  d_weight_in : FuncData
  t_weight_in : Fun K "weight_in" "weight_in" s_weight_in a_weight_in d_weight_in
  g_weight_in : mg "weight_in" = some (.ref a_weight_in)
  a_even_weight : Addr
  d_even_weight : FuncData
  t_even_weight : Fun K "even_weight" "even_weight" s_even_weight a_even_weight d_even_weight
  g_even_weight : mg "even_weight" = some (.ref a_even_weight)
  a__law_plus : Addr
  d__law_plus : FuncData
  t__law_plus : Fun K "_law_plus" "_law_plus" s__law_plus a__law_plus d__law_plus
  g__law_plus : mg "_law_plus" = some (.ref a__law_plus)
  a__law_sum : Addr
  d__law_sum : FuncData
  t__law_sum : Fun K "_law_sum" "_law_sum" s__law_sum a__law_sum d__law_sum
  g__law_sum : mg "_law_sum" = some (.ref a__law_sum)
  a_need_integer : Addr
  d_need_integer : FuncData
  t_need_integer : Fun K "need_integer" "need_integer" s_need_integer a_need_integer d_need_integer
  g_need_integer : mg "need_integer" = some (.ref a_need_integer)
  a_need_goods : Addr
  d_need_goods : FuncData
  t_need_goods : Fun K "need_goods" "need_goods" s_need_goods a_need_goods d_need_goods
  g_need_goods : mg "need_goods" = some (.ref a_need_goods)
  a_need_days : Addr
  d_need_days : FuncData
  t_need_days : Fun K "need_days" "need_days" s_need_days a_need_days d_need_days
  g_need_days : mg "need_days" = some (.ref a_need_days)
  a_choose_in : Addr
  d_choose_in : FuncData
  t_choose_in : Fun K "choose_in" "choose_in" s_choose_in a_choose_in d_choose_in
  g_choose_in : mg "choose_in" = some (.ref a_choose_in)
  a_factor_in : Addr
  d_factor_in : FuncData
  t_factor_in : Fun K "factor_in" "factor_in" s_factor_in a_factor_in d_factor_in
  g_factor_in : mg "factor_in" = some (.ref a_factor_in)
  a_even_factor : Addr
  d_even_factor : FuncData
  t_even_factor : Fun K "even_factor" "even_factor" s_even_factor a_even_factor d_even_factor
  g_even_factor : mg "even_factor" = some (.ref a_even_factor)
  a__law_number : Addr
  d__law_number : FuncData
  t__law_number : Fun K "_law_number" "_law_number" s__law_number a__law_number d__law_number
  g__law_number : mg "_law_number" = some (.ref a__law_number)
  a__law_triangle : Addr
  d__law_triangle : FuncData
  t__law_triangle : Fun K "_law_triangle" "_law_triangle" s__law_triangle a__law_triangle d__law_triangle
  g__law_triangle : mg "_law_triangle" = some (.ref a__law_triangle)
  a_law : Addr
  d_law : FuncData
  t_law : Fun K "law" "law" s_law a_law d_law
  g_law : mg "law" = some (.ref a_law)
  n_abs : mg "abs" = none
  n_all : mg "all" = none
  n_bool : mg "bool" = none
  n_int : mg "int" = none
  n_isinstance : mg "isinstance" = none
  n_len : mg "len" = none
  n_list : mg "list" = none
  n_max : mg "max" = none
  n_range : mg "range" = none
  n_repr : mg "repr" = none
  n_sum : mg "sum" = none
  n_tuple : mg "tuple" = none
  k_MOST_COUNT : Tok
  c_MOST_COUNT : mg "MOST_COUNT" = some (.int 1000 k_MOST_COUNT)
  k_MOST_DAYS : Tok
  c_MOST_DAYS : mg "MOST_DAYS" = some (.int 1000 k_MOST_DAYS)
  k_MOST_GOODS : Tok
  c_MOST_GOODS : mg "MOST_GOODS" = some (.int 5 k_MOST_GOODS)
section
variable {P : Program} {w : World} {K : PySem.W.Frag} {mg : Str → Option Value} {base : Heap}
theorem sh__law_low_0 (M : Md K mg) : ShapeOk K M.d__law_low ["_law_above", "_law_below"] ⟨2, [], [.pos 0, .pos 1]⟩ (fun us ws => [Src.pos 0, Src.pos 1].map (Src.u us ws)) := shape_of M.t__law_low ⟨2, [], [.pos 0, .pos 1]⟩ rfl rfl fun _ _ _ _ _ _ us ws h1 h2 => match us, ws, h1, h2 with | [_, _], [], _, _ => rfl
theorem sh__law_times_0 (M : Md K mg) : ShapeOk K M.d__law_times ["_law_one", "_law_other"] ⟨2, [], [.pos 0, .pos 1]⟩ (fun us ws => [Src.pos 0, Src.pos 1].map (Src.u us ws)) := shape_of M.t__law_times ⟨2, [], [.pos 0, .pos 1]⟩ rfl rfl fun _ _ _ _ _ _ us ws h1 h2 => match us, ws, h1, h2 with | [_, _], [], _, _ => rfl
theorem sh_is_integer_0 (M : Md K mg) : ShapeOk K M.d_is_integer ["value"] ⟨1, [], [.pos 0]⟩ (fun us ws => [Src.pos 0].map (Src.u us ws)) := shape_of M.t_is_integer ⟨1, [], [.pos 0]⟩ rfl rfl fun _ _ _ _ _ _ us ws h1 h2 => match us, ws, h1, h2 with | [_], [], _, _ => rfl
theorem sh_is_list_0 (M : Md K mg) : ShapeOk K M.d_is_list ["value"] ⟨1, [], [.pos 0]⟩ (fun us ws => [Src.pos 0].map (Src.u us ws)) := shape_of M.t_is_list ⟨1, [], [.pos 0]⟩ rfl rfl fun _ _ _ _ _ _ us ws h1 h2 => match us, ws, h1, h2 with | [_], [], _, _ => rfl
theorem sh_is_within_0 (M : Md K mg) : ShapeOk K M.d_is_within ["value", "least", "most"] ⟨3, [], [.pos 0, .pos 1, .pos 2]⟩ (fun us ws => [Src.pos 0, Src.pos 1, Src.pos 2].map (Src.u us ws)) := shape_of M.t_is_within ⟨3, [], [.pos 0, .pos 1, .pos 2]⟩ rfl rfl fun _ _ _ _ _ _ us ws h1 h2 => match us, ws, h1, h2 with | [_, _, _], [], _, _ => rfl
theorem sh_common_0 (M : Md K mg) : ShapeOk K M.d_common ["one", "other"] ⟨2, [], [.pos 0, .pos 1]⟩ (fun us ws => [Src.pos 0, Src.pos 1].map (Src.u us ws)) := shape_of M.t_common ⟨2, [], [.pos 0, .pos 1]⟩ rfl rfl fun _ _ _ _ _ _ us ws h1 h2 => match us, ws, h1, h2 with | [_, _], [], _, _ => rfl
theorem sh_factorial_0 (M : Md K mg) : ShapeOk K M.d_factorial ["number"] ⟨1, [], [.pos 0]⟩ (fun us ws => [Src.pos 0].map (Src.u us ws)) := shape_of M.t_factorial ⟨1, [], [.pos 0]⟩ rfl rfl fun _ _ _ _ _ _ us ws h1 h2 => match us, ws, h1, h2 with | [_], [], _, _ => rfl
theorem sh_lowest_0 (M : Md K mg) : ShapeOk K M.d_lowest ["above", "under"] ⟨2, [], [.pos 0, .pos 1]⟩ (fun us ws => [Src.pos 0, Src.pos 1].map (Src.u us ws)) := shape_of M.t_lowest ⟨2, [], [.pos 0, .pos 1]⟩ rfl rfl fun _ _ _ _ _ _ us ws h1 h2 => match us, ws, h1, h2 with | [_, _], [], _, _ => rfl
theorem sh_need_counts_0 (M : Md K mg) : ShapeOk K M.d_need_counts ["value", "part"] ⟨2, [], [.pos 0, .pos 1]⟩ (fun us ws => [Src.pos 0, Src.pos 1].map (Src.u us ws)) := shape_of M.t_need_counts ⟨2, [], [.pos 0, .pos 1]⟩ rfl rfl fun _ _ _ _ _ _ us ws h1 h2 => match us, ws, h1, h2 with | [_, _], [], _, _ => rfl
theorem sh_weight_in_0 (M : Md K mg) : ShapeOk K M.d_weight_in ["counts"] ⟨1, [], [.pos 0]⟩ (fun us ws => [Src.pos 0].map (Src.u us ws)) := shape_of M.t_weight_in ⟨1, [], [.pos 0]⟩ rfl rfl fun _ _ _ _ _ _ us ws h1 h2 => match us, ws, h1, h2 with | [_], [], _, _ => rfl
theorem sh__law_plus_0 (M : Md K mg) : ShapeOk K M.d__law_plus ["_law_one", "_law_other"] ⟨2, [], [.pos 0, .pos 1]⟩ (fun us ws => [Src.pos 0, Src.pos 1].map (Src.u us ws)) := shape_of M.t__law_plus ⟨2, [], [.pos 0, .pos 1]⟩ rfl rfl fun _ _ _ _ _ _ us ws h1 h2 => match us, ws, h1, h2 with | [_, _], [], _, _ => rfl
theorem sh_need_integer_0 (M : Md K mg) : ShapeOk K M.d_need_integer ["value", "part", "least", "most"] ⟨4, [], [.pos 0, .pos 1, .pos 2, .pos 3]⟩ (fun us ws => [Src.pos 0, Src.pos 1, Src.pos 2, Src.pos 3].map (Src.u us ws)) := shape_of M.t_need_integer ⟨4, [], [.pos 0, .pos 1, .pos 2, .pos 3]⟩ rfl rfl fun _ _ _ _ _ _ us ws h1 h2 => match us, ws, h1, h2 with | [_, _, _, _], [], _, _ => rfl
theorem sh_choose_in_0 (M : Md K mg) : ShapeOk K M.d_choose_in ["many", "some"] ⟨2, [], [.pos 0, .pos 1]⟩ (fun us ws => [Src.pos 0, Src.pos 1].map (Src.u us ws)) := shape_of M.t_choose_in ⟨2, [], [.pos 0, .pos 1]⟩ rfl rfl fun _ _ _ _ _ _ us ws h1 h2 => match us, ws, h1, h2 with | [_, _], [], _, _ => rfl
theorem sh_need_goods_0 (M : Md K mg) : ShapeOk K M.d_need_goods ["value"] ⟨1, [], [.pos 0]⟩ (fun us ws => [Src.pos 0].map (Src.u us ws)) := shape_of M.t_need_goods ⟨1, [], [.pos 0]⟩ rfl rfl fun _ _ _ _ _ _ us ws h1 h2 => match us, ws, h1, h2 with | [_], [], _, _ => rfl
theorem sh_need_days_0 (M : Md K mg) : ShapeOk K M.d_need_days ["value"] ⟨1, [], [.pos 0]⟩ (fun us ws => [Src.pos 0].map (Src.u us ws)) := shape_of M.t_need_days ⟨1, [], [.pos 0]⟩ rfl rfl fun _ _ _ _ _ _ us ws h1 h2 => match us, ws, h1, h2 with | [_], [], _, _ => rfl
theorem sh_factor_in_0 (M : Md K mg) : ShapeOk K M.d_factor_in ["goods", "days"] ⟨2, [], [.pos 0, .pos 1]⟩ (fun us ws => [Src.pos 0, Src.pos 1].map (Src.u us ws)) := shape_of M.t_factor_in ⟨2, [], [.pos 0, .pos 1]⟩ rfl rfl fun _ _ _ _ _ _ us ws h1 h2 => match us, ws, h1, h2 with | [_, _], [], _, _ => rfl
theorem sh__law_pen_0 (M : Md K mg) : ShapeOk K M.d__law_pen ["_law_script"] ⟨1, [], [.pos 0]⟩ (fun us ws => [Src.pos 0].map (Src.u us ws)) := shape_of M.t__law_pen ⟨1, [], [.pos 0]⟩ rfl rfl fun _ _ _ _ _ _ us ws h1 h2 => match us, ws, h1, h2 with | [_], [], _, _ => rfl
theorem sh__law_even_0 (M : Md K mg) : ShapeOk K M.d__law_even ["_law_counts"] ⟨1, [], [.pos 0]⟩ (fun us ws => [Src.pos 0].map (Src.u us ws)) := shape_of M.t__law_even ⟨1, [], [.pos 0]⟩ rfl rfl fun _ _ _ _ _ _ us ws h1 h2 => match us, ws, h1, h2 with | [_], [], _, _ => rfl
theorem sh_even_weight_0 (M : Md K mg) : ShapeOk K M.d_even_weight ["counts"] ⟨0, ["counts"], [.kw 0]⟩ (fun us ws => [Src.kw 0].map (Src.u us ws)) := shape_of M.t_even_weight ⟨0, ["counts"], [.kw 0]⟩ rfl rfl fun _ _ _ _ _ _ us ws h1 h2 => match us, ws, h1, h2 with | [], [_], _, _ => rfl
theorem sh_even_weight_1 (M : Md K mg) : ShapeOk K M.d_even_weight ["counts"] ⟨1, [], [.pos 0]⟩ (fun us ws => [Src.pos 0].map (Src.u us ws)) := shape_of M.t_even_weight ⟨1, [], [.pos 0]⟩ rfl rfl fun _ _ _ _ _ _ us ws h1 h2 => match us, ws, h1, h2 with | [_], [], _, _ => rfl
theorem sh__law_number_0 (M : Md K mg) : ShapeOk K M.d__law_number ["_law_one"] ⟨1, [], [.pos 0]⟩ (fun us ws => [Src.pos 0].map (Src.u us ws)) := shape_of M.t__law_number ⟨1, [], [.pos 0]⟩ rfl rfl fun _ _ _ _ _ _ us ws h1 h2 => match us, ws, h1, h2 with | [_], [], _, _ => rfl
theorem sh__law_sum_0 (M : Md K mg) : ShapeOk K M.d__law_sum ["_law_some"] ⟨1, [], [.pos 0]⟩ (fun us ws => [Src.pos 0].map (Src.u us ws)) := shape_of M.t__law_sum ⟨1, [], [.pos 0]⟩ rfl rfl fun _ _ _ _ _ _ us ws h1 h2 => match us, ws, h1, h2 with | [_], [], _, _ => rfl
theorem sh_even_factor_0 (M : Md K mg) : ShapeOk K M.d_even_factor ["goods", "days"] ⟨0, ["days", "goods"], [.kw 1, .kw 0]⟩ (fun us ws => [Src.kw 1, Src.kw 0].map (Src.u us ws)) := shape_of M.t_even_factor ⟨0, ["days", "goods"], [.kw 1, .kw 0]⟩ rfl rfl fun _ _ _ _ _ _ us ws h1 h2 => match us, ws, h1, h2 with | [], [_, _], _, _ => rfl
theorem sh_even_factor_1 (M : Md K mg) : ShapeOk K M.d_even_factor ["goods", "days"] ⟨2, [], [.pos 0, .pos 1]⟩ (fun us ws => [Src.pos 0, Src.pos 1].map (Src.u us ws)) := shape_of M.t_even_factor ⟨2, [], [.pos 0, .pos 1]⟩ rfl rfl fun _ _ _ _ _ _ us ws h1 h2 => match us, ws, h1, h2 with | [_, _], [], _, _ => rfl
theorem sh__law_triangle_0 (M : Md K mg) : ShapeOk K M.d__law_triangle ["_law_goods", "_law_days"] ⟨2, [], [.pos 0, .pos 1]⟩ (fun us ws => [Src.pos 0, Src.pos 1].map (Src.u us ws)) := shape_of M.t__law_triangle ⟨2, [], [.pos 0, .pos 1]⟩ rfl rfl fun _ _ _ _ _ _ us ws h1 h2 => match us, ws, h1, h2 with | [_, _], [], _, _ => rfl
theorem sh__law_words_0 (M : Md K mg) : ShapeOk K M.d__law_words ["_law_goods", "_law_days"] ⟨2, [], [.pos 0, .pos 1]⟩ (fun us ws => [Src.pos 0, Src.pos 1].map (Src.u us ws)) := shape_of M.t__law_words ⟨2, [], [.pos 0, .pos 1]⟩ rfl rfl fun _ _ _ _ _ _ us ws h1 h2 => match us, ws, h1, h2 with | [_, _], [], _, _ => rfl
theorem ok__law_pen (M : Md K mg) (hD : base.NoDigits) : FnG P w K mg base 1 M.a__law_pen M.d__law_pen ["_law_script"] (spF ⟨K, mg⟩ 1 false F__law_pen) := fn_text M.t__law_pen sc__law_pen fun cdv A outer s H E hg hr =>
    (sss_one (ss_ret (se_lst (sa_cons (se_lc (own := [("_law_cell", 1)]) rfl sc__law_pen.nd (si_seq (se_sl (se_var (pv 0)) so_none (so_some se_int))) (blkOk_by (by rfl)) (fun _ _ _ _ _ => (sg_name (ts := (List.map (fun p : Str × Nat => p.2) [("_law_cell", 1)])) (pg_name (i := 1) sc__law_pen.nd (by rfl) (by first | exact .inl rfl | exact .inr rfl)) (by decide))) (fun _ _ _ _ _ => spt_nil) (fun _ _ _ _ _ => (se_callTy call_int1 cas_int (by rfl) M.n_int (by first | exact PySem.boot_int | decide +kernel | rfl) (sa_cons (se_var (pv 1)) sa_nil (star_no rfl)) (by decide) (by decide) rfl)) (fun _ => rfl)) (sa_cons se_int (sa_cons se_int sa_nil (star_no rfl)) (star_no rfl)) (star_no rfl)))))
theorem ok__law_words (M : Md K mg) (hD : base.NoDigits) : FnG P w K mg base 1 M.a__law_words M.d__law_words ["_law_goods", "_law_days"] (spF ⟨K, mg⟩ 2 false F__law_words) := fn_text M.t__law_words sc__law_words fun cdv A outer s H E hg hr =>
    (sss_cons (ss_set (ps_set (i := 2) sc__law_words.nd (by rfl) (by first | exact .inl rfl | exact .inr rfl) (se_lst (sa_cons (se_tup sa_nil) sa_nil (star_no rfl)))))
    (sss_cons (ss_for own_body rfl (si_rng1 (by rfl) M.n_range (sa_cons (se_var (pv 1)) sa_nil (star_no rfl)) rfl) (sg_name (ts := [3]) (pg_name (i := 3) sc__law_words.nd (by rfl) (by first | exact .inl rfl | exact .inr rfl)) (by decide)) (sss_cons (ss_set (ps_set (i := 4) sc__law_words.nd (by rfl) (by first | exact .inl rfl | exact .inr rfl) (se_lst sa_nil)))
    (sss_cons (ss_for own_body rfl (si_seq (se_var (pv 2))) (sg_name (ts := [5]) (pg_name (i := 5) sc__law_words.nd (by rfl) (by first | exact .inl rfl | exact .inr rfl)) (by decide)) (sss_one (ss_ext (ps_expr (pe_bm PySem.F.plainAttrs_list PySem.F.slot_list_extend PySem.F.type_list_extend mt_extend (pv 4) (pa_cons (se_lc (own := [("_law_good", 6)]) rfl sc__law_words.nd (si_rng1 (by rfl) M.n_range (sa_cons (se_var (pv 0)) sa_nil (star_no rfl)) rfl) (blkOk_by (by rfl)) (fun _ _ _ _ _ => (sg_name (ts := (List.map (fun p : Str × Nat => p.2) [("_law_good", 6)])) (pg_name (i := 6) sc__law_words.nd (by rfl) (by first | exact .inl rfl | exact .inr rfl)) (by decide))) (fun _ _ _ _ _ => spt_nil) (fun _ _ _ _ _ => (se_bin op_addAll ops_add (se_var (pv 5)) (se_tup (sa_cons (se_var (pv 6)) sa_nil (star_no rfl))))) (fun _ => rfl)) pa_nil (star_no rfl)))))) (fun _ => rfl))
    (sss_one (ss_set (ps_set (i := 2) sc__law_words.nd (by rfl) (by first | exact .inl rfl | exact .inr rfl) (se_move (pv 4))))))) (fun _ => rfl))
    (sss_one (ss_ret (se_move (pv 2))))))
theorem ok__law_low (M : Md K mg) (hD : base.NoDigits) : FnG P w K mg base 1 M.a__law_low M.d__law_low ["_law_above", "_law_below"] (spF ⟨K, mg⟩ 2 false F__law_low) := fn_text M.t__law_low sc__law_low fun cdv A outer s H E hg hr =>
    (sss_cons (ss_par (by decide) (ps_par rfl sc__law_low.nd (by rfl) (by rfl) (by decide) (by rfl) (by rfl) (sa_cons (se_callB call_abs cas_abs (by rfl) M.n_abs (by first | exact PySem.boot_abs | decide +kernel | rfl) (sa_cons (se_var (pv 0)) sa_nil (star_no rfl)) (by decide) (by decide) rfl) (sa_cons (se_callB call_abs cas_abs (by rfl) M.n_abs (by first | exact PySem.boot_abs | decide +kernel | rfl) (sa_cons (se_var (pv 1)) sa_nil (star_no rfl)) (by decide) (by decide) rfl) sa_nil (star_no rfl)) (star_no rfl)) (by rfl)))
    (sss_cons (ss_while own_body (st_cmp op_gt ops_gt (se_var (pv 3)) se_int (nomark _)) (sss_one (ss_par (by decide) (ps_par rfl sc__law_low.nd (by rfl) (by rfl) (by decide) (by rfl) (by rfl) (sa_cons (se_var (pv 3)) (sa_cons (se_bin op_modN ops_mod (se_callTy call_int1 cas_int (by rfl) M.n_int (by first | exact PySem.boot_int | decide +kernel | rfl) (sa_cons (se_var (pv 2)) sa_nil (star_no rfl)) (by decide) (by decide) rfl) (se_var (pv 3))) sa_nil (star_no rfl)) (star_no rfl)) (by rfl)))))
    (sss_cons (ss_set (ps_set (i := 2) sc__law_low.nd (by rfl) (by first | exact .inl rfl | exact .inr rfl) (se_if (st_cmp op_gt ops_gt (se_var (pv 1)) se_int (nomark _)) (se_move (pv 2)) (se_neg (se_var (pv 2))))))
    (sss_one (ss_ret (se_tup (sa_cons (se_bin op_fdivA ops_fdiv (se_callTy call_int1 cas_int (by rfl) M.n_int (by first | exact PySem.boot_int | decide +kernel | rfl) (sa_cons (se_var (pv 0)) sa_nil (star_no rfl)) (by decide) (by decide) rfl) (se_var (pv 2))) (sa_cons (se_bin op_fdivA ops_fdiv (se_callTy call_int1 cas_int (by rfl) M.n_int (by first | exact PySem.boot_int | decide +kernel | rfl) (sa_cons (se_var (pv 1)) sa_nil (star_no rfl)) (by decide) (by decide) rfl) (se_var (pv 2))) sa_nil (star_no rfl)) (star_no rfl))))))))
theorem ok__law_times (M : Md K mg) (hD : base.NoDigits) : FnG P w K mg base 2 M.a__law_times M.d__law_times ["_law_one", "_law_other"] (spF ⟨K, mg⟩ 2 false F__law_times) := fn_text M.t__law_times sc__law_times fun cdv A outer s H E hg hr =>
    (sss_one (ss_ret (se_call (sh := ⟨2, [], [.pos 0, .pos 1]⟩) (ok__law_low M hD) (sh__law_low_0 M) rfl hg (hr.mono (by decide)) pass_body (by rfl) M.g__law_low M.t__law_low.kp (by decide) (sa_cons (se_bin op_mulAll ops_mul (se_ixS (pv 0) se_int (fun _ _ => rfl)) (se_ixS (pv 1) se_int (fun _ _ => rfl))) (sa_cons (se_bin op_mulAll ops_mul (se_ixS (pv 0) se_int (fun _ _ => rfl)) (se_ixS (pv 1) se_int (fun _ _ => rfl))) sa_nil (star_no rfl)) (star_no rfl)) sk_nil rfl rfl rfl (fun h => nomatch h) (fun _ => rfl))))
theorem ok__law_even (M : Md K mg) (hD : base.NoDigits) : FnG P w K mg base 3 M.a__law_even M.d__law_even ["_law_counts"] (spF ⟨K, mg⟩ 1 false F__law_even) := fn_text M.t__law_even sc__law_even fun cdv A outer s H E hg hr =>
    (sss_cons (ss_par (by decide) (ps_par rfl sc__law_even.nd (by rfl) (by rfl) (by decide) (by rfl) (by rfl) (sa_cons (se_tup (sa_cons se_int (sa_cons se_int sa_nil (star_no rfl)) (star_no rfl))) (sa_cons (se_callB call_len cas_len (by rfl) M.n_len (by first | exact PySem.boot_len | decide +kernel | rfl) (sa_cons (se_var (pv 0)) sa_nil (star_no rfl)) (by decide) (by decide) rfl) sa_nil (star_no rfl)) (star_no rfl)) (by rfl)))
    (sss_cons (ss_for own_body rfl (si_seq (se_var (pv 0))) (sg_name (ts := [3]) (pg_name (i := 3) sc__law_even.nd (by rfl) (by first | exact .inl rfl | exact .inr rfl)) (by decide)) (sss_one (ss_for own_body rfl (si_rng1 (by rfl) M.n_range (sa_cons (se_var (pv 3)) sa_nil (star_no rfl)) rfl) (sg_name (ts := [4]) (pg_name (i := 4) sc__law_even.nd (by rfl) (by first | exact .inl rfl | exact .inr rfl)) (by decide)) (sss_cons (ss_set (ps_set (i := 1) sc__law_even.nd (by rfl) (by first | exact .inl rfl | exact .inr rfl) (se_call (sh := ⟨2, [], [.pos 0, .pos 1]⟩) (ok__law_times M hD) (sh__law_times_0 M) rfl hg (hr.mono (by decide)) pass_body (by rfl) M.g__law_times M.t__law_times.kp (by decide) (sa_cons (se_var (pv 1)) (sa_cons (se_tup (sa_cons (se_bin op_addAll ops_add (se_var (pv 4)) se_int) (sa_cons (se_var (pv 2)) sa_nil (star_no rfl)) (star_no rfl))) sa_nil (star_no rfl)) (star_no rfl)) sk_nil rfl rfl rfl (fun h => nomatch h) (fun _ => rfl))))
    (sss_one (ss_set (ps_set (i := 2) sc__law_even.nd (by rfl) (by first | exact .inl rfl | exact .inr rfl) (se_bin op_addAll ops_add (se_var (pv 2)) se_int))))) (fun _ => rfl))) (fun _ => rfl))
    (sss_one (ss_ret (se_move (pv 1))))))
theorem ok__law_draw (M : Md K mg) (hD : base.NoDigits) : FnG P w K mg base 1 M.a__law_draw M.d__law_draw ["_law_pen_here", "_law_many"] (spF ⟨K, mg⟩ 2 true F__law_draw) := fn_text M.t__law_draw sc__law_draw fun cdv A outer s H E hg hr =>
    (sss_cons (ss_set (ps_set (i := 2) sc__law_draw.nd (by rfl) (by first | exact .inl rfl | exact .inr rfl) (se_callTy call_int1 cas_int (by rfl) M.n_int (by first | exact PySem.boot_int | decide +kernel | rfl) (sa_cons (se_ixS (pv 0) se_int (fun _ _ => rfl)) sa_nil (star_no rfl)) (by decide) (by decide) rfl)))
    (sss_cons (ss_if (st_cmp op_gt ops_gt (se_var (pv 2)) se_int (nomark _)) (sss_cons (ss_put (ps_asg (se_bin op_fdivA ops_fdiv (se_var (pv 2)) (se_var (pv 1))) (pg_sub (pv 0) se_int set_list (fun _ => rfl)) (by rfl) (by rfl) (by rfl)))
    (sss_one (ss_ret (se_bin op_modN ops_mod (se_var (pv 2)) (se_var (pv 1)))))) sss_nil)
    (sss_cons (ss_if (st_cmp (op_eqS (un64 hr)) ops_eqS (se_ixS (pv 0) se_int (fun _ _ => rfl)) (se_lst sa_nil) (nomark _)) (sss_one (ss_ret se_int)) sss_nil)
    (sss_cons (ss_set (ps_set (i := 3) sc__law_draw.nd (by rfl) (by first | exact .inl rfl | exact .inr rfl) (se_ixS (pv 0) se_int (fun _ _ => rfl))))
    (sss_cons (ss_put (ps_asg (se_bin op_addAll ops_add (se_var (pv 3)) se_int) (pg_sub (pv 0) se_int set_list (fun _ => rfl)) (by rfl) (by rfl) (by rfl)))
    (sss_cons (ss_set (ps_set (i := 4) sc__law_draw.nd (by rfl) (by first | exact .inl rfl | exact .inr rfl) (se_ix (se_ixS (pv 0) se_int (fun _ _ => rfl)) (se_bin op_modN ops_mod (se_callTy call_int1 cas_int (by rfl) M.n_int (by first | exact PySem.boot_int | decide +kernel | rfl) (sa_cons (se_var (pv 3)) sa_nil (star_no rfl)) (by decide) (by decide) rfl) (se_callB call_len cas_len (by rfl) M.n_len (by first | exact PySem.boot_len | decide +kernel | rfl) (sa_cons (se_ixS (pv 0) se_int (fun _ _ => rfl)) sa_nil (star_no rfl)) (by decide) (by decide) rfl)) (fun _ _ => rfl))))
    (sss_cons (ss_if (PW.pt (sw_and (st_cmp op_lt ops_lt (se_var (pv 3)) (se_callB call_len cas_len (by rfl) M.n_len (by first | exact PySem.boot_len | decide +kernel | rfl) (sa_cons (se_ixS (pv 0) se_int (fun _ _ => rfl)) sa_nil (star_no rfl)) (by decide) (by decide) rfl) (nomark _)) (sw_and1 (st_cmp op_ge ops_ge (se_callB call_abs cas_abs (by rfl) M.n_abs (by first | exact PySem.boot_abs | decide +kernel | rfl) (sa_cons (se_var (pv 4)) sa_nil (star_no rfl)) (by decide) (by decide) rfl) (se_bin op_pow ops_pow se_int se_int) (nomark _))))) (sss_cons (ss_set (ps_set (i := 2) sc__law_draw.nd (by rfl) (by first | exact .inl rfl | exact .inr rfl) (se_bin op_addAll ops_add (se_bin op_mulAll ops_mul se_int (se_bin op_sub ops_sub (se_callB call_abs cas_abs (by rfl) M.n_abs (by first | exact PySem.boot_abs | decide +kernel | rfl) (sa_cons (se_var (pv 4)) sa_nil (star_no rfl)) (by decide) (by decide) rfl) (se_bin op_pow ops_pow se_int se_int))) (se_callTy call_int1 cas_int (by rfl) M.n_int (by first | exact PySem.boot_int | decide +kernel | rfl) (sa_cons (se_cmp op_lt ops_lt (se_var (pv 4)) se_int (nomark _)) sa_nil (star_no rfl)) (by decide) (by decide) rfl))))
    (sss_cons (ss_put (ps_asg (se_bin op_fdivA ops_fdiv (se_var (pv 2)) (se_var (pv 1))) (pg_sub (pv 0) se_int set_list (fun _ => rfl)) (by rfl) (by rfl) (by rfl)))
    (sss_one (ss_ret (se_bin op_modN ops_mod (se_var (pv 2)) (se_var (pv 1))))))) sss_nil)
    (sss_cons (ss_set (ps_set (i := 5) sc__law_draw.nd (by rfl) (by first | exact .inl rfl | exact .inr rfl) (se_bin op_modN ops_mod (se_callTy call_int1 cas_int (by rfl) M.n_int (by first | exact PySem.boot_int | decide +kernel | rfl) (sa_cons (se_bin op_pow ops_pow (se_bin op_addAll ops_add (se_bin op_addAll ops_add (se_bin op_modN ops_mod (se_callTy call_int1 cas_int (by rfl) M.n_int (by first | exact PySem.boot_int | decide +kernel | rfl) (sa_cons (se_var (pv 4)) sa_nil (star_no rfl)) (by decide) (by decide) rfl) se_int) (se_bin op_mulAll ops_mul se_int (se_var (pv 3)))) se_int) se_int) sa_nil (star_no rfl)) (by decide) (by decide) rfl) se_int)))
    (sss_cons (ss_set (ps_set (i := 5) sc__law_draw.nd (by rfl) (by first | exact .inl rfl | exact .inr rfl) (se_bin op_modN ops_mod (se_callTy call_int1 cas_int (by rfl) M.n_int (by first | exact PySem.boot_int | decide +kernel | rfl) (sa_cons (se_bin op_pow ops_pow (se_bin op_addAll ops_add (se_bin op_addAll ops_add (se_bin op_mulAll ops_mul (se_var (pv 5)) (se_bin op_addAll ops_add (se_bin op_mulAll ops_mul se_int (se_var (pv 3))) se_int)) (se_bin op_mulAll ops_mul (se_bin op_mulAll ops_mul se_int (se_var (pv 3))) (se_var (pv 3)))) se_int) se_int) sa_nil (star_no rfl)) (by decide) (by decide) rfl) se_int)))
    (sss_one (ss_ret (se_bin op_modN ops_mod (se_callTy call_int1 cas_int (by rfl) M.n_int (by first | exact PySem.boot_int | decide +kernel | rfl) (sa_cons (se_bin op_fdivA ops_fdiv (se_var (pv 5)) se_int) sa_nil (star_no rfl)) (by decide) (by decide) rfl) (se_var (pv 1))))))))))))))
theorem ok__law_one_of (M : Md K mg) (hD : base.NoDigits) : FnG P w K mg base 2 M.a__law_one_of M.d__law_one_of ["_law_pen_here", "_law_some"] (spF ⟨K, mg⟩ 2 true F__law_one_of) := fn_text M.t__law_one_of sc__law_one_of fun cdv A outer s H E hg hr =>
    (sss_one (ss_ret (se_ixS (pv 1) (se_callIo (ok__law_draw M hD) (binds_of M.t__law_draw 2 fun _ _ _ _ _ _ us hl => match us, hl with | [_, _], _ => rfl) hg (hr.mono (by decide)) pass_body (by rfl) M.g__law_draw M.t__law_draw.kp (by decide) (pv 0) (sa_cons (se_callB call_len cas_len (by rfl) M.n_len (by first | exact PySem.boot_len | decide +kernel | rfl) (sa_cons (se_var (pv 1)) sa_nil (star_no rfl)) (by decide) (by decide) rfl) sa_nil (star_no rfl)) rfl) (fun _ _ => rfl))))
theorem ok_is_list (M : Md K mg) (hD : base.NoDigits) : FnG P w K mg base 1 M.a_is_list M.d_is_list ["value"] (spF ⟨K, mg⟩ 1 false F_is_list) := fn_text M.t_is_list sc_is_list fun cdv A outer s H E hg hr =>
    (sss_one (ss_ret (se_isi2 (T := "list") (U := "tuple") (by rfl) M.n_isinstance (by first | decide +kernel | rfl) (by decide) (by decide) (by rfl) M.n_list (by first | decide +kernel | rfl) (by decide) (by decide) (by rfl) M.n_tuple (by first | decide +kernel | rfl) (by decide) (by decide) (se_var (pv 0)) rfl)))
theorem ok_is_integer (M : Md K mg) (hD : base.NoDigits) : FnG P w K mg base 1 M.a_is_integer M.d_is_integer ["value"] (spF ⟨K, mg⟩ 1 false F_is_integer) := fn_text M.t_is_integer sc_is_integer fun cdv A outer s H E hg hr =>
    (sss_one (ss_ret (se_and (se_isi (T := "int") (by rfl) M.n_isinstance (by first | decide +kernel | rfl) (by decide) (by decide) (by rfl) M.n_int (by first | decide +kernel | rfl) (by decide) (by decide) (se_var (pv 0)) rfl) (se_one (se_not (se_isi (T := "bool") (by rfl) M.n_isinstance (by first | decide +kernel | rfl) (by decide) (by decide) (by rfl) M.n_bool (by first | decide +kernel | rfl) (by decide) (by decide) (se_var (pv 0)) rfl))))))
theorem ok_is_within (M : Md K mg) (hD : base.NoDigits) : FnG P w K mg base 2 M.a_is_within M.d_is_within ["value", "least", "most"] (spF ⟨K, mg⟩ 3 false F_is_within) := fn_text M.t_is_within sc_is_within fun cdv A outer s H E hg hr =>
    (sss_cons (ss_if (st_not (st_tru (se_call (sh := ⟨1, [], [.pos 0]⟩) (ok_is_integer M hD) (sh_is_integer_0 M) rfl hg (hr.mono (by decide)) pass_body (by rfl) M.g_is_integer M.t_is_integer.kp (by decide) (sa_cons (se_var (pv 0)) sa_nil (star_no rfl)) sk_nil rfl rfl rfl (fun h => nomatch h) (fun _ => rfl)) (fun _ => rfl))) (sss_one (ss_ret se_bl)) sss_nil)
    (sss_one (ss_ret (se_and (se_or (se_cmp op_isN ops_is (se_var (pv 1)) se_non (nomark _)) (se_one (se_cmp op_le ops_le (se_var (pv 1)) (se_var (pv 0)) (nomark _)))) (se_one (se_or (se_cmp op_isN ops_is (se_var (pv 2)) se_non (nomark _)) (se_one (se_cmp op_le ops_le (se_var (pv 0)) (se_var (pv 2)) (nomark _)))))))))
theorem ok_need_counts (M : Md K mg) (hD : base.NoDigits) : FnG P w K mg base 3 M.a_need_counts M.d_need_counts ["value", "part"] (spF ⟨K, mg⟩ 2 false F_need_counts) := fn_text M.t_need_counts sc_need_counts fun cdv A outer s H E hg hr =>
    (sss_cons (ss_if (PW.pt (sw_or (st_not (st_tru (se_call (sh := ⟨1, [], [.pos 0]⟩) (ok_is_list M hD) (sh_is_list_0 M) rfl hg (hr.mono (by decide)) pass_body (by rfl) M.g_is_list M.t_is_list.kp (by decide) (sa_cons (se_var (pv 0)) sa_nil (star_no rfl)) sk_nil rfl rfl rfl (fun h => nomatch h) (fun _ => rfl)) (fun _ => rfl))) (sw_or1 (st_not (st_tru (se_call (sh := ⟨3, [], [.pos 0, .pos 1, .pos 2]⟩) (ok_is_within M hD) (sh_is_within_0 M) rfl hg (hr.mono (by decide)) pass_body (by rfl) M.g_is_within M.t_is_within.kp (by decide) (sa_cons (se_callB call_len cas_len (by rfl) M.n_len (by first | exact PySem.boot_len | decide +kernel | rfl) (sa_cons (se_var (pv 0)) sa_nil (star_no rfl)) (by decide) (by decide) rfl) (sa_cons se_int (sa_cons (se_glob (v := .int 5) (by rfl) M.c_MOST_GOODS ⟨_, rfl⟩ rfl (by decide)) sa_nil (star_no rfl)) (star_no rfl)) (star_no rfl)) sk_nil rfl rfl rfl (fun h => nomatch h) (fun _ => rfl)) (fun _ => rfl)))))) (sss_one ss_bad) sss_nil)
    (sss_cons (ss_if (st_not (st_tru (se_callB (cr_all rfl) cas_all (by rfl) M.n_all (by first | exact PySem.boot_all | decide +kernel | rfl) (sa_cons (se_lc (own := [("each", 2)]) rfl sc_need_counts.nd (si_seq (se_var (pv 0))) (blkOk_by (by rfl)) (fun _ _ _ _ _ => (sg_name (ts := (List.map (fun p : Str × Nat => p.2) [("each", 2)])) (pg_name (i := 2) sc_need_counts.nd (by rfl) (by first | exact .inl rfl | exact .inr rfl)) (by decide))) (fun _ _ _ _ _ => spt_nil) (fun _ _ _ _ _ => (se_call (sh := ⟨3, [], [.pos 0, .pos 1, .pos 2]⟩) (ok_is_within M hD) (sh_is_within_0 M) rfl hg (hr.mono (by decide)) pass_blk (by rfl) M.g_is_within M.t_is_within.kp (by decide) (sa_cons (se_var (pv 2)) (sa_cons se_int (sa_cons se_non sa_nil (star_no rfl)) (star_no rfl)) (star_no rfl)) sk_nil rfl rfl rfl (fun h => nomatch h) (fun _ => rfl))) (fun _ => rfl)) sa_nil (star_no rfl)) (by decide) (by decide) rfl) (fun _ => rfl))) (sss_one ss_bad) sss_nil)
    (sss_one (ss_ret (se_callTy call_tuple_of cas_tuple (by rfl) M.n_tuple (by first | exact PySem.boot_tuple | decide +kernel | rfl) (sa_cons (se_var (pv 0)) sa_nil (star_no rfl)) (by decide) (by decide) rfl)))))
theorem ok_factorial (M : Md K mg) (hD : base.NoDigits) : FnG P w K mg base 1 M.a_factorial M.d_factorial ["number"] (spF ⟨K, mg⟩ 1 false F_factorial) := fn_text M.t_factorial sc_factorial fun cdv A outer s H E hg hr =>
    (sss_cons (ss_set (ps_set (i := 1) sc_factorial.nd (by rfl) (by first | exact .inl rfl | exact .inr rfl) se_int))
    (sss_cons (ss_for own_body rfl (si_rng2 (by rfl) M.n_range (sa_cons se_int (sa_cons (se_bin op_addAll ops_add (se_var (pv 0)) se_int) sa_nil (star_no rfl)) (star_no rfl)) rfl rfl) (sg_name (ts := [2]) (pg_name (i := 2) sc_factorial.nd (by rfl) (by first | exact .inl rfl | exact .inr rfl)) (by decide)) (sss_one (ss_set (ps_set (i := 1) sc_factorial.nd (by rfl) (by first | exact .inl rfl | exact .inr rfl) (se_bin op_mulAll ops_mul (se_var (pv 1)) (se_var (pv 2)))))) (fun _ => rfl))
    (sss_one (ss_ret (se_move (pv 1))))))
theorem ok_common (M : Md K mg) (hD : base.NoDigits) : FnG P w K mg base 1 M.a_common M.d_common ["one", "other"] (spF ⟨K, mg⟩ 2 false F_common) := fn_text M.t_common sc_common fun cdv A outer s H E hg hr =>
    (sss_cons (ss_par (by decide) (ps_par rfl sc_common.nd (by rfl) (by rfl) (by decide) (by rfl) (by rfl) (sa_cons (se_callB call_abs cas_abs (by rfl) M.n_abs (by first | exact PySem.boot_abs | decide +kernel | rfl) (sa_cons (se_var (pv 0)) sa_nil (star_no rfl)) (by decide) (by decide) rfl) (sa_cons (se_callB call_abs cas_abs (by rfl) M.n_abs (by first | exact PySem.boot_abs | decide +kernel | rfl) (sa_cons (se_var (pv 1)) sa_nil (star_no rfl)) (by decide) (by decide) rfl) sa_nil (star_no rfl)) (star_no rfl)) (by rfl)))
    (sss_cons (ss_while own_body (st_cmp op_gt ops_gt (se_var (pv 1)) se_int (nomark _)) (sss_one (ss_par (by decide) (ps_par rfl sc_common.nd (by rfl) (by rfl) (by decide) (by rfl) (by rfl) (sa_cons (se_var (pv 1)) (sa_cons (se_bin op_modN ops_mod (se_var (pv 0)) (se_var (pv 1))) sa_nil (star_no rfl)) (star_no rfl)) (by rfl)))))
    (sss_one (ss_ret (se_move (pv 0))))))
theorem ok_lowest (M : Md K mg) (hD : base.NoDigits) : FnG P w K mg base 2 M.a_lowest M.d_lowest ["above", "under"] (spF ⟨K, mg⟩ 2 false F_lowest) := fn_text M.t_lowest sc_lowest fun cdv A outer s H E hg hr =>
    (sss_cons (ss_set (ps_set (i := 2) sc_lowest.nd (by rfl) (by first | exact .inl rfl | exact .inr rfl) (se_call (sh := ⟨2, [], [.pos 0, .pos 1]⟩) (ok_common M hD) (sh_common_0 M) rfl hg (hr.mono (by decide)) pass_body (by rfl) M.g_common M.t_common.kp (by decide) (sa_cons (se_var (pv 0)) (sa_cons (se_var (pv 1)) sa_nil (star_no rfl)) (star_no rfl)) sk_nil rfl rfl rfl (fun h => nomatch h) (fun _ => rfl))))
    (sss_cons (ss_set (ps_set (i := 2) sc_lowest.nd (by rfl) (by first | exact .inl rfl | exact .inr rfl) (se_if (st_cmp op_lt ops_lt (se_var (pv 1)) se_int (nomark _)) (se_neg (se_var (pv 2))) (se_move (pv 2)))))
    (sss_cons (ss_par (by decide) (ps_par rfl sc_lowest.nd (by rfl) (by rfl) (by decide) (by rfl) (by rfl) (sa_cons (se_bin op_fdivA ops_fdiv (se_var (pv 0)) (se_var (pv 2))) (sa_cons (se_bin op_fdivA ops_fdiv (se_var (pv 1)) (se_var (pv 2))) sa_nil (star_no rfl)) (star_no rfl)) (by rfl)))
    (sss_one (ss_ret (se_if (st_cmp (op_eqS (un64 hr)) ops_eqS (se_var (pv 1)) se_int (nomark _)) (se_move (pv 0)) (se_tup (sa_cons (se_var (pv 0)) (sa_cons (se_var (pv 1)) sa_nil (star_no rfl)) (star_no rfl)))))))))
theorem ok_weight_in (M : Md K mg) (hD : base.NoDigits) : FnG P w K mg base 3 M.a_weight_in M.d_weight_in ["counts"] (spF ⟨K, mg⟩ 1 false F_weight_in) := fn_text M.t_weight_in sc_weight_in fun cdv A outer s H E hg hr =>
    (sss_cons (ss_set (ps_set (i := 1) sc_weight_in.nd (by rfl) (by first | exact .inl rfl | exact .inr rfl) (se_call (sh := ⟨1, [], [.pos 0]⟩) (ok_factorial M hD) (sh_factorial_0 M) rfl hg (hr.mono (by decide)) pass_body (by rfl) M.g_factorial M.t_factorial.kp (by decide) (sa_cons (se_bin op_sub ops_sub (se_callB call_len cas_len (by rfl) M.n_len (by first | exact PySem.boot_len | decide +kernel | rfl) (sa_cons (se_var (pv 0)) sa_nil (star_no rfl)) (by decide) (by decide) rfl) se_int) sa_nil (star_no rfl)) sk_nil rfl rfl rfl (fun h => nomatch h) (fun _ => rfl))))
    (sss_cons (ss_for own_body rfl (si_seq (se_var (pv 0))) (sg_name (ts := [2]) (pg_name (i := 2) sc_weight_in.nd (by rfl) (by first | exact .inl rfl | exact .inr rfl)) (by decide)) (sss_one (ss_set (ps_set (i := 1) sc_weight_in.nd (by rfl) (by first | exact .inl rfl | exact .inr rfl) (se_bin op_mulAll ops_mul (se_var (pv 1)) (se_call (sh := ⟨1, [], [.pos 0]⟩) (ok_factorial M hD) (sh_factorial_0 M) rfl hg (hr.mono (by decide)) pass_body (by rfl) M.g_factorial M.t_factorial.kp (by decide) (sa_cons (se_var (pv 2)) sa_nil (star_no rfl)) sk_nil rfl rfl rfl (fun h => nomatch h) (fun _ => rfl)))))) (fun _ => rfl))
    (sss_one (ss_ret (se_call (sh := ⟨2, [], [.pos 0, .pos 1]⟩) (ok_lowest M hD) (sh_lowest_0 M) rfl hg (hr.mono (by decide)) pass_body (by rfl) M.g_lowest M.t_lowest.kp (by decide) (sa_cons (se_var (pv 1)) (sa_cons (se_call (sh := ⟨1, [], [.pos 0]⟩) (ok_factorial M hD) (sh_factorial_0 M) rfl hg (hr.mono (by decide)) pass_body (by rfl) M.g_factorial M.t_factorial.kp (by decide) (sa_cons (se_bin op_sub ops_sub (se_bin op_addAll ops_add (se_callB (sum_all rfl) cas_sum (by rfl) M.n_sum (by first | exact PySem.boot_sum | decide +kernel | rfl) (sa_cons (se_var (pv 0)) sa_nil (star_no rfl)) (by decide) (by decide) rfl) (se_callB call_len cas_len (by rfl) M.n_len (by first | exact PySem.boot_len | decide +kernel | rfl) (sa_cons (se_var (pv 0)) sa_nil (star_no rfl)) (by decide) (by decide) rfl)) se_int) sa_nil (star_no rfl)) sk_nil rfl rfl rfl (fun h => nomatch h) (fun _ => rfl)) sa_nil (star_no rfl)) (star_no rfl)) sk_nil rfl rfl rfl (fun h => nomatch h) (fun _ => rfl))))))
theorem ok_even_weight (M : Md K mg) (hD : base.NoDigits) : FnG P w K mg base 4 M.a_even_weight M.d_even_weight ["counts"] (spF ⟨K, mg⟩ 1 false F_even_weight) := fn_text M.t_even_weight sc_even_weight fun cdv A outer s H E hg hr =>
    (sss_cons (ss_set (ps_set (i := 1) sc_even_weight.nd (by rfl) (by first | exact .inl rfl | exact .inr rfl) (se_call (sh := ⟨2, [], [.pos 0, .pos 1]⟩) (ok_need_counts M hD) (sh_need_counts_0 M) rfl hg (hr.mono (by decide)) pass_body (by rfl) M.g_need_counts M.t_need_counts.kp (by decide) (sa_cons (se_var (pv 0)) (sa_cons se_str sa_nil (star_no rfl)) (star_no rfl)) sk_nil rfl rfl rfl (fun h => nomatch h) (fun _ => rfl))))
    (sss_cons (ss_if (st_cmp op_gt ops_gt (se_callB (max_all rfl) cas_max (by rfl) M.n_max (by first | exact PySem.boot_max | decide +kernel | rfl) (sa_cons (se_var (pv 1)) sa_nil (star_no rfl)) (by decide) (by decide) rfl) (se_glob (v := .int 1000) (by rfl) M.c_MOST_COUNT ⟨_, rfl⟩ rfl (by decide)) (nomark _)) (sss_one ss_bad) sss_nil)
    (sss_one (ss_ret (se_call (sh := ⟨1, [], [.pos 0]⟩) (ok_weight_in M hD) (sh_weight_in_0 M) rfl hg (hr.mono (by decide)) pass_body (by rfl) M.g_weight_in M.t_weight_in.kp (by decide) (sa_cons (se_var (pv 1)) sa_nil (star_no rfl)) sk_nil rfl rfl rfl (fun h => nomatch h) (fun _ => rfl))))))
theorem ok__law_plus (M : Md K mg) (hD : base.NoDigits) : FnG P w K mg base 2 M.a__law_plus M.d__law_plus ["_law_one", "_law_other"] (spF ⟨K, mg⟩ 2 false F__law_plus) := fn_text M.t__law_plus sc__law_plus fun cdv A outer s H E hg hr =>
    (sss_one (ss_ret (se_call (sh := ⟨2, [], [.pos 0, .pos 1]⟩) (ok__law_low M hD) (sh__law_low_0 M) rfl hg (hr.mono (by decide)) pass_body (by rfl) M.g__law_low M.t__law_low.kp (by decide) (sa_cons (se_bin op_addAll ops_add (se_bin op_mulAll ops_mul (se_ixS (pv 0) se_int (fun _ _ => rfl)) (se_ixS (pv 1) se_int (fun _ _ => rfl))) (se_bin op_mulAll ops_mul (se_ixS (pv 1) se_int (fun _ _ => rfl)) (se_ixS (pv 0) se_int (fun _ _ => rfl)))) (sa_cons (se_bin op_mulAll ops_mul (se_ixS (pv 0) se_int (fun _ _ => rfl)) (se_ixS (pv 1) se_int (fun _ _ => rfl))) sa_nil (star_no rfl)) (star_no rfl)) sk_nil rfl rfl rfl (fun h => nomatch h) (fun _ => rfl))))
theorem ok__law_sum (M : Md K mg) (hD : base.NoDigits) : FnG P w K mg base 3 M.a__law_sum M.d__law_sum ["_law_some"] (spF ⟨K, mg⟩ 1 false F__law_sum) := fn_text M.t__law_sum sc__law_sum fun cdv A outer s H E hg hr =>
    (sss_cons (ss_set (ps_set (i := 1) sc__law_sum.nd (by rfl) (by first | exact .inl rfl | exact .inr rfl) (se_tup (sa_cons se_int (sa_cons se_int sa_nil (star_no rfl)) (star_no rfl)))))
    (sss_cons (ss_for own_body rfl (si_seq (se_var (pv 0))) (sg_name (ts := [2]) (pg_name (i := 2) sc__law_sum.nd (by rfl) (by first | exact .inl rfl | exact .inr rfl)) (by decide)) (sss_one (ss_set (ps_set (i := 1) sc__law_sum.nd (by rfl) (by first | exact .inl rfl | exact .inr rfl) (se_call (sh := ⟨2, [], [.pos 0, .pos 1]⟩) (ok__law_plus M hD) (sh__law_plus_0 M) rfl hg (hr.mono (by decide)) pass_body (by rfl) M.g__law_plus M.t__law_plus.kp (by decide) (sa_cons (se_var (pv 1)) (sa_cons (se_var (pv 2)) sa_nil (star_no rfl)) (star_no rfl)) sk_nil rfl rfl rfl (fun h => nomatch h) (fun _ => rfl))))) (fun _ => rfl))
    (sss_one (ss_ret (se_move (pv 1))))))
theorem ok_need_integer (M : Md K mg) (hD : base.NoDigits) : FnG P w K mg base 3 M.a_need_integer M.d_need_integer ["value", "part", "least", "most"] (spF ⟨K, mg⟩ 4 false F_need_integer) := fn_text M.t_need_integer sc_need_integer fun cdv A outer s H E hg hr =>
    (sss_one (ss_if (st_not (st_tru (se_call (sh := ⟨3, [], [.pos 0, .pos 1, .pos 2]⟩) (ok_is_within M hD) (sh_is_within_0 M) rfl hg (hr.mono (by decide)) pass_body (by rfl) M.g_is_within M.t_is_within.kp (by decide) (sa_cons (se_var (pv 0)) (sa_cons (se_var (pv 2)) (sa_cons (se_var (pv 3)) sa_nil (star_no rfl)) (star_no rfl)) (star_no rfl)) sk_nil rfl rfl rfl (fun h => nomatch h) (fun _ => rfl)) (fun _ => rfl))) (sss_one ss_bad) sss_nil))
theorem ok_need_goods (M : Md K mg) (hD : base.NoDigits) : FnG P w K mg base 4 M.a_need_goods M.d_need_goods ["value"] (spF ⟨K, mg⟩ 1 false F_need_goods) := fn_text M.t_need_goods sc_need_goods fun cdv A outer s H E hg hr =>
    (sss_one (ss_expr (se_call (sh := ⟨4, [], [.pos 0, .pos 1, .pos 2, .pos 3]⟩) (ok_need_integer M hD) (sh_need_integer_0 M) rfl hg (hr.mono (by decide)) pass_body (by rfl) M.g_need_integer M.t_need_integer.kp (by decide) (sa_cons (se_var (pv 0)) (sa_cons se_str (sa_cons se_int (sa_cons (se_glob (v := .int 5) (by rfl) M.c_MOST_GOODS ⟨_, rfl⟩ rfl (by decide)) sa_nil (star_no rfl)) (star_no rfl)) (star_no rfl)) (star_no rfl)) sk_nil rfl rfl rfl (fun h => nomatch h) (fun _ => rfl)) (by rfl)))
theorem ok_need_days (M : Md K mg) (hD : base.NoDigits) : FnG P w K mg base 4 M.a_need_days M.d_need_days ["value"] (spF ⟨K, mg⟩ 1 false F_need_days) := fn_text M.t_need_days sc_need_days fun cdv A outer s H E hg hr =>
    (sss_one (ss_expr (se_call (sh := ⟨4, [], [.pos 0, .pos 1, .pos 2, .pos 3]⟩) (ok_need_integer M hD) (sh_need_integer_0 M) rfl hg (hr.mono (by decide)) pass_body (by rfl) M.g_need_integer M.t_need_integer.kp (by decide) (sa_cons (se_var (pv 0)) (sa_cons se_str (sa_cons se_int (sa_cons (se_glob (v := .int 1000) (by rfl) M.c_MOST_DAYS ⟨_, rfl⟩ rfl (by decide)) sa_nil (star_no rfl)) (star_no rfl)) (star_no rfl)) (star_no rfl)) sk_nil rfl rfl rfl (fun h => nomatch h) (fun _ => rfl)) (by rfl)))
theorem ok_choose_in (M : Md K mg) (hD : base.NoDigits) : FnG P w K mg base 1 M.a_choose_in M.d_choose_in ["many", "some"] (spF ⟨K, mg⟩ 2 false F_choose_in) := fn_text M.t_choose_in sc_choose_in fun cdv A outer s H E hg hr =>
    (sss_cons (ss_set (ps_set (i := 2) sc_choose_in.nd (by rfl) (by first | exact .inl rfl | exact .inr rfl) se_int))
    (sss_cons (ss_for own_body rfl (si_rng1 (by rfl) M.n_range (sa_cons (se_var (pv 1)) sa_nil (star_no rfl)) rfl) (sg_name (ts := [3]) (pg_name (i := 3) sc_choose_in.nd (by rfl) (by first | exact .inl rfl | exact .inr rfl)) (by decide)) (sss_one (ss_set (ps_set (i := 2) sc_choose_in.nd (by rfl) (by first | exact .inl rfl | exact .inr rfl) (se_bin op_fdivA ops_fdiv (se_bin op_mulAll ops_mul (se_var (pv 2)) (se_bin op_sub ops_sub (se_var (pv 0)) (se_var (pv 3)))) (se_bin op_addAll ops_add (se_var (pv 3)) se_int))))) (fun _ => rfl))
    (sss_one (ss_ret (se_move (pv 2))))))
theorem ok_factor_in (M : Md K mg) (hD : base.NoDigits) : FnG P w K mg base 2 M.a_factor_in M.d_factor_in ["goods", "days"] (spF ⟨K, mg⟩ 2 false F_factor_in) := fn_text M.t_factor_in sc_factor_in fun cdv A outer s H E hg hr =>
    (sss_one (ss_ret (se_call (sh := ⟨2, [], [.pos 0, .pos 1]⟩) (ok_choose_in M hD) (sh_choose_in_0 M) rfl hg (hr.mono (by decide)) pass_body (by rfl) M.g_choose_in M.t_choose_in.kp (by decide) (sa_cons (se_bin op_sub ops_sub (se_bin op_addAll ops_add (se_var (pv 1)) (se_var (pv 0))) se_int) (sa_cons (se_bin op_sub ops_sub (se_var (pv 0)) se_int) sa_nil (star_no rfl)) (star_no rfl)) sk_nil rfl rfl rfl (fun h => nomatch h) (fun _ => rfl))))
theorem ok_even_factor (M : Md K mg) (hD : base.NoDigits) : FnG P w K mg base 5 M.a_even_factor M.d_even_factor ["goods", "days"] (spF ⟨K, mg⟩ 2 false F_even_factor) := fn_text M.t_even_factor sc_even_factor fun cdv A outer s H E hg hr =>
    (sss_cons (ss_expr (se_call (sh := ⟨1, [], [.pos 0]⟩) (ok_need_goods M hD) (sh_need_goods_0 M) rfl hg (hr.mono (by decide)) pass_body (by rfl) M.g_need_goods M.t_need_goods.kp (by decide) (sa_cons (se_var (pv 0)) sa_nil (star_no rfl)) sk_nil rfl rfl rfl (fun h => nomatch h) (fun _ => rfl)) (by rfl))
    (sss_cons (ss_expr (se_call (sh := ⟨1, [], [.pos 0]⟩) (ok_need_days M hD) (sh_need_days_0 M) rfl hg (hr.mono (by decide)) pass_body (by rfl) M.g_need_days M.t_need_days.kp (by decide) (sa_cons (se_var (pv 1)) sa_nil (star_no rfl)) sk_nil rfl rfl rfl (fun h => nomatch h) (fun _ => rfl)) (by rfl))
    (sss_one (ss_ret (se_call (sh := ⟨2, [], [.pos 0, .pos 1]⟩) (ok_factor_in M hD) (sh_factor_in_0 M) rfl hg (hr.mono (by decide)) pass_body (by rfl) M.g_factor_in M.t_factor_in.kp (by decide) (sa_cons (se_var (pv 0)) (sa_cons (se_var (pv 1)) sa_nil (star_no rfl)) (star_no rfl)) sk_nil rfl rfl rfl (fun h => nomatch h) (fun _ => rfl))))))
theorem ok__law_number (M : Md K mg) (hD : base.NoDigits) : FnG P w K mg base 1 M.a__law_number M.d__law_number ["_law_one"] (spF ⟨K, mg⟩ 1 false F__law_number) := fn_text M.t__law_number sc__law_number fun cdv A outer s H E hg hr =>
    (sss_one (ss_ret (se_if (st_cmp (op_eqS (un64 hr)) ops_eqS (se_ixS (pv 0) se_int (fun _ _ => rfl)) se_int (nomark _)) (se_ixS (pv 0) se_int (fun _ _ => rfl)) (se_move (pv 0)))))
theorem ok__law_triangle (M : Md K mg) (hD : base.NoDigits) : FnG P w K mg base 1 M.a__law_triangle M.d__law_triangle ["_law_goods", "_law_days"] (spF ⟨K, mg⟩ 2 false F__law_triangle) := fn_text M.t__law_triangle sc__law_triangle fun cdv A outer s H E hg hr =>
    (sss_cons (ss_set (ps_set (i := 2) sc__law_triangle.nd (by rfl) (by first | exact .inl rfl | exact .inr rfl) (se_bin op_mulAll ops_mul (se_lst (sa_cons se_int sa_nil (star_no rfl))) (se_bin op_addAll ops_add (se_var (pv 1)) se_int))))
    (sss_cons (ss_for own_body rfl (si_rng1 (by rfl) M.n_range (sa_cons (se_bin op_sub ops_sub (se_var (pv 0)) se_int) sa_nil (star_no rfl)) rfl) (sg_name (ts := [3]) (pg_name (i := 3) sc__law_triangle.nd (by rfl) (by first | exact .inl rfl | exact .inr rfl)) (by decide)) (sss_one (ss_for own_body rfl (si_rng2 (by rfl) M.n_range (sa_cons se_int (sa_cons (se_bin op_addAll ops_add (se_var (pv 1)) se_int) sa_nil (star_no rfl)) (star_no rfl)) rfl rfl) (sg_name (ts := [4]) (pg_name (i := 4) sc__law_triangle.nd (by rfl) (by first | exact .inl rfl | exact .inr rfl)) (by decide)) (sss_one (ss_put (ps_asg (se_bin op_addAll ops_add (se_ixS (pv 2) (se_var (pv 4)) (fun _ _ => rfl)) (se_ixS (pv 2) (se_bin op_sub ops_sub (se_var (pv 4)) se_int) (fun _ _ => rfl))) (pg_sub (pv 2) (se_var (pv 4)) set_list (fun _ => rfl)) (by rfl) (by rfl) (by rfl)))) (fun _ => rfl))) (fun _ => rfl))
    (sss_one (ss_ret (se_ixS (pv 2) (se_var (pv 1)) (fun _ _ => rfl))))))
theorem ok_law (M : Md K mg) (hD : base.NoDigits) : FnG P w K mg base 6 M.a_law M.d_law ["_law_script"] (spF ⟨K, mg⟩ 1 false F_law) := fn_text M.t_law sc_law fun cdv A outer s H E hg hr =>
    (sss_cons (ss_set (ps_set (i := 1) sc_law.nd (by rfl) (by first | exact .inl rfl | exact .inr rfl) (se_call (sh := ⟨1, [], [.pos 0]⟩) (ok__law_pen M hD) (sh__law_pen_0 M) rfl hg (hr.mono (by decide)) pass_body (by rfl) M.g__law_pen M.t__law_pen.kp (by decide) (sa_cons (se_var (pv 0)) sa_nil (star_no rfl)) sk_nil rfl rfl rfl (fun h => nomatch h) (fun _ => rfl))))
    (sss_cons (ss_for own_body rfl (si_rng1 (by rfl) M.n_range (sa_cons se_int sa_nil (star_no rfl)) rfl) (sg_name (ts := [2]) (pg_name (i := 2) sc_law.nd (by rfl) (by first | exact .inl rfl | exact .inr rfl)) (by decide)) (sss_cons (ss_set (ps_set (i := 3) sc_law.nd (by rfl) (by first | exact .inl rfl | exact .inr rfl) (se_bin op_addAll ops_add se_int (se_callIo (ok__law_draw M hD) (binds_of M.t__law_draw 2 fun _ _ _ _ _ _ us hl => match us, hl with | [_, _], _ => rfl) hg (hr.mono (by decide)) pass_body (by rfl) M.g__law_draw M.t__law_draw.kp (by decide) (pv 1) (sa_cons se_int sa_nil (star_no rfl)) rfl))))
    (sss_cons (ss_set (ps_set (i := 4) sc_law.nd (by rfl) (by first | exact .inl rfl | exact .inr rfl) (se_lc (own := [("_law_good", 11)]) rfl sc_law.nd (si_rng1 (by rfl) M.n_range (sa_cons (se_var (pv 3)) sa_nil (star_no rfl)) rfl) (blkOk_by (by rfl)) (fun _ _ _ _ _ => (sg_name (ts := (List.map (fun p : Str × Nat => p.2) [("_law_good", 11)])) (pg_name (i := 11) sc_law.nd (by rfl) (by first | exact .inl rfl | exact .inr rfl)) (by decide))) (fun _ _ _ _ _ => spt_nil) (fun _ _ _ _ _ => (se_callIo (ok__law_one_of M hD) (binds_of M.t__law_one_of 2 fun _ _ _ _ _ _ us hl => match us, hl with | [_, _], _ => rfl) hg (hr.mono (by decide)) pass_blk (by rfl) M.g__law_one_of M.t__law_one_of.kp (by decide) (pv 1) (sa_cons (se_lst (sa_cons se_int (sa_cons se_int (sa_cons se_int (sa_cons (se_callIo (ok__law_draw M hD) (binds_of M.t__law_draw 2 fun _ _ _ _ _ _ us hl => match us, hl with | [_, _], _ => rfl) hg (hr.mono (by decide)) pass_blk (by rfl) M.g__law_draw M.t__law_draw.kp (by decide) (pv 1) (sa_cons se_int sa_nil (star_no rfl)) rfl) (sa_cons (se_bin op_mulAll ops_mul (se_callIo (ok__law_draw M hD) (binds_of M.t__law_draw 2 fun _ _ _ _ _ _ us hl => match us, hl with | [_, _], _ => rfl) hg (hr.mono (by decide)) pass_blk (by rfl) M.g__law_draw M.t__law_draw.kp (by decide) (pv 1) (sa_cons se_int sa_nil (star_no rfl)) rfl) (se_callIo (ok__law_draw M hD) (binds_of M.t__law_draw 2 fun _ _ _ _ _ _ us hl => match us, hl with | [_, _], _ => rfl) hg (hr.mono (by decide)) pass_blk (by rfl) M.g__law_draw M.t__law_draw.kp (by decide) (pv 1) (sa_cons se_int sa_nil (star_no rfl)) rfl)) sa_nil (star_no rfl)) (star_no rfl)) (star_no rfl)) (star_no rfl)) (star_no rfl))) sa_nil (star_no rfl)) rfl)) (fun _ => rfl))))
    (sss_cons (ss_set (ps_set (i := 5) sc_law.nd (by rfl) (by first | exact .inl rfl | exact .inr rfl) (se_call (sh := ⟨1, [], [.pos 0]⟩) (ok__law_even M hD) (sh__law_even_0 M) rfl hg (hr.mono (by decide)) pass_body (by rfl) M.g__law_even M.t__law_even.kp (by decide) (sa_cons (se_var (pv 4)) sa_nil (star_no rfl)) sk_nil rfl rfl rfl (fun h => nomatch h) (fun _ => rfl))))
    (sss_cons (ss_if (st_cmp (op_neS (un64 hr)) ops_neS (se_callB (cr_repr hg (un150 hr) hD) cas_repr (by rfl) M.n_repr (by first | exact PySem.boot_repr | decide +kernel | rfl) (sa_cons (se_lst (sa_cons (se_call (sh := ⟨1, [], [.pos 0]⟩) (ok_even_weight M hD) (sh_even_weight_1 M) rfl hg (hr.mono (by decide)) pass_body (by rfl) M.g_even_weight M.t_even_weight.kp (by decide) (sa_cons (se_var (pv 4)) sa_nil (star_no rfl)) sk_nil rfl rfl rfl (fun h => nomatch h) (fun _ => rfl)) (sa_cons (se_call (sh := ⟨0, ["counts"], [.kw 0]⟩) (ok_even_weight M hD) (sh_even_weight_0 M) rfl hg (hr.mono (by decide)) pass_body (by rfl) M.g_even_weight M.t_even_weight.kp (by decide) sa_nil (sk_cons (se_callTy call_tuple_of cas_tuple (by rfl) M.n_tuple (by first | exact PySem.boot_tuple | decide +kernel | rfl) (sa_cons (se_var (pv 4)) sa_nil (star_no rfl)) (by decide) (by decide) rfl) sk_nil) rfl rfl rfl (fun _ => rfl) (fun h => nomatch h)) sa_nil (star_no rfl)) (star_no rfl))) sa_nil (star_no rfl)) (by decide) (by decide) rfl) (se_callB (cr_repr hg (un150 hr) hD) cas_repr (by rfl) M.n_repr (by first | exact PySem.boot_repr | decide +kernel | rfl) (sa_cons (se_bin op_mulAll ops_mul (se_lst (sa_cons (se_call (sh := ⟨1, [], [.pos 0]⟩) (ok__law_number M hD) (sh__law_number_0 M) rfl hg (hr.mono (by decide)) pass_body (by rfl) M.g__law_number M.t__law_number.kp (by decide) (sa_cons (se_var (pv 5)) sa_nil (star_no rfl)) sk_nil rfl rfl rfl (fun h => nomatch h) (fun _ => rfl)) sa_nil (star_no rfl))) se_int) sa_nil (star_no rfl)) (by decide) (by decide) rfl) (nomark _)) (sss_one (ss_ret se_bl)) sss_nil)
    (sss_cons (ss_setLc (own := [("_law_good", 11)]) (i := 6) rfl sc_law.nd (by rfl) (by rfl) (by rfl) (si_rng1 (by rfl) M.n_range (sa_cons (se_var (pv 3)) sa_nil (star_no rfl)) rfl) (blkOk_by (by rfl)) (fun _ _ _ _ _ => (sg_name (ts := (List.map (fun p : Str × Nat => p.2) [("_law_good", 11)])) (pg_name (i := 11) sc_law.nd (by rfl) (by first | exact .inl rfl | exact .inr rfl)) (by decide))) (fun _ _ _ _ _ => spt_nil) (fun _ _ _ _ _ => (se_call (sh := ⟨1, [], [.pos 0]⟩) (ok__law_even M hD) (sh__law_even_0 M) rfl hg (hr.mono (by decide)) pass_blk (by rfl) M.g__law_even M.t__law_even.kp (by decide) (sa_cons (se_bin op_addAll ops_add (se_bin op_addAll ops_add (se_sl (se_var (pv 4)) so_none (so_some (se_var (pv 11)))) (se_lst (sa_cons (se_bin op_addAll ops_add (se_ixS (pv 4) (se_var (pv 11)) (fun _ _ => rfl)) se_int) sa_nil (star_no rfl)))) (se_sl (se_var (pv 4)) (so_some (se_bin op_addAll ops_add (se_var (pv 11)) se_int)) so_none)) sa_nil (star_no rfl)) sk_nil rfl rfl rfl (fun h => nomatch h) (fun _ => rfl))) (fun _ => rfl))
    (sss_cons (ss_if (PW.pt (sw_or (st_cmp (op_neS (un64 hr)) ops_neS (se_call (sh := ⟨1, [], [.pos 0]⟩) (ok__law_sum M hD) (sh__law_sum_0 M) rfl hg (hr.mono (by decide)) pass_body (by rfl) M.g__law_sum M.t__law_sum.kp (by decide) (sa_cons (se_var (pv 6)) sa_nil (star_no rfl)) sk_nil rfl rfl rfl (fun h => nomatch h) (fun _ => rfl)) (se_var (pv 5)) (nomark _)) (sw_or1 (st_cmp (op_neS (un64 hr)) ops_neS (se_callB (cr_repr hg (un150 hr) hD) cas_repr (by rfl) M.n_repr (by first | exact PySem.boot_repr | decide +kernel | rfl) (sa_cons (se_call (sh := ⟨1, [], [.pos 0]⟩) (ok_even_weight M hD) (sh_even_weight_1 M) rfl hg (hr.mono (by decide)) pass_body (by rfl) M.g_even_weight M.t_even_weight.kp (by decide) (sa_cons (se_bin op_addAll ops_add (se_sl (se_var (pv 4)) so_none (so_some (se_neg se_int))) (se_lst (sa_cons (se_bin op_addAll ops_add (se_ixS (pv 4) (se_neg se_int) (fun _ _ => rfl)) se_int) sa_nil (star_no rfl)))) sa_nil (star_no rfl)) sk_nil rfl rfl rfl (fun h => nomatch h) (fun _ => rfl)) sa_nil (star_no rfl)) (by decide) (by decide) rfl) (se_callB (cr_repr hg (un150 hr) hD) cas_repr (by rfl) M.n_repr (by first | exact PySem.boot_repr | decide +kernel | rfl) (sa_cons (se_call (sh := ⟨1, [], [.pos 0]⟩) (ok__law_number M hD) (sh__law_number_0 M) rfl hg (hr.mono (by decide)) pass_body (by rfl) M.g__law_number M.t__law_number.kp (by decide) (sa_cons (se_ixS (pv 6) (se_neg se_int) (fun _ _ => rfl)) sa_nil (star_no rfl)) sk_nil rfl rfl rfl (fun h => nomatch h) (fun _ => rfl)) sa_nil (star_no rfl)) (by decide) (by decide) rfl) (nomark _))))) (sss_one (ss_ret se_bl)) sss_nil)
    (sss_cons (ss_set (ps_set (i := 7) sc_law.nd (by rfl) (by first | exact .inl rfl | exact .inr rfl) (se_callIo (ok__law_one_of M hD) (binds_of M.t__law_one_of 2 fun _ _ _ _ _ _ us hl => match us, hl with | [_, _], _ => rfl) hg (hr.mono (by decide)) pass_body (by rfl) M.g__law_one_of M.t__law_one_of.kp (by decide) (pv 1) (sa_cons (se_lst (sa_cons se_int (sa_cons se_int (sa_cons se_int (sa_cons se_int (sa_cons (se_callIo (ok__law_draw M hD) (binds_of M.t__law_draw 2 fun _ _ _ _ _ _ us hl => match us, hl with | [_, _], _ => rfl) hg (hr.mono (by decide)) pass_body (by rfl) M.g__law_draw M.t__law_draw.kp (by decide) (pv 1) (sa_cons se_int sa_nil (star_no rfl)) rfl) (sa_cons (se_if (st_cmp op_lt ops_lt (se_var (pv 3)) se_int (nomark _)) se_int se_int) sa_nil (star_no rfl)) (star_no rfl)) (star_no rfl)) (star_no rfl)) (star_no rfl)) (star_no rfl))) sa_nil (star_no rfl)) rfl)))
    (sss_one (ss_if (st_cmp (op_neS (un64 hr)) ops_neS (se_callB (cr_repr hg (un150 hr) hD) cas_repr (by rfl) M.n_repr (by first | exact PySem.boot_repr | decide +kernel | rfl) (sa_cons (se_lst (sa_cons (se_call (sh := ⟨2, [], [.pos 0, .pos 1]⟩) (ok_even_factor M hD) (sh_even_factor_1 M) rfl hg (hr.mono (by decide)) pass_body (by rfl) M.g_even_factor M.t_even_factor.kp (by decide) (sa_cons (se_var (pv 3)) (sa_cons (se_var (pv 7)) sa_nil (star_no rfl)) (star_no rfl)) sk_nil rfl rfl rfl (fun h => nomatch h) (fun _ => rfl)) (sa_cons (se_call (sh := ⟨0, ["days", "goods"], [.kw 1, .kw 0]⟩) (ok_even_factor M hD) (sh_even_factor_0 M) rfl hg (hr.mono (by decide)) pass_body (by rfl) M.g_even_factor M.t_even_factor.kp (by decide) sa_nil (sk_cons (se_var (pv 7)) (sk_cons (se_var (pv 3)) sk_nil)) rfl rfl rfl (fun _ => rfl) (fun h => nomatch h)) sa_nil (star_no rfl)) (star_no rfl))) sa_nil (star_no rfl)) (by decide) (by decide) rfl) (se_callB (cr_repr hg (un150 hr) hD) cas_repr (by rfl) M.n_repr (by first | exact PySem.boot_repr | decide +kernel | rfl) (sa_cons (se_bin op_mulAll ops_mul (se_lst (sa_cons (se_call (sh := ⟨2, [], [.pos 0, .pos 1]⟩) (ok__law_triangle M hD) (sh__law_triangle_0 M) rfl hg (hr.mono (by decide)) pass_body (by rfl) M.g__law_triangle M.t__law_triangle.kp (by decide) (sa_cons (se_var (pv 3)) (sa_cons (se_var (pv 7)) sa_nil (star_no rfl)) (star_no rfl)) sk_nil rfl rfl rfl (fun h => nomatch h) (fun _ => rfl)) sa_nil (star_no rfl))) se_int) sa_nil (star_no rfl)) (by decide) (by decide) rfl) (nomark _)) (sss_one (ss_ret se_bl)) sss_nil))))))))) (fun _ => rfl))
    (sss_cons (ss_par (by decide) (ps_par rfl sc_law.nd (by rfl) (by rfl) (by decide) (by rfl) (by rfl) (sa_cons (se_callIo (ok__law_one_of M hD) (binds_of M.t__law_one_of 2 fun _ _ _ _ _ _ us hl => match us, hl with | [_, _], _ => rfl) hg (hr.mono (by decide)) pass_body (by rfl) M.g__law_one_of M.t__law_one_of.kp (by decide) (pv 1) (sa_cons (se_lst (sa_cons se_int (sa_cons se_int (sa_cons se_int sa_nil (star_no rfl)) (star_no rfl)) (star_no rfl))) sa_nil (star_no rfl)) rfl) (sa_cons (se_callIo (ok__law_draw M hD) (binds_of M.t__law_draw 2 fun _ _ _ _ _ _ us hl => match us, hl with | [_, _], _ => rfl) hg (hr.mono (by decide)) pass_body (by rfl) M.g__law_draw M.t__law_draw.kp (by decide) (pv 1) (sa_cons se_int sa_nil (star_no rfl)) rfl) sa_nil (star_no rfl)) (star_no rfl)) (by rfl)))
    (sss_cons (ss_set (ps_set (i := 8) sc_law.nd (by rfl) (by first | exact .inl rfl | exact .inr rfl) (se_lst sa_nil)))
    (sss_cons (ss_for own_body rfl (si_seq (se_call (sh := ⟨2, [], [.pos 0, .pos 1]⟩) (ok__law_words M hD) (sh__law_words_0 M) rfl hg (hr.mono (by decide)) pass_body (by rfl) M.g__law_words M.t__law_words.kp (by decide) (sa_cons (se_var (pv 3)) (sa_cons (se_var (pv 7)) sa_nil (star_no rfl)) (star_no rfl)) sk_nil rfl rfl rfl (fun h => nomatch h) (fun _ => rfl))) (sg_name (ts := [9]) (pg_name (i := 9) sc_law.nd (by rfl) (by first | exact .inl rfl | exact .inr rfl)) (by decide)) (sss_cons (ss_set (ps_set (i := 10) sc_law.nd (by rfl) (by first | exact .inl rfl | exact .inr rfl) (se_call (sh := ⟨1, [], [.pos 0]⟩) (ok_even_weight M hD) (sh_even_weight_1 M) rfl hg (hr.mono (by decide)) pass_body (by rfl) M.g_even_weight M.t_even_weight.kp (by decide) (sa_cons (se_lc (own := [("_law_good", 11)]) rfl sc_law.nd (si_rng1 (by rfl) M.n_range (sa_cons (se_var (pv 3)) sa_nil (star_no rfl)) rfl) (blkOk_by (by rfl)) (fun _ _ _ _ _ => (sg_name (ts := (List.map (fun p : Str × Nat => p.2) [("_law_good", 11)])) (pg_name (i := 11) sc_law.nd (by rfl) (by first | exact .inl rfl | exact .inr rfl)) (by decide))) (fun _ _ _ _ _ => spt_nil) (fun _ _ _ _ _ => (se_callB call_len cas_len (by rfl) M.n_len (by first | exact PySem.boot_len | decide +kernel | rfl) (sa_cons (se_lc (own := [("_law_its", 12)]) rfl sc_law.nd (si_seq (se_var (pv 9))) (blkOk_by (by rfl)) (fun _ _ _ _ _ => (sg_name (ts := (List.map (fun p : Str × Nat => p.2) [("_law_its", 12)])) (pg_name (i := 12) sc_law.nd (by rfl) (by first | exact .inl rfl | exact .inr rfl)) (by decide))) (fun _ _ _ _ _ => (spt_one (st_cmp (op_eqS (un64 hr)) ops_eqS (se_var (pv 12)) (se_var (pv 11)) (nomark _)))) (fun _ _ _ _ _ => se_int) (fun _ => rfl)) sa_nil (star_no rfl)) (by decide) (by decide) rfl)) (fun _ => rfl)) sa_nil (star_no rfl)) sk_nil rfl rfl rfl (fun h => nomatch h) (fun _ => rfl))))
    (sss_one (ss_app (ps_expr (pe_bm PySem.F.plainAttrs_list PySem.F.slot_list_append PySem.F.type_list_append mt_append (pv 8) (pa_cons (se_if (st_tru (se_isi (T := "int") (by rfl) M.n_isinstance (by first | decide +kernel | rfl) (by decide) (by decide) (by rfl) M.n_int (by first | decide +kernel | rfl) (by decide) (by decide) (se_var (pv 10)) rfl) (fun _ => rfl)) (se_tup (sa_cons (se_var (pv 10)) (sa_cons se_int sa_nil (star_no rfl)) (star_no rfl))) (se_var (pv 10))) pa_nil (star_no rfl))))))) (fun _ => rfl))
    (sss_one (ss_ret (se_and (se_cmp (op_eqS (un64 hr)) ops_eqS (se_call (sh := ⟨1, [], [.pos 0]⟩) (ok__law_sum M hD) (sh__law_sum_0 M) rfl hg (hr.mono (by decide)) pass_body (by rfl) M.g__law_sum M.t__law_sum.kp (by decide) (sa_cons (se_var (pv 8)) sa_nil (star_no rfl)) sk_nil rfl rfl rfl (fun h => nomatch h) (fun _ => rfl)) (se_tup (sa_cons se_int (sa_cons se_int sa_nil (star_no rfl)) (star_no rfl))) (nomark _)) (se_and (se_cmp (op_eqS (un64 hr)) ops_eqS (se_call (sh := ⟨1, [], [.pos 0]⟩) (ok_even_weight M hD) (sh_even_weight_1 M) rfl hg (hr.mono (by decide)) pass_body (by rfl) M.g_even_weight M.t_even_weight.kp (by decide) (sa_cons (se_lst (sa_cons se_int sa_nil (star_no rfl))) sa_nil (star_no rfl)) sk_nil rfl rfl rfl (fun h => nomatch h) (fun _ => rfl)) se_int (nomark _)) (se_one (se_cmp (op_eqS (un64 hr)) ops_eqS (se_call (sh := ⟨2, [], [.pos 0, .pos 1]⟩) (ok_even_factor M hD) (sh_even_factor_1 M) rfl hg (hr.mono (by decide)) pass_body (by rfl) M.g_even_factor M.t_even_factor.kp (by decide) (sa_cons se_int (sa_cons se_int sa_nil (star_no rfl)) (star_no rfl)) sk_nil rfl rfl rfl (fun h => nomatch h) (fun _ => rfl)) (se_bin op_fdivA ops_fdiv (se_bin op_mulAll ops_mul (se_bin op_mulAll ops_mul (se_bin op_mulAll ops_mul se_int se_int) se_int) se_int) se_int) (nomark _))))))))))))
theorem all_mk {w : World} {h : Heap} {fa : Addr} (X : K.In h) (G : h.Ns mainGlobals mg) (hfa : mg "law" = some (.ref fa))
    {f0 f1 f2 f3 f4 f5 f6 f7 f8 f9 f10 f11 f12 f13 f14 f15 f16 f17 f18 f19 f20 f21 f22 f23 f24 f25 f26 : Addr} {od0 an0 od1 an1 od2 an2 od3 an3 od4 an4 od5 an5 od6 an6 od7 an7 od8 an8 od9 an9 od10 an10 od11 an11 od12 an12 od13 an13 od14 an14 od15 an15 od16 an16 od17 an17 od18 an18 od19 an19 od20 an20 od21 an21 od22 an22 od23 an23 od24 an24 od25 an25 od26 an26 : Option Addr} {sl0 sl1 sl2 sl3 sl4 sl5 sl6 sl7 sl8 sl9 sl10 sl11 sl12 sl13 sl14 sl15 sl16 sl17 sl18 sl19 sl20 sl21 sl22 sl23 sl24 sl25 sl26 : Array (Option Value)} {oc0 kV0 dc0 pm0 cd0 ct0 oc1 kV1 dc1 pm1 cd1 ct1 oc2 kV2 dc2 pm2 cd2 ct2 oc3 kV3 dc3 pm3 cd3 ct3 oc4 kV4 dc4 pm4 cd4 ct4 oc5 kV5 dc5 pm5 cd5 ct5 oc6 kV6 dc6 pm6 cd6 ct6 oc7 kV7 dc7 pm7 cd7 ct7 oc8 kV8 dc8 pm8 cd8 ct8 oc9 kV9 dc9 pm9 cd9 ct9 oc10 kV10 dc10 pm10 cd10 ct10 oc11 kV11 dc11 pm11 cd11 ct11 oc12 kV12 dc12 pm12 cd12 ct12 oc13 kV13 dc13 pm13 cd13 ct13 oc14 kV14 dc14 pm14 cd14 ct14 oc15 kV15 dc15 pm15 cd15 ct15 oc16 kV16 dc16 pm16 cd16 ct16 oc17 kV17 dc17 pm17 cd17 ct17 oc18 kV18 dc18 pm18 cd18 ct18 oc19 kV19 dc19 pm19 cd19 ct19 oc20 kV20 dc20 pm20 cd20 ct20 oc21 kV21 dc21 pm21 cd21 ct21 oc22 kV22 dc22 pm22 cd22 ct22 oc23 kV23 dc23 pm23 cd23 ct23 oc24 kV24 dc24 pm24 cd24 ct24 oc25 kV25 dc25 pm25 cd25 ct25 oc26 kV26 dc26 pm26 cd26 ct26 : Value} {tk0 tk1 tk2 : Tok}
    (p0 : PySem.W.nsIn K mainGlobals "_law_pen" = some (some (.ref f0))) (l0 : K.lookup f0 = some ⟨oc0, od0, .func (PySem.W.fnOf "_law_pen" "_law_pen" (defArgs s__law_pen) (defBody s__law_pen) (defScope s__law_pen) .none kV0 dc0 pm0 an0 cd0 ct0), sl0⟩) (c0 : PySem.W.codeIn K cd0 "_law_pen" = true) (q0 : PySem.W.keepIn K (.ref f0) = true)
    (p1 : PySem.W.nsIn K mainGlobals "_law_words" = some (some (.ref f1))) (l1 : K.lookup f1 = some ⟨oc1, od1, .func (PySem.W.fnOf "_law_words" "_law_words" (defArgs s__law_words) (defBody s__law_words) (defScope s__law_words) .none kV1 dc1 pm1 an1 cd1 ct1), sl1⟩) (c1 : PySem.W.codeIn K cd1 "_law_words" = true) (q1 : PySem.W.keepIn K (.ref f1) = true)
    (p2 : PySem.W.nsIn K mainGlobals "_law_low" = some (some (.ref f2))) (l2 : K.lookup f2 = some ⟨oc2, od2, .func (PySem.W.fnOf "_law_low" "_law_low" (defArgs s__law_low) (defBody s__law_low) (defScope s__law_low) .none kV2 dc2 pm2 an2 cd2 ct2), sl2⟩) (c2 : PySem.W.codeIn K cd2 "_law_low" = true) (q2 : PySem.W.keepIn K (.ref f2) = true)
    (p3 : PySem.W.nsIn K mainGlobals "_law_times" = some (some (.ref f3))) (l3 : K.lookup f3 = some ⟨oc3, od3, .func (PySem.W.fnOf "_law_times" "_law_times" (defArgs s__law_times) (defBody s__law_times) (defScope s__law_times) .none kV3 dc3 pm3 an3 cd3 ct3), sl3⟩) (c3 : PySem.W.codeIn K cd3 "_law_times" = true) (q3 : PySem.W.keepIn K (.ref f3) = true)
    (p4 : PySem.W.nsIn K mainGlobals "_law_even" = some (some (.ref f4))) (l4 : K.lookup f4 = some ⟨oc4, od4, .func (PySem.W.fnOf "_law_even" "_law_even" (defArgs s__law_even) (defBody s__law_even) (defScope s__law_even) .none kV4 dc4 pm4 an4 cd4 ct4), sl4⟩) (c4 : PySem.W.codeIn K cd4 "_law_even" = true) (q4 : PySem.W.keepIn K (.ref f4) = true)
    (p5 : PySem.W.nsIn K mainGlobals "_law_draw" = some (some (.ref f5))) (l5 : K.lookup f5 = some ⟨oc5, od5, .func (PySem.W.fnOf "_law_draw" "_law_draw" (defArgs s__law_draw) (defBody s__law_draw) (defScope s__law_draw) .none kV5 dc5 pm5 an5 cd5 ct5), sl5⟩) (c5 : PySem.W.codeIn K cd5 "_law_draw" = true) (q5 : PySem.W.keepIn K (.ref f5) = true)
    (p6 : PySem.W.nsIn K mainGlobals "_law_one_of" = some (some (.ref f6))) (l6 : K.lookup f6 = some ⟨oc6, od6, .func (PySem.W.fnOf "_law_one_of" "_law_one_of" (defArgs s__law_one_of) (defBody s__law_one_of) (defScope s__law_one_of) .none kV6 dc6 pm6 an6 cd6 ct6), sl6⟩) (c6 : PySem.W.codeIn K cd6 "_law_one_of" = true) (q6 : PySem.W.keepIn K (.ref f6) = true)
    (p7 : PySem.W.nsIn K mainGlobals "is_list" = some (some (.ref f7))) (l7 : K.lookup f7 = some ⟨oc7, od7, .func (PySem.W.fnOf "is_list" "is_list" (defArgs s_is_list) (defBody s_is_list) (defScope s_is_list) .none kV7 dc7 pm7 an7 cd7 ct7), sl7⟩) (c7 : PySem.W.codeIn K cd7 "is_list" = true) (q7 : PySem.W.keepIn K (.ref f7) = true)
    (p8 : PySem.W.nsIn K mainGlobals "is_integer" = some (some (.ref f8))) (l8 : K.lookup f8 = some ⟨oc8, od8, .func (PySem.W.fnOf "is_integer" "is_integer" (defArgs s_is_integer) (defBody s_is_integer) (defScope s_is_integer) .none kV8 dc8 pm8 an8 cd8 ct8), sl8⟩) (c8 : PySem.W.codeIn K cd8 "is_integer" = true) (q8 : PySem.W.keepIn K (.ref f8) = true)
    (p9 : PySem.W.nsIn K mainGlobals "is_within" = some (some (.ref f9))) (l9 : K.lookup f9 = some ⟨oc9, od9, .func (PySem.W.fnOf "is_within" "is_within" (defArgs s_is_within) (defBody s_is_within) (defScope s_is_within) .none kV9 dc9 pm9 an9 cd9 ct9), sl9⟩) (c9 : PySem.W.codeIn K cd9 "is_within" = true) (q9 : PySem.W.keepIn K (.ref f9) = true)
    (p10 : PySem.W.nsIn K mainGlobals "need_counts" = some (some (.ref f10))) (l10 : K.lookup f10 = some ⟨oc10, od10, .func (PySem.W.fnOf "need_counts" "need_counts" (defArgs s_need_counts) (defBody s_need_counts) (defScope s_need_counts) .none kV10 dc10 pm10 an10 cd10 ct10), sl10⟩) (c10 : PySem.W.codeIn K cd10 "need_counts" = true) (q10 : PySem.W.keepIn K (.ref f10) = true)
    (p11 : PySem.W.nsIn K mainGlobals "factorial" = some (some (.ref f11))) (l11 : K.lookup f11 = some ⟨oc11, od11, .func (PySem.W.fnOf "factorial" "factorial" (defArgs s_factorial) (defBody s_factorial) (defScope s_factorial) .none kV11 dc11 pm11 an11 cd11 ct11), sl11⟩) (c11 : PySem.W.codeIn K cd11 "factorial" = true) (q11 : PySem.W.keepIn K (.ref f11) = true)
    (p12 : PySem.W.nsIn K mainGlobals "common" = some (some (.ref f12))) (l12 : K.lookup f12 = some ⟨oc12, od12, .func (PySem.W.fnOf "common" "common" (defArgs s_common) (defBody s_common) (defScope s_common) .none kV12 dc12 pm12 an12 cd12 ct12), sl12⟩) (c12 : PySem.W.codeIn K cd12 "common" = true) (q12 : PySem.W.keepIn K (.ref f12) = true)
    (p13 : PySem.W.nsIn K mainGlobals "lowest" = some (some (.ref f13))) (l13 : K.lookup f13 = some ⟨oc13, od13, .func (PySem.W.fnOf "lowest" "lowest" (defArgs s_lowest) (defBody s_lowest) (defScope s_lowest) .none kV13 dc13 pm13 an13 cd13 ct13), sl13⟩) (c13 : PySem.W.codeIn K cd13 "lowest" = true) (q13 : PySem.W.keepIn K (.ref f13) = true)
    (p14 : PySem.W.nsIn K mainGlobals "weight_in" = some (some (.ref f14))) (l14 : K.lookup f14 = some ⟨oc14, od14, .func (PySem.W.fnOf "weight_in" "weight_in" (defArgs s_weight_in) (defBody s_weight_in) (defScope s_weight_in) .none kV14 dc14 pm14 an14 cd14 ct14), sl14⟩) (c14 : PySem.W.codeIn K cd14 "weight_in" = true) (q14 : PySem.W.keepIn K (.ref f14) = true)
    (p15 : PySem.W.nsIn K mainGlobals "even_weight" = some (some (.ref f15))) (l15 : K.lookup f15 = some ⟨oc15, od15, .func (PySem.W.fnOf "even_weight" "even_weight" (defArgs s_even_weight) (defBody s_even_weight) (defScope s_even_weight) .none kV15 dc15 pm15 an15 cd15 ct15), sl15⟩) (c15 : PySem.W.codeIn K cd15 "even_weight" = true) (q15 : PySem.W.keepIn K (.ref f15) = true)
    (p16 : PySem.W.nsIn K mainGlobals "_law_plus" = some (some (.ref f16))) (l16 : K.lookup f16 = some ⟨oc16, od16, .func (PySem.W.fnOf "_law_plus" "_law_plus" (defArgs s__law_plus) (defBody s__law_plus) (defScope s__law_plus) .none kV16 dc16 pm16 an16 cd16 ct16), sl16⟩) (c16 : PySem.W.codeIn K cd16 "_law_plus" = true) (q16 : PySem.W.keepIn K (.ref f16) = true)
    (p17 : PySem.W.nsIn K mainGlobals "_law_sum" = some (some (.ref f17))) (l17 : K.lookup f17 = some ⟨oc17, od17, .func (PySem.W.fnOf "_law_sum" "_law_sum" (defArgs s__law_sum) (defBody s__law_sum) (defScope s__law_sum) .none kV17 dc17 pm17 an17 cd17 ct17), sl17⟩) (c17 : PySem.W.codeIn K cd17 "_law_sum" = true) (q17 : PySem.W.keepIn K (.ref f17) = true)
    (p18 : PySem.W.nsIn K mainGlobals "need_integer" = some (some (.ref f18))) (l18 : K.lookup f18 = some ⟨oc18, od18, .func (PySem.W.fnOf "need_integer" "need_integer" (defArgs s_need_integer) (defBody s_need_integer) (defScope s_need_integer) .none kV18 dc18 pm18 an18 cd18 ct18), sl18⟩) (c18 : PySem.W.codeIn K cd18 "need_integer" = true) (q18 : PySem.W.keepIn K (.ref f18) = true)
    (p19 : PySem.W.nsIn K mainGlobals "need_goods" = some (some (.ref f19))) (l19 : K.lookup f19 = some ⟨oc19, od19, .func (PySem.W.fnOf "need_goods" "need_goods" (defArgs s_need_goods) (defBody s_need_goods) (defScope s_need_goods) .none kV19 dc19 pm19 an19 cd19 ct19), sl19⟩) (c19 : PySem.W.codeIn K cd19 "need_goods" = true) (q19 : PySem.W.keepIn K (.ref f19) = true)
    (p20 : PySem.W.nsIn K mainGlobals "need_days" = some (some (.ref f20))) (l20 : K.lookup f20 = some ⟨oc20, od20, .func (PySem.W.fnOf "need_days" "need_days" (defArgs s_need_days) (defBody s_need_days) (defScope s_need_days) .none kV20 dc20 pm20 an20 cd20 ct20), sl20⟩) (c20 : PySem.W.codeIn K cd20 "need_days" = true) (q20 : PySem.W.keepIn K (.ref f20) = true)
    (p21 : PySem.W.nsIn K mainGlobals "choose_in" = some (some (.ref f21))) (l21 : K.lookup f21 = some ⟨oc21, od21, .func (PySem.W.fnOf "choose_in" "choose_in" (defArgs s_choose_in) (defBody s_choose_in) (defScope s_choose_in) .none kV21 dc21 pm21 an21 cd21 ct21), sl21⟩) (c21 : PySem.W.codeIn K cd21 "choose_in" = true) (q21 : PySem.W.keepIn K (.ref f21) = true)
    (p22 : PySem.W.nsIn K mainGlobals "factor_in" = some (some (.ref f22))) (l22 : K.lookup f22 = some ⟨oc22, od22, .func (PySem.W.fnOf "factor_in" "factor_in" (defArgs s_factor_in) (defBody s_factor_in) (defScope s_factor_in) .none kV22 dc22 pm22 an22 cd22 ct22), sl22⟩) (c22 : PySem.W.codeIn K cd22 "factor_in" = true) (q22 : PySem.W.keepIn K (.ref f22) = true)
    (p23 : PySem.W.nsIn K mainGlobals "even_factor" = some (some (.ref f23))) (l23 : K.lookup f23 = some ⟨oc23, od23, .func (PySem.W.fnOf "even_factor" "even_factor" (defArgs s_even_factor) (defBody s_even_factor) (defScope s_even_factor) .none kV23 dc23 pm23 an23 cd23 ct23), sl23⟩) (c23 : PySem.W.codeIn K cd23 "even_factor" = true) (q23 : PySem.W.keepIn K (.ref f23) = true)
    (p24 : PySem.W.nsIn K mainGlobals "_law_number" = some (some (.ref f24))) (l24 : K.lookup f24 = some ⟨oc24, od24, .func (PySem.W.fnOf "_law_number" "_law_number" (defArgs s__law_number) (defBody s__law_number) (defScope s__law_number) .none kV24 dc24 pm24 an24 cd24 ct24), sl24⟩) (c24 : PySem.W.codeIn K cd24 "_law_number" = true) (q24 : PySem.W.keepIn K (.ref f24) = true)
    (p25 : PySem.W.nsIn K mainGlobals "_law_triangle" = some (some (.ref f25))) (l25 : K.lookup f25 = some ⟨oc25, od25, .func (PySem.W.fnOf "_law_triangle" "_law_triangle" (defArgs s__law_triangle) (defBody s__law_triangle) (defScope s__law_triangle) .none kV25 dc25 pm25 an25 cd25 ct25), sl25⟩) (c25 : PySem.W.codeIn K cd25 "_law_triangle" = true) (q25 : PySem.W.keepIn K (.ref f25) = true)
    (p26 : PySem.W.nsIn K mainGlobals "law" = some (some (.ref f26))) (l26 : K.lookup f26 = some ⟨oc26, od26, .func (PySem.W.fnOf "law" "law" (defArgs s_law) (defBody s_law) (defScope s_law) .none kV26 dc26 pm26 an26 cd26 ct26), sl26⟩) (c26 : PySem.W.codeIn K cd26 "law" = true) (q26 : PySem.W.keepIn K (.ref f26) = true)
    (b0 : PySem.W.nsIn K mainGlobals "abs" = some none)
    (b1 : PySem.W.nsIn K mainGlobals "all" = some none)
    (b2 : PySem.W.nsIn K mainGlobals "bool" = some none)
    (b3 : PySem.W.nsIn K mainGlobals "int" = some none)
    (b4 : PySem.W.nsIn K mainGlobals "isinstance" = some none)
    (b5 : PySem.W.nsIn K mainGlobals "len" = some none)
    (b6 : PySem.W.nsIn K mainGlobals "list" = some none)
    (b7 : PySem.W.nsIn K mainGlobals "max" = some none)
    (b8 : PySem.W.nsIn K mainGlobals "range" = some none)
    (b9 : PySem.W.nsIn K mainGlobals "repr" = some none)
    (b10 : PySem.W.nsIn K mainGlobals "sum" = some none)
    (b11 : PySem.W.nsIn K mainGlobals "tuple" = some none)
    (v0 : PySem.W.nsIn K mainGlobals "MOST_COUNT" = some (some (.int 1000 tk0)))
    (v1 : PySem.W.nsIn K mainGlobals "MOST_DAYS" = some (some (.int 1000 tk1)))
    (v2 : PySem.W.nsIn K mainGlobals "MOST_GOODS" = some (some (.int 5 tk2))) :
    ∃ fd : FuncData, (∀ (s : Shared) (v : Value), BindsTo s fd ⟨[v], []⟩ [("_law_script", v)]) ∧ ∀ base : Heap, K.In base → base.Ns mainGlobals mg → base.NoDigits → FnG P w K mg base 6 fa fd ["_law_script"] (spF ⟨K, mg⟩ 1 false F_law) := by
  have e := hfa.symm.trans (PySem.W.mg_of X G p26)
  cases e
  let M : Md K mg := {
    a__law_pen := f0
    d__law_pen := _
    t__law_pen := fun_mk (st := s__law_pen) l0 c0 q0
    g__law_pen := PySem.W.mg_of X G p0
    a__law_words := f1
    d__law_words := _
    t__law_words := fun_mk (st := s__law_words) l1 c1 q1
    g__law_words := PySem.W.mg_of X G p1
    a__law_low := f2
    d__law_low := _
    t__law_low := fun_mk (st := s__law_low) l2 c2 q2
    g__law_low := PySem.W.mg_of X G p2
    a__law_times := f3
    d__law_times := _
    t__law_times := fun_mk (st := s__law_times) l3 c3 q3
    g__law_times := PySem.W.mg_of X G p3
    a__law_even := f4
    d__law_even := _
    t__law_even := fun_mk (st := s__law_even) l4 c4 q4
    g__law_even := PySem.W.mg_of X G p4
    a__law_draw := f5
    d__law_draw := _
    t__law_draw := fun_mk (st := s__law_draw) l5 c5 q5
    g__law_draw := PySem.W.mg_of X G p5
    a__law_one_of := f6
    d__law_one_of := _
    t__law_one_of := fun_mk (st := s__law_one_of) l6 c6 q6
    g__law_one_of := PySem.W.mg_of X G p6
    a_is_list := f7
    d_is_list := _
    t_is_list := fun_mk (st := s_is_list) l7 c7 q7
    g_is_list := PySem.W.mg_of X G p7
    a_is_integer := f8
    d_is_integer := _
    t_is_integer := fun_mk (st := s_is_integer) l8 c8 q8
    g_is_integer := PySem.W.mg_of X G p8
    a_is_within := f9
    d_is_within := _
    t_is_within := fun_mk (st := s_is_within) l9 c9 q9
    g_is_within := PySem.W.mg_of X G p9
    a_need_counts := f10
    d_need_counts := _
    t_need_counts := fun_mk (st := s_need_counts) l10 c10 q10
    g_need_counts := PySem.W.mg_of X G p10
    a_factorial := f11
    d_factorial := _
    t_factorial := fun_mk (st := s_factorial) l11 c11 q11
    g_factorial := PySem.W.mg_of X G p11
    a_common := f12
    d_common := _
    t_common := fun_mk (st := s_common) l12 c12 q12
    g_common := PySem.W.mg_of X G p12
    a_lowest := f13
    d_lowest := _
    t_lowest := fun_mk (st := s_lowest) l13 c13 q13
    g_lowest := PySem.W.mg_of X G p13
    a_weight_in := f14
    d_weight_in := _
    t_weight_in := fun_mk (st := s_weight_in) l14 c14 q14
    g_weight_in := PySem.W.mg_of X G p14
    a_even_weight := f15
    d_even_weight := _
    t_even_weight := fun_mk (st := s_even_weight) l15 c15 q15
    g_even_weight := PySem.W.mg_of X G p15
    a__law_plus := f16
    d__law_plus := _
    t__law_plus := fun_mk (st := s__law_plus) l16 c16 q16
    g__law_plus := PySem.W.mg_of X G p16
    a__law_sum := f17
    d__law_sum := _
    t__law_sum := fun_mk (st := s__law_sum) l17 c17 q17
    g__law_sum := PySem.W.mg_of X G p17
    a_need_integer := f18
    d_need_integer := _
    t_need_integer := fun_mk (st := s_need_integer) l18 c18 q18
    g_need_integer := PySem.W.mg_of X G p18
    a_need_goods := f19
    d_need_goods := _
    t_need_goods := fun_mk (st := s_need_goods) l19 c19 q19
    g_need_goods := PySem.W.mg_of X G p19
    a_need_days := f20
    d_need_days := _
    t_need_days := fun_mk (st := s_need_days) l20 c20 q20
    g_need_days := PySem.W.mg_of X G p20
    a_choose_in := f21
    d_choose_in := _
    t_choose_in := fun_mk (st := s_choose_in) l21 c21 q21
    g_choose_in := PySem.W.mg_of X G p21
    a_factor_in := f22
    d_factor_in := _
    t_factor_in := fun_mk (st := s_factor_in) l22 c22 q22
    g_factor_in := PySem.W.mg_of X G p22
    a_even_factor := f23
    d_even_factor := _
    t_even_factor := fun_mk (st := s_even_factor) l23 c23 q23
    g_even_factor := PySem.W.mg_of X G p23
    a__law_number := f24
    d__law_number := _
    t__law_number := fun_mk (st := s__law_number) l24 c24 q24
    g__law_number := PySem.W.mg_of X G p24
    a__law_triangle := f25
    d__law_triangle := _
    t__law_triangle := fun_mk (st := s__law_triangle) l25 c25 q25
    g__law_triangle := PySem.W.mg_of X G p25
    a_law := fa
    d_law := _
    t_law := fun_mk (st := s_law) l26 c26 q26
    g_law := PySem.W.mg_of X G p26
    n_abs := PySem.W.mg_none_of X G b0
    n_all := PySem.W.mg_none_of X G b1
    n_bool := PySem.W.mg_none_of X G b2
    n_int := PySem.W.mg_none_of X G b3
    n_isinstance := PySem.W.mg_none_of X G b4
    n_len := PySem.W.mg_none_of X G b5
    n_list := PySem.W.mg_none_of X G b6
    n_max := PySem.W.mg_none_of X G b7
    n_range := PySem.W.mg_none_of X G b8
    n_repr := PySem.W.mg_none_of X G b9
    n_sum := PySem.W.mg_none_of X G b10
    n_tuple := PySem.W.mg_none_of X G b11
    k_MOST_COUNT := tk0
    c_MOST_COUNT := PySem.W.mg_of X G v0
    k_MOST_DAYS := tk1
    c_MOST_DAYS := PySem.W.mg_of X G v1
    k_MOST_GOODS := tk2
    c_MOST_GOODS := PySem.W.mg_of X G v2 }
  exact ⟨M.d_law, fun s v => .of_eq rfl, fun base _ _ hD => ok_law M hD⟩
end
end G


set_option maxRecDepth 100000
set_option exponentiation.threshold 30000
namespace G
/-! numbers: choose, factorials, even weights -/
def ch : Nat → Nat → Nat
  | _, 0 => 1
  | 0, _ + 1 => 0
  | n + 1, k + 1 => ch n k + ch n (k + 1)
theorem ch_zero (n : Nat) : ch n 0 = 1 := by cases n <;> rfl
theorem ch_succ (n k : Nat) : ch (n + 1) (k + 1) = ch n k + ch n (k + 1) := rfl
theorem ch_mul : ∀ n k, (k + 1) * ch (n + 1) (k + 1) = (n + 1) * ch n k
  | 0, 0 => rfl
  | 0, k + 1 => by simp [ch]
  | n + 1, 0 => by
    have h : ch (n + 1) 1 = n + 1 := by simpa [ch_zero] using ch_mul n 0
    have h2 : ch (n + 1 + 1) (0 + 1) = ch (n + 1) 0 + ch (n + 1) 1 := rfl
    rw [h2, ch_zero, h]
    omega
  | n + 1, k + 1 => by
    have h1 := ch_mul n k
    have h2 := ch_mul n (k + 1)
    rw [ch_succ (n + 1) (k + 1)]
    have h3 := ch_succ n k
    grind
theorem ch_step : ∀ n k, (k + 1) * ch n (k + 1) + k * ch n k = n * ch n k
  | 0, 0 => rfl
  | 0, k + 1 => by simp [ch]
  | n + 1, 0 => by
    have h := ch_mul n 0
    rw [ch_zero] at h ⊢
    omega
  | n + 1, k + 1 => by
    have h1 := ch_mul n k
    have h2 := ch_mul n (k + 1)
    have h3 := ch_succ n k
    grind
theorem ch_diag : ∀ n, ch n n = 1 ∧ ch n (n + 1) = 0
  | 0 => ⟨rfl, rfl⟩
  | n + 1 => by
    obtain ⟨h1, h2⟩ := ch_diag n
    have h3 : ch n (n + 2) = 0 := by
      have := ch_step n (n + 1)
      rw [h2] at this
      have h4 : (n + 1 + 1) * ch n (n + 1 + 1) = 0 := by simpa using this
      exact (Nat.mul_eq_zero.mp h4).resolve_left (by omega)
    exact ⟨by rw [ch_succ, h1, h2], by rw [ch_succ, h2, h3]⟩
theorem ch_pos : ∀ m c, 0 < ch (m + c) c
  | m, 0 => by rw [ch_zero]; exact Nat.one_pos
  | m, c + 1 => by
    show 0 < ch (m + c + 1) (c + 1)
    rw [ch_succ]
    have := ch_pos m c
    omega
theorem ch_le : ∀ n k, ch n k ≤ 2 ^ n
  | n, 0 => by rw [ch_zero]; exact Nat.one_le_two_pow
  | 0, k + 1 => by simp [ch]
  | n + 1, k + 1 => by
    rw [ch_succ, Nat.pow_succ]
    have h1 := ch_le n k
    have h2 := ch_le n (k + 1)
    omega
def fac : Nat → Nat
  | 0 => 1
  | n + 1 => (n + 1) * fac n
theorem fac_pos : ∀ n, 0 < fac n
  | 0 => Nat.one_pos
  | n + 1 => Nat.mul_pos (Nat.succ_pos _) (fac_pos n)
theorem fac_ch : ∀ m c, fac m * fac c * ch (m + c) c = fac (m + c)
  | m, 0 => by rw [ch_zero]; simp [fac]
  | m, c + 1 => by
    have h := ch_mul (m + c) c
    have ih := fac_ch m c
    show fac m * ((c + 1) * fac c) * ch (m + c + 1) (c + 1) = (m + c + 1) * fac (m + c)
    rw [← ih]
    calc fac m * ((c + 1) * fac c) * ch (m + c + 1) (c + 1) = fac m * fac c * ((c + 1) * ch (m + c + 1) (c + 1)) := by grind
      _ = _ := by rw [h]; grind
def pfac : List Nat → Nat
  | [] => 1
  | c :: cs => fac c * pfac cs
theorem pfac_pos : ∀ cs, 0 < pfac cs
  | [] => Nat.one_pos
  | c :: cs => Nat.mul_pos (fac_pos c) (pfac_pos cs)
/-- one over the weight -/
def Mw : Nat → List Nat → Nat
  | _, [] => 1
  | m, c :: cs => ch (m + c) c * Mw (m + c) cs
theorem Mw_pos : ∀ cs m, 0 < Mw m cs
  | [], _ => Nat.one_pos
  | c :: cs, m => Nat.mul_pos (ch_pos m c) (Mw_pos cs (m + c))
theorem Mw_fac : ∀ cs m, fac m * pfac cs * Mw m cs = fac (m + cs.sum)
  | [], m => by simp [pfac, Mw]
  | c :: cs, m => by
    have h1 := fac_ch m c
    have h2 := Mw_fac cs (m + c)
    show fac m * (fac c * pfac cs) * (ch (m + c) c * Mw (m + c) cs) = fac (m + (c :: cs).sum)
    rw [List.sum_cons, ← Nat.add_assoc, ← h2, ← h1]
    grind
theorem Mw_le : ∀ cs m, Mw m cs ≤ 2 ^ ((m + cs.sum) * cs.length)
  | [], m => by simp [Mw]
  | c :: cs, m => by
    have h1 := ch_le (m + c) c
    have h2 := Mw_le cs (m + c)
    show ch (m + c) c * Mw (m + c) cs ≤ _
    rw [List.sum_cons, List.length_cons, ← Nat.add_assoc, Nat.mul_succ, Nat.pow_add, Nat.mul_comm (2 ^ _)]
    exact Nat.mul_le_mul (Nat.le_trans h1 (Nat.pow_le_pow_right (by decide) (by omega))) h2
/-- one more of the good at g -/
def bump (cs : List Nat) (g : Nat) : List Nat := cs.take g ++ [cs.getD g 0 + 1] ++ cs.drop (g + 1)
theorem pfac_append : ∀ as bs, pfac (as ++ bs) = pfac as * pfac bs
  | [], bs => by simp [pfac]
  | a :: as, bs => by
    show fac a * pfac (as ++ bs) = _
    rw [pfac_append as bs]
    show _ = fac a * pfac as * pfac bs
    rw [Nat.mul_assoc]
theorem split_at {cs : List Nat} {g : Nat} (h : g < cs.length) : cs = cs.take g ++ [cs.getD g 0] ++ cs.drop (g + 1) := by
  have e : cs.getD g 0 = cs[g] := by simp [h]
  rw [e, List.append_assoc, List.singleton_append, ← List.drop_eq_getElem_cons h, List.take_append_drop]
theorem bump_sum {cs : List Nat} {g : Nat} (h : g < cs.length) : (bump cs g).sum = cs.sum + 1 := by
  have e := congrArg List.sum (split_at h)
  unfold bump
  simp only [List.sum_append, List.sum_cons, List.sum_nil] at e ⊢
  omega
theorem bump_len {cs : List Nat} {g : Nat} (h : g < cs.length) : (bump cs g).length = cs.length := by
  unfold bump
  simp
  omega
theorem bump_pfac {cs : List Nat} {g : Nat} (h : g < cs.length) : pfac (bump cs g) = (cs.getD g 0 + 1) * pfac cs := by
  have e : pfac cs = _ := congrArg pfac (split_at h)
  rw [e]
  unfold bump
  rw [pfac_append, pfac_append, pfac_append, pfac_append]
  show pfac _ * (fac (cs.getD g 0 + 1) * 1) * _ = _ * (_ * (fac (cs.getD g 0) * 1) * _)
  show pfac _ * ((cs.getD g 0 + 1) * fac (cs.getD g 0) * 1) * _ = _ * (_ * (fac (cs.getD g 0) * 1) * _)
  grind
theorem Mw_bump {cs : List Nat} {g m : Nat} (h : g < cs.length) : Mw m (bump cs g) * (cs.getD g 0 + 1) = Mw m cs * (m + cs.sum + 1) := by
  have h1 := Mw_fac cs m
  have h2 := Mw_fac (bump cs g) m
  rw [bump_sum h, bump_pfac h] at h2
  have h3 : fac (m + (cs.sum + 1)) = (m + cs.sum + 1) * fac (m + cs.sum) := rfl
  rw [h3, ← h1] at h2
  have hp : 0 < fac m * pfac cs := Nat.mul_pos (fac_pos m) (pfac_pos cs)
  apply Nat.eq_of_mul_eq_mul_left hp
  grind
/-- lowest terms -/
theorem red_eq {a b c d : Nat} (hb : 0 < b) (hd : 0 < d) (h : a * d = c * b) : a / Nat.gcd a b = c / Nat.gcd c d ∧ b / Nat.gcd a b = d / Nat.gcd c d := by
  have g1 : 0 < Nat.gcd a b := Nat.gcd_pos_of_pos_right a hb
  have g2 : 0 < Nat.gcd c d := Nat.gcd_pos_of_pos_right c hd
  have e1 : Nat.gcd a b * d = b * Nat.gcd c d := by
    rw [← Nat.gcd_mul_right, h, Nat.mul_comm c b, Nat.gcd_mul_left]
  generalize q1 : Nat.gcd a b = g at *
  generalize q2 : Nat.gcd c d = k at *
  obtain ⟨x, hx⟩ := q1 ▸ Nat.gcd_dvd_left a b
  obtain ⟨y, hy⟩ := q1 ▸ Nat.gcd_dvd_right a b
  obtain ⟨z, hz⟩ := q2 ▸ Nat.gcd_dvd_left c d
  obtain ⟨w, hw⟩ := q2 ▸ Nat.gcd_dvd_right c d
  clear q1 q2
  subst hx hy hz hw
  have hy : 0 < y := Nat.pos_of_ne_zero fun e => by rw [e, Nat.mul_zero] at hb; exact absurd hb (Nat.lt_irrefl _)
  have e2 : y = w := by
    apply Nat.eq_of_mul_eq_mul_left (Nat.mul_pos g1 g2)
    grind
  subst e2
  have e3 : x = z := by
    apply Nat.eq_of_mul_eq_mul_left (Nat.mul_pos (Nat.mul_pos g1 g2) hy)
    grind
  subst e3
  rw [Nat.mul_div_cancel_left _ g1, Nat.mul_div_cancel_left _ g1, Nat.mul_div_cancel_left _ g2, Nat.mul_div_cancel_left _ g2]
  exact ⟨rfl, rfl⟩
/-- a fraction in lowest terms -/
def red (a b : Nat) : Nat × Nat := (a / Nat.gcd a b, b / Nat.gcd a b)
theorem red_of {a b c d : Nat} (hb : 0 < b) (hd : 0 < d) (h : a * d = c * b) : red a b = red c d := Prod.ext (red_eq hb hd h).1 (red_eq hb hd h).2
theorem red_one (M : Nat) : red 1 M = (1, M) := by unfold red; simp
theorem red_le (a b : Nat) : (red a b).1 ≤ a ∧ (red a b).2 ≤ b := ⟨Nat.div_le_self _ _, Nat.div_le_self _ _⟩
theorem red_cross (a b : Nat) : (red a b).1 * b = a * (red a b).2 := by
  show a / Nat.gcd a b * b = a * (b / Nat.gcd a b)
  obtain ⟨x, hx⟩ := Nat.gcd_dvd_left a b
  obtain ⟨y, hy⟩ := Nat.gcd_dvd_right a b
  by_cases h : Nat.gcd a b = 0
  · rw [h]
    have := Nat.gcd_eq_zero_iff.mp h
    rw [this.1, this.2]
  · generalize Nat.gcd a b = g at *
    subst hx hy
    rw [Nat.mul_div_cancel_left _ (Nat.pos_of_ne_zero h), Nat.mul_div_cancel_left _ (Nat.pos_of_ne_zero h)]
    grind
theorem red_pos {a b : Nat} (hb : 0 < b) : 0 < (red a b).2 := Nat.div_gcd_pos_of_pos_right a hb
end G


set_option maxRecDepth 100000
set_option maxHeartbeats 4000000
set_option exponentiation.threshold 30000
/-! Kern15: natural numbers as data; the pen that the laws draw with. -/
namespace G
open PySem PySem.Spec PyProof.Rows L2
theorem fmod_nat (a b : Nat) : Int.fmod (a : Int) (b : Int) = ((a % b : Nat) : Int) := by
  rw [Int.fmod_eq_emod_of_nonneg _ (by omega)]; rfl
theorem fdiv_nat (a b : Nat) : Int.fdiv (a : Int) (b : Int) = ((a / b : Nat) : Int) := by
  rw [Int.fdiv_eq_ediv_of_nonneg _ (by omega)]; rfl
theorem log_lt {n k : Nat} (hk : 0 < k) (h : n < 2 ^ k) : n.log2 < k := by
  by_cases h0 : n = 0
  · rw [h0]; simpa using hk
  · exact (Nat.log2_lt h0).mpr h
theorem pyl_y {a b : Nat} (h : b < 2 ^ 9000) : Builtin.divisionGoesByPylong (a : Int) (b : Int) = false := by
  have hl := log_lt (by decide) h
  clear h
  unfold Builtin.divisionGoesByPylong
  rw [Bool.and_eq_false_iff]
  left
  simp only [Int.natAbs_natCast]
  rw [decide_eq_false_iff_not]
  split <;> omega
theorem pyl_x {a b : Nat} (h : a < 2 ^ 13500) : Builtin.divisionGoesByPylong (a : Int) (b : Int) = false := by
  have hl := log_lt (by decide) h
  clear h
  unfold Builtin.divisionGoesByPylong
  simp only [Int.natAbs_natCast]
  rw [Bool.and_eq_false_iff, decide_eq_false_iff_not, decide_eq_false_iff_not]
  split <;> split <;> omega
theorem mul_small {a b : Nat} (ha : a < 2 ^ 20000) (hb : b < 2 ^ 20000) : mulOk (a : Int) (b : Int) = true := by
  have h1 := log_lt (by decide) ha
  have h2 := log_lt (by decide) hb
  clear ha hb
  unfold mulOk
  rw [Bool.or_eq_true]
  right
  rw [decide_eq_true_eq]
  unfold Builtin.Int.intBits
  simp only [Int.natAbs_natCast]
  split <;> split <;> omega
theorem mul_left_small {a b : Nat} (ha : a < 2 ^ 64) : mulOk (a : Int) (b : Int) = true := by
  unfold mulOk
  rw [Bool.or_eq_true, Bool.or_eq_true]
  left
  left
  exact decide_eq_true (by simpa using ha)
/-- a natural number as data -/
def ni (n : Nat) : Dt := .int n
theorem ni_def (n : Nat) : ni n = .int n := rfl
theorem ni_mod {a b : Nat} (hb : 0 < b) : opMod (ni a) (ni b) = .ok (.imm (ni (a % b))) := by
  show (if (b : Int) ≠ 0 then vI (Int.fmod a b) else .bad) = _
  rw [if_pos (by omega), fmod_nat]
  rfl
theorem ni_mulG {a b : Nat} (h : mulOk (a : Int) (b : Int) = true) : opMul (ni a) (ni b) = .ok (.imm (ni (a * b))) := by
  show (if mulOk (a : Int) (b : Int) = true then vI ((a : Int) * b) else .bad) = _
  rw [if_pos h]
  show Res.ok (Val.imm (Dt.int ((a : Int) * b))) = .ok (.imm (.int ((a * b : Nat) : Int)))
  rw [Int.natCast_mul]
theorem ni_mul {a b : Nat} (ha : a < 2 ^ 20000) (hb : b < 2 ^ 20000) : opMul (ni a) (ni b) = .ok (.imm (ni (a * b))) := ni_mulG (mul_small ha hb)
theorem ni_mulL {a b : Nat} (ha : a < 2 ^ 64) : opMul (ni a) (ni b) = .ok (.imm (ni (a * b))) := ni_mulG (mul_left_small ha)
theorem ni_fdivG {a b : Nat} (hb : 0 < b) (h : Builtin.divisionGoesByPylong (a : Int) (b : Int) = false) : opFDiv (ni a) (ni b) = .ok (.imm (ni (a / b))) := by
  show (if (b : Int) ≠ 0 ∧ Builtin.divisionGoesByPylong (a : Int) (b : Int) = false then vI (Int.fdiv a b) else .bad) = _
  rw [if_pos ⟨by omega, h⟩, fdiv_nat]
  rfl
theorem ni_fdivy {a b : Nat} (hb : 0 < b) (h : b < 2 ^ 9000) : opFDiv (ni a) (ni b) = .ok (.imm (ni (a / b))) := ni_fdivG hb (pyl_y h)
theorem ni_fdivx {a b : Nat} (hb : 0 < b) (h : a < 2 ^ 13500) : opFDiv (ni a) (ni b) = .ok (.imm (ni (a / b))) := ni_fdivG hb (pyl_x h)
theorem ni_add (a b : Nat) : opAdd (ni a) (ni b) = .ok (.imm (ni (a + b))) := by
  show vI ((a : Int) + b) = .ok (.imm (.int ((a + b : Nat) : Int)))
  rw [Int.natCast_add]
  rfl
theorem ni_sub {a b : Nat} (h : b ≤ a) : opSub (ni a) (ni b) = .ok (.imm (ni (a - b))) := by
  show vI ((a : Int) - b) = .ok (.imm (.int ((a - b : Nat) : Int)))
  rw [Int.ofNat_sub h]
  rfl
theorem ni_pow {a b : Nat} (hb : b ≤ 1000000) (ha : a < 2 ^ 64) : opPow (ni a) (ni b) = .ok (.imm (ni (a ^ b))) := by
  show (if 0 ≤ (b : Int) ∧ (b : Int).natAbs ≤ 1000000 ∧ (a : Int).natAbs < 2 ^ 64 then vI ((a : Int) ^ (b : Int).toNat) else .bad) = .ok (.imm (.int ((a ^ b : Nat) : Int)))
  rw [if_pos ⟨by omega, by simpa using hb, by simpa using ha⟩, Int.natCast_pow]
  rfl
theorem ni_gt (a c : Nat) : opGt (ni a) (ni c) = .ok (.imm (.bl (decide (c < a)))) := by
  show vB (decide ((c : Int) < (a : Int))) = _
  unfold vB
  congr 3
  simp
theorem ni_lt (a c : Nat) : opLt (ni a) (ni c) = .ok (.imm (.bl (decide (a < c)))) := by
  show vB (decide ((a : Int) < (c : Int))) = _
  unfold vB
  congr 3
  simp
theorem ni_le (a c : Nat) : opLe (ni a) (ni c) = .ok (.imm (.bl (decide (a ≤ c)))) := by
  show vB (decide ((a : Int) ≤ (c : Int))) = _
  unfold vB
  congr 3
  simp
theorem ni_ge (a c : Nat) : opGe (ni a) (ni c) = .ok (.imm (.bl (decide (c ≤ a)))) := by
  show vB (decide ((c : Int) ≤ (a : Int))) = _
  unfold vB
  congr 3
  simp
theorem ni_neg (a : Nat) : opNeg (ni a) = .ok (.imm (.int (-(a : Int)))) := rfl
theorem ni_abs (a : Nat) : bAbs [ni a] = .ok (.imm (ni a)) := by
  show vI (if (a : Int) < 0 then -(a : Int) else a) = _
  rw [if_neg (by omega)]
  rfl
theorem ni_int (a : Nat) : bInt [ni a] = .ok (.imm (ni a)) := rfl
theorem eqv_ni (a b : Nat) : PyData.eqv (.int a) (.int b) = decide (a = b) := by
  show ((a : Int) == b) = _
  by_cases h : a = b
  · subst h; simp
  · rw [decide_eq_false h]
    simp
    omega
theorem ni_eq (a b : Nat) : eqS false (ni a) (ni b) = .ok (.imm (.bl (decide (a = b)))) := by
  show vB (PyData.eqv (.int a) (.int b)) = _
  rw [eqv_ni]
  rfl
theorem ni_ne (a b : Nat) : eqS true (ni a) (ni b) = .ok (.imm (.bl (!decide (a = b)))) := by
  show vB (!PyData.eqv (.int a) (.int b)) = _
  rw [eqv_ni]
  rfl
theorem ni_isi (a : Nat) : isiD "int" (ni a) = .ok (.imm (.bl true)) := by
  have h : kitB "int" "int" = some true := by decide +kernel
  show (match (some "int").bind fun t => kitB t "int" with
    | some b => vB b
    | none => .bad) = _
  rw [show ((some "int").bind fun t => kitB t "int") = some true from h]
  rfl
theorem ni_isb (a : Nat) : isiD "bool" (ni a) = .ok (.imm (.bl false)) := by
  have h : kitB "int" "bool" = some false := by decide +kernel
  show (match (some "int").bind fun t => kitB t "bool" with
    | some b => vB b
    | none => .bad) = _
  rw [show ((some "int").bind fun t => kitB t "bool") = some false from h]
  rfl
theorem bLen_l (ds : List Dt) : bLen [.lst ds] = .ok (.imm (ni ds.length)) := rfl
theorem bLen_t (ds : List Dt) : bLen [.tup ds] = .ok (.imm (ni ds.length)) := rfl
theorem ix_l {ds : List Dt} {k : Nat} {d : Dt} (h : ds[k]? = some d) : opIx (.lst ds) (ni k) = .ok (.imm d) := by
  show (match L2.atI ds (k : Int) with
    | some d => Res.ok (Val.imm d)
    | none => Res.bad) = _
  rw [L2.atI_nat h]
theorem ix_t {ds : List Dt} {k : Nat} {d : Dt} (h : ds[k]? = some d) : opIx (.tup ds) (ni k) = .ok (.imm d) := by
  show (match L2.atI ds (k : Int) with
    | some d => Res.ok (Val.imm d)
    | none => Res.bad) = _
  rw [L2.atI_nat h]
theorem ixt0 (x : Dt) (xs : List Dt) : opIx (.tup (x :: xs)) (ni 0) = .ok (.imm x) := ix_t rfl
theorem ixt1 (x y : Dt) (xs : List Dt) : opIx (.tup (x :: y :: xs)) (ni 1) = .ok (.imm y) := ix_t rfl
theorem ixl0 (x : Dt) (xs : List Dt) : opIx (.lst (x :: xs)) (ni 0) = .ok (.imm x) := ix_l rfl
theorem ixl1 (x y : Dt) (xs : List Dt) : opIx (.lst (x :: y :: xs)) (ni 1) = .ok (.imm y) := ix_l rfl
theorem ixl2 (x y z : Dt) (xs : List Dt) : opIx (.lst (x :: y :: z :: xs)) (ni 2) = .ok (.imm z) := ix_l rfl
theorem putN {ds : List Dt} {k : Nat} (x : Dt) (h : k < ds.length) : putD (ni k) x (.lst ds) = some (.lst (ds.set k x)) := by
  have e : L2.ixN ds.length (k : Int) = some k := by
    unfold L2.ixN
    have : (k : Int) < (ds.length : Int) := by omega
    simp [this]
  show (match L2.ixN ds.length (k : Int) with
      | some j => some (Dt.lst (ds.set j x))
      | none => none) = _
  rw [e]
theorem put1 (x a b c : Dt) : putD (ni 1) x (.lst [a, b, c]) = some (.lst [a, x, c]) := putN x (by simp)
theorem put2 (x a b c : Dt) : putD (ni 2) x (.lst [a, b, c]) = some (.lst [a, b, x]) := putN x (by simp)
theorem lit0 : Dt.int 0 = ni 0 := rfl
theorem lit1 : Dt.int 1 = ni 1 := rfl
theorem lit2 : Dt.int 2 = ni 2 := rfl
theorem lit3 : Dt.int 3 = ni 3 := rfl
theorem lit5 : Dt.int 5 = ni 5 := rfl
theorem lit10 : Dt.int 10 = ni 10 := rfl
theorem lit18 : Dt.int 18 = ni 18 := rfl
theorem lit64 : Dt.int 64 = ni 64 := rfl
theorem i_abs (c : Int) : bAbs [.int c] = .ok (.imm (ni c.natAbs)) := by
  show vI (if c < 0 then -c else c) = .ok (.imm (.int (c.natAbs : Int)))
  have : (if c < 0 then -c else c) = (c.natAbs : Int) := by split <;> omega
  rw [this]
  rfl
theorem i_mod (c : Int) {p : Nat} (hp : 0 < p) : opMod (.int c) (ni p) = .ok (.imm (ni (c % p).toNat)) := by
  show (if (p : Int) ≠ 0 then vI (Int.fmod c p) else .bad) = .ok (.imm (.int ((c % p).toNat : Int)))
  rw [if_pos (by omega), Int.fmod_eq_emod_of_nonneg _ (by omega), Int.toNat_of_nonneg (Int.emod_nonneg _ (by omega))]
  rfl
theorem i_mod_lt (c : Int) {p : Nat} (hp : 0 < p) : (c % p).toNat < p := by
  have h1 := Int.emod_nonneg c (show (p : Int) ≠ 0 by omega)
  have h2 := Int.emod_lt_of_pos c (show (0 : Int) < p by omega)
  omega
theorem i_lt0 (c : Int) : opLt (.int c) (ni 0) = .ok (.imm (.bl (decide (c < 0)))) := rfl
theorem i_int (c : Int) : bInt [.int c] = .ok (.imm (.int c)) := rfl
theorem b_int (b : Bool) : bInt [.bl b] = .ok (.imm (ni (if b = true then 1 else 0))) := by cases b <;> rfl
theorem str_ne (x : Str) : eqS true (.str x) (.str x) = .ok (.imm (.bl false)) := by
  show vB (!decide (V.str x = V.str x)) = _
  rw [decide_eq_true rfl]
  rfl
theorem dps_ints : ∀ cs : List Int, dToPs (cs.map .int) = some (cs.map .int)
  | [] => rfl
  | c :: cs => by
    have ih := dps_ints cs
    simp [dToPs, dToP, ih]
theorem eq_nil (cs : List Int) : eqS false (.lst (cs.map .int)) (.lst []) = .ok (.imm (.bl cs.isEmpty)) := by
  have h1 : dToP (.lst (cs.map .int)) = some (.list (cs.map .int)) := by simp [dToP, dps_ints]
  have h2 : dToP (.lst []) = some (.list []) := rfl
  show eqD false _ _ = _
  unfold eqD
  rw [h1, h2]
  have sh : ∀ cs : List Int, PyData.canLayAll0 (cs.map PyData.int) = true ∧ PyData.depthAll (cs.map PyData.int) = 0 := fun cs => by
    induction cs with
    | nil => exact ⟨by simp [PyData.canLayAll0], by simp [PyData.depthAll]⟩
    | cons c cs ih => exact ⟨by simp [PyData.canLayAll0, PyData.canLay0, ih.1], by simp [PyData.depthAll, PyData.depth, ih.2]⟩
  have h3 : SeqAt.shaped (.list (cs.map .int)) = true := by simp [SeqAt.shaped, PyData.canLay0, PyData.depth, (sh cs).1, (sh cs).2]
  have h4 : SeqAt.shaped (.list []) = true := by simp [SeqAt.shaped, PyData.canLay0, PyData.depth, PyData.canLayAll0, PyData.depthAll]
  simp only [h3, h4, Bool.and_self, if_true]
  cases cs with
  | nil => rfl
  | cons c cs => rfl
def drawB (p1 c1 c2 p2 c3 p3 : Int) : DS := (sSeq (sSet 2 (dCallB bInt (aCons (dIxS 0 (dC (.int 2))) aNil)))
    (sSeq (sIf (dTest (dBin opGt (dVar 2) (dC (.int 0)))) (sSeq (sPut 0 (dC (.int 2)) (dBin opFDiv (dVar 2) (dVar 1)))
    (sRet (dBin opMod (dVar 2) (dVar 1)))) sNext)
    (sSeq (sIf (dTest (dBin (eqS false) (dIxS 0 (dC (.int 0))) (dLst aNil))) (sRet (dC (.int 0))) sNext)
    (sSeq (sSet 3 (dIxS 0 (dC (.int 1))))
    (sSeq (sPut 0 (dC (.int 1)) (dBin opAdd (dVar 3) (dC (.int 1))))
    (sSeq (sSet 4 (dBin opIx (dIxS 0 (dC (.int 0))) (dBin opMod (dCallB bInt (aCons (dVar 3) aNil)) (dCallB bLen (aCons (dIxS 0 (dC (.int 0))) aNil)))))
    (sSeq (sIf (tAndD (dTest (dBin opLt (dVar 3) (dCallB bLen (aCons (dIxS 0 (dC (.int 0))) aNil)))) (dTest (dBin opGe (dCallB bAbs (aCons (dVar 4) aNil)) (dBin opPow (dC (.int 10)) (dC (.int 18)))))) (sSeq (sSet 2 (dBin opAdd (dBin opMul (dC (.int 2)) (dBin opSub (dCallB bAbs (aCons (dVar 4) aNil)) (dBin opPow (dC (.int 10)) (dC (.int 18))))) (dCallB bInt (aCons (dBin opLt (dVar 4) (dC (.int 0))) aNil))))
    (sSeq (sPut 0 (dC (.int 2)) (dBin opFDiv (dVar 2) (dVar 1)))
    (sRet (dBin opMod (dVar 2) (dVar 1))))) sNext)
    (sSeq (sSet 5 (dBin opMod (dCallB bInt (aCons (dBin opPow (dBin opAdd (dBin opAdd (dBin opMod (dCallB bInt (aCons (dVar 4) aNil)) (dC (.int p1))) (dBin opMul (dC (.int c1)) (dVar 3))) (dC (.int c2))) (dC (.int 5))) aNil)) (dC (.int p2))))
    (sSeq (sSet 5 (dBin opMod (dCallB bInt (aCons (dBin opPow (dBin opAdd (dBin opAdd (dBin opMul (dVar 5) (dBin opAdd (dBin opMul (dC (.int 2)) (dVar 3)) (dC (.int c3)))) (dBin opMul (dBin opMul (dC (.int c1)) (dVar 3)) (dVar 3))) (dC (.int c2))) (dC (.int 3))) aNil)) (dC (.int p3))))
    (sRet (dBin opMod (dCallB bInt (aCons (dBin opFDiv (dVar 5) (dC (.int 64))) aNil)) (dVar 1))))))))))))
/-- the pen: cells, place, what is left -/
def PenD (cs : List Int) (p r : Nat) : Dt := .lst [.lst (cs.map .int), ni p, ni r]
theorem draw_ok {p1 c1 c2 p2 c3 p3 : Nat} (h1 : 0 < p1 ∧ p1 < 2 ^ 32) (g1 : c1 < 2 ^ 20) (g2 : c2 < 2 ^ 20) (h2 : 0 < p2 ∧ p2 < 2 ^ 32) (g3 : c3 < 2 ^ 20) (h3 : 0 < p3 ∧ p3 < 2 ^ 32) {cs : List Int} {pl rest many : Nat} (hm : 0 < many) (hm2 : many < 2 ^ 64) (hpl : pl < 2 ^ 10) :
    ∃ r pl' rest', r < many ∧ pl' ≤ pl + 1 ∧ runF true 6 (drawB p1 c1 c2 p2 c3 p3) [PenD cs pl rest, ni many] = .ok (.imm (ni r), some (PenD cs pl' rest')) := by
  have hm3 : many < 2 ^ 9000 := Nat.lt_of_lt_of_le hm2 (Nat.pow_le_pow_right (by decide) (by decide))
  have M := fun a => ni_mod (a := a) hm
  have D := fun a => ni_fdivy (a := a) hm hm3
  by_cases hr : 0 < rest
  · refine ⟨rest % many, pl, rest / many, Nat.mod_lt _ hm, Nat.le_succ _, ?_⟩
    unfold drawB PenD
    simp [dTest, dBin, dVar, dC, dMove, dUn, dIf, dTru, dAnd, dOr, dNot, tAndD, tOrD, tNotD, dTup, dLst, aCons, aNil, aStar, dCallB, dCall, dIxS, asB, asTru, truD, Val.d, sSeq, seqK, sIf, sRet, sRetN, sExpr, sSet, setVal, sAsg, gDone, sPar, sNext, itRng1, itRng2, itSeq, gSet, gTupD, gsCons, gsNil, canSet, slotD, seqD, Src.d, Src.ok, asRes, runF, env0, outOf, sizeLine, Res.map, ni_add, ni_gt, ni_lt, ni_le, ni_ge, ni_abs, ni_int, ni_eq, ni_ne, ni_isi, ni_isb, bLen_l, bLen_t, ixt0, ixt1, ixl0, ixl1, ixl2, lit0, lit1, lit2, sPut, isLst, slotWr, put2, hr, M, D]
  · have hr0 : rest = 0 := by omega
    subst hr0
    by_cases hc : cs = []
    · subst hc
      refine ⟨0, pl, 0, hm, Nat.le_succ _, ?_⟩
      have e := eq_nil []
      unfold drawB PenD
      simp only [List.map_nil, List.isEmpty_nil] at e ⊢
      simp [dTest, dBin, dVar, dC, dMove, dUn, dIf, dTru, dAnd, dOr, dNot, tAndD, tOrD, tNotD, dTup, dLst, aCons, aNil, aStar, dCallB, dCall, dIxS, asB, asTru, truD, Val.d, sSeq, seqK, sIf, sRet, sRetN, sExpr, sSet, setVal, sAsg, gDone, sPar, sNext, itRng1, itRng2, itSeq, gSet, gTupD, gsCons, gsNil, canSet, slotD, seqD, Src.d, Src.ok, asRes, runF, env0, outOf, sizeLine, Res.map, ni_add, ni_gt, ni_lt, ni_le, ni_ge, ni_abs, ni_int, ni_eq, ni_ne, ni_isi, ni_isb, bLen_l, bLen_t, ixt0, ixt1, ixl0, ixl1, ixl2, lit0, lit1, lit2, sPut, isLst, slotWr, e]
    · have hl : 0 < cs.length := List.length_pos_iff.mpr hc
      have e := eq_nil cs
      have hne : cs.isEmpty = false := by simpa using hc
      rw [hne] at e
      have Ml := ni_mod (a := pl) hl
      have hix : pl % cs.length < cs.length := Nat.mod_lt _ hl
      have X := ix_l (ds := cs.map .int) (k := pl % cs.length) (d := .int cs[pl % cs.length]) (by simp [hix])
      generalize cs[pl % cs.length] = c at X
      have P10 := ni_pow (a := 10) (b := 18) (by decide) (by decide)
      by_cases hbig : pl < cs.length ∧ 10 ^ 18 ≤ c.natAbs
      · have S := ni_sub hbig.2
        have S2 := ni_mulL (a := 2) (b := c.natAbs - 10 ^ 18) (by decide)
        refine ⟨(2 * (c.natAbs - 10 ^ 18) + (if c < 0 then 1 else 0)) % many, pl + 1, (2 * (c.natAbs - 10 ^ 18) + (if c < 0 then 1 else 0)) / many, Nat.mod_lt _ hm, Nat.le_refl _, ?_⟩
        have q2 : 1000000000000000000 ≤ c.natAbs := hbig.2
        have q1 : pl < cs.length := hbig.1
        simp only [show (10 : Nat) ^ 18 = 1000000000000000000 from rfl] at P10 S S2
        unfold drawB PenD
        simp [dTest, dBin, dVar, dC, dMove, dUn, dIf, dTru, dAnd, dOr, dNot, tAndD, tOrD, tNotD, dTup, dLst, aCons, aNil, aStar, dCallB, dCall, dIxS, asB, asTru, truD, Val.d, sSeq, seqK, sIf, sRet, sRetN, sExpr, sSet, setVal, sAsg, gDone, sPar, sNext, itRng1, itRng2, itSeq, gSet, gTupD, gsCons, gsNil, canSet, slotD, seqD, Src.d, Src.ok, asRes, runF, env0, outOf, sizeLine, Res.map, ni_add, ni_gt, ni_lt, ni_le, ni_ge, ni_abs, ni_int, ni_eq, ni_ne, ni_isi, ni_isb, bLen_l, bLen_t, ixt0, ixt1, ixl0, ixl1, ixl2, lit0, lit1, lit2, lit3, lit5, lit10, lit18, lit64, sPut, isLst, slotWr, put1, put2, e, X, Ml, i_abs, i_lt0, b_int, P10, S, S2, q1, q2, M, D]
      · have x1 := i_mod_lt c h1.1
        have bnd : c1 * pl < 2 ^ 30 := by
          have := Nat.mul_lt_mul_of_lt_of_lt g1 hpl
          rw [← Nat.pow_add] at this
          exact this
        have m1 := ni_mulL (a := c1) (b := pl) (by omega)
        have e1 := i_mod c h1.1
        generalize (c % p1).toNat = x at x1 e1
        have w1 := ni_pow (a := x + c1 * pl + c2) (b := 5) (by decide) (by omega)
        have e2 := ni_mod (a := (x + c1 * pl + c2) ^ 5) h2.1
        have x2 := Nat.mod_lt ((x + c1 * pl + c2) ^ 5) h2.1
        generalize (x + c1 * pl + c2) ^ 5 % p2 = y at e2 x2
        have m2 := ni_mulL (a := 2) (b := pl) (by decide)
        have m3 := ni_mulL (a := y) (b := 2 * pl + c3) (by omega)
        have b4 : c1 * pl * pl < 2 ^ 40 := by
          have := Nat.mul_lt_mul_of_lt_of_lt bnd hpl
          rw [← Nat.pow_add] at this
          exact this
        have m4 := ni_mulL (a := c1 * pl) (b := pl) (by omega)
        have b5 : y * (2 * pl + c3) < 2 ^ 53 := by
          have := Nat.mul_lt_mul_of_lt_of_lt (a := y) (c := 2 ^ 32) (b := 2 * pl + c3) (d := 2 ^ 21) (by omega) (by omega)
          rw [← Nat.pow_add] at this
          exact this
        have w2 := ni_pow (a := y * (2 * pl + c3) + c1 * pl * pl + c2) (b := 3) (by decide) (by omega)
        have e3 := ni_mod (a := (y * (2 * pl + c3) + c1 * pl * pl + c2) ^ 3) h3.1
        generalize (y * (2 * pl + c3) + c1 * pl * pl + c2) ^ 3 % p3 = z at e3
        have d64 := ni_fdivy (a := z) (b := 64) (by decide) (by decide)
        refine ⟨z / 64 % many, pl + 1, 0, Nat.mod_lt _ hm, Nat.le_refl _, ?_⟩
        simp only [show (10 : Nat) ^ 18 = 1000000000000000000 from rfl] at P10 hbig
        have hb : ¬ (pl < cs.length ∧ 1000000000000000000 ≤ c.natAbs) := hbig
        unfold drawB PenD
        by_cases q1 : pl < cs.length
        · have q2 : ¬ 1000000000000000000 ≤ c.natAbs := fun h => hb ⟨q1, h⟩
          simp [dTest, dBin, dVar, dC, dMove, dUn, dIf, dTru, dAnd, dOr, dNot, tAndD, tOrD, tNotD, dTup, dLst, aCons, aNil, aStar, dCallB, dCall, dIxS, asB, asTru, truD, Val.d, sSeq, seqK, sIf, sRet, sRetN, sExpr, sSet, setVal, sAsg, gDone, sPar, sNext, itRng1, itRng2, itSeq, gSet, gTupD, gsCons, gsNil, canSet, slotD, seqD, Src.d, Src.ok, asRes, runF, env0, outOf, sizeLine, Res.map, ni_add, ni_gt, ni_lt, ni_le, ni_ge, ni_abs, ni_int, ni_eq, ni_ne, ni_isi, ni_isb, bLen_l, bLen_t, ixt0, ixt1, ixl0, ixl1, ixl2, lit0, lit1, lit2, ← ni_def, lit3, lit5, lit10, lit18, lit64, sPut, isLst, slotWr, put1, put2, e, X, Ml, i_abs, i_int, i_lt0, b_int, P10, q1, q2, m1, e1, w1, e2, m2, m3, m4, w2, e3, d64, M, D]
        · simp [dTest, dBin, dVar, dC, dMove, dUn, dIf, dTru, dAnd, dOr, dNot, tAndD, tOrD, tNotD, dTup, dLst, aCons, aNil, aStar, dCallB, dCall, dIxS, asB, asTru, truD, Val.d, sSeq, seqK, sIf, sRet, sRetN, sExpr, sSet, setVal, sAsg, gDone, sPar, sNext, itRng1, itRng2, itSeq, gSet, gTupD, gsCons, gsNil, canSet, slotD, seqD, Src.d, Src.ok, asRes, runF, env0, outOf, sizeLine, Res.map, ni_add, ni_gt, ni_lt, ni_le, ni_ge, ni_abs, ni_int, ni_eq, ni_ne, ni_isi, ni_isb, bLen_l, bLen_t, ixt0, ixt1, ixl0, ixl1, ixl2, lit0, lit1, lit2, ← ni_def, lit3, lit5, lit10, lit18, lit64, sPut, isLst, slotWr, put1, put2, e, X, Ml, i_abs, i_int, i_lt0, b_int, P10, q1, m1, e1, w1, e2, m2, m3, m4, w2, e3, d64, M, D]
end G


set_option maxRecDepth 100000
set_option maxHeartbeats 4000000
set_option exponentiation.threshold 30000
namespace G
open PySem PySem.Spec PyProof.Rows L2
theorem common_loop : ∀ (n a b : Nat), b < n → sWhile (dTest (dBin opGt (dVar 1) (dC (.int 0)))) (sPar 0 1 (aCons (dVar 1) (aCons (dBin opMod (dVar 0) (dVar 1)) aNil))) n [.imm (ni a), .imm (ni b)] = .ok (.nx, [.imm (ni (Nat.gcd a b)), .imm (ni 0)])
  | 0, a, b, h => absurd h (Nat.not_lt_zero _)
  | n + 1, a, b, h => by
    unfold sWhile
    by_cases hb : b = 0
    · subst hb
      simp [dTest, dBin, dVar, dC, dMove, dUn, dIf, dTru, dAnd, dOr, dNot, tAndD, tOrD, tNotD, dTup, dLst, aCons, aNil, aStar, dCallB, dCall, dIxS, asB, asTru, truD, Val.d, sSeq, seqK, sIf, sRet, sRetN, sExpr, sSet, setVal, sAsg, gDone, sPar, sNext, itRng1, itRng2, itSeq, gSet, gTupD, gsCons, gsNil, canSet, slotD, seqD, Src.d, Src.ok, asRes, runF, env0, outOf, sizeLine, Res.map, ni_add, ni_gt, ni_lt, ni_le, ni_ge, ni_abs, ni_int, ni_eq, ni_ne, ni_isi, ni_isb, bLen_l, bLen_t, ixt0, ixt1, ixl0, ixl1, ixl2, lit0, lit1, lit2]
    · have hp : 0 < b := Nat.pos_of_ne_zero hb
      have ih := common_loop n b (a % b) (by have := Nat.mod_lt a hp; omega)
      have hg : Nat.gcd b (a % b) = Nat.gcd a b := by
        rw [Nat.gcd_comm b, ← Nat.gcd_rec, Nat.gcd_comm]
      rw [hg] at ih
      simp only [lit0] at ih
      simp [dTest, dBin, dVar, dC, dMove, dUn, dIf, dTru, dAnd, dOr, dNot, tAndD, tOrD, tNotD, dTup, dLst, aCons, aNil, aStar, dCallB, dCall, dIxS, asB, asTru, truD, Val.d, sSeq, seqK, sIf, sRet, sRetN, sExpr, sSet, setVal, sAsg, gDone, sPar, sNext, itRng1, itRng2, itSeq, gSet, gTupD, gsCons, gsNil, canSet, slotD, seqD, Src.d, Src.ok, asRes, runF, env0, outOf, sizeLine, Res.map, ni_add, ni_gt, ni_lt, ni_le, ni_ge, ni_abs, ni_int, ni_eq, ni_ne, ni_isi, ni_isb, bLen_l, bLen_t, ixt0, ixt1, ixl0, ixl1, ixl2, lit0, lit1, lit2, ni_mod hp, hp, ih]
theorem low_loop (x y : Slot) : ∀ (n a b : Nat), b < n → sWhile (dTest (dBin opGt (dVar 3) (dC (.int 0)))) (sPar 2 3 (aCons (dVar 3) (aCons (dBin opMod (dCallB bInt (aCons (dVar 2) aNil)) (dVar 3)) aNil))) n [x, y, .imm (ni a), .imm (ni b)] = .ok (.nx, [x, y, .imm (ni (Nat.gcd a b)), .imm (ni 0)])
  | 0, a, b, h => absurd h (Nat.not_lt_zero _)
  | n + 1, a, b, h => by
    unfold sWhile
    by_cases hb : b = 0
    · subst hb
      simp [dTest, dBin, dVar, dC, dMove, dUn, dIf, dTru, dAnd, dOr, dNot, tAndD, tOrD, tNotD, dTup, dLst, aCons, aNil, aStar, dCallB, dCall, dIxS, asB, asTru, truD, Val.d, sSeq, seqK, sIf, sRet, sRetN, sExpr, sSet, setVal, sAsg, gDone, sPar, sNext, itRng1, itRng2, itSeq, gSet, gTupD, gsCons, gsNil, canSet, slotD, seqD, Src.d, Src.ok, asRes, runF, env0, outOf, sizeLine, Res.map, ni_add, ni_gt, ni_lt, ni_le, ni_ge, ni_abs, ni_int, ni_eq, ni_ne, ni_isi, ni_isb, bLen_l, bLen_t, ixt0, ixt1, ixl0, ixl1, ixl2, lit0, lit1, lit2]
    · have hp : 0 < b := Nat.pos_of_ne_zero hb
      have ih := low_loop x y n b (a % b) (by have := Nat.mod_lt a hp; omega)
      have hg : Nat.gcd b (a % b) = Nat.gcd a b := by
        rw [Nat.gcd_comm b, ← Nat.gcd_rec, Nat.gcd_comm]
      rw [hg] at ih
      simp only [lit0] at ih
      simp [dTest, dBin, dVar, dC, dMove, dUn, dIf, dTru, dAnd, dOr, dNot, tAndD, tOrD, tNotD, dTup, dLst, aCons, aNil, aStar, dCallB, dCall, dIxS, asB, asTru, truD, Val.d, sSeq, seqK, sIf, sRet, sRetN, sExpr, sSet, setVal, sAsg, gDone, sPar, sNext, itRng1, itRng2, itSeq, gSet, gTupD, gsCons, gsNil, canSet, slotD, seqD, Src.d, Src.ok, asRes, runF, env0, outOf, sizeLine, Res.map, ni_add, ni_gt, ni_lt, ni_le, ni_ge, ni_abs, ni_int, ni_eq, ni_ne, ni_isi, ni_isb, bLen_l, bLen_t, ixt0, ixt1, ixl0, ixl1, ixl2, lit0, lit1, lit2, ni_mod hp, hp, ih]
theorem common_ok {a b : Nat} (h : b < 2 ^ 20000) : F_common [ni a, ni b] = .ok (.imm (ni (Nat.gcd a b)), none) := by
  have l := common_loop fuel a b h
  unfold F_common b_common
  simp only [lit0] at l ⊢
  simp [dTest, dBin, dVar, dC, dMove, dUn, dIf, dTru, dAnd, dOr, dNot, tAndD, tOrD, tNotD, dTup, dLst, aCons, aNil, aStar, dCallB, dCall, dIxS, asB, asTru, truD, Val.d, sSeq, seqK, sIf, sRet, sRetN, sExpr, sSet, setVal, sAsg, gDone, sPar, sNext, itRng1, itRng2, itSeq, gSet, gTupD, gsCons, gsNil, canSet, slotD, seqD, Src.d, Src.ok, asRes, runF, env0, outOf, sizeLine, Res.map, ni_add, ni_gt, ni_lt, ni_le, ni_ge, ni_abs, ni_int, ni_eq, ni_ne, ni_isi, ni_isb, bLen_l, bLen_t, ixt0, ixt1, ixl0, ixl1, ixl2, lit0, lit1, lit2, l]
def numD (p : Nat × Nat) : Dt := if p.2 = 1 then ni p.1 else .tup [ni p.1, ni p.2]
def pairD (p : Nat × Nat) : Dt := .tup [ni p.1, ni p.2]
theorem lowest_ok {a b : Nat} (hb : 0 < b) (ha' : a < 2 ^ 13500) (hb' : b < 2 ^ 13500) : F_lowest [ni a, ni b] = .ok (.imm (numD (red a b)), none) := by
  have c := common_ok (a := a) (b := b) (Nat.lt_of_lt_of_le hb' (Nat.pow_le_pow_right (by decide) (by decide)))
  have g : 0 < Nat.gcd a b := Nat.gcd_pos_of_pos_right a hb
  have d1 := ni_fdivx g ha'
  have d2 := ni_fdivx g hb'
  unfold F_lowest b_lowest numD red
  by_cases h : b / Nat.gcd a b = 1
  · simp [dTest, dBin, dVar, dC, dMove, dUn, dIf, dTru, dAnd, dOr, dNot, tAndD, tOrD, tNotD, dTup, dLst, aCons, aNil, aStar, dCallB, dCall, dIxS, asB, asTru, truD, Val.d, sSeq, seqK, sIf, sRet, sRetN, sExpr, sSet, setVal, sAsg, gDone, sPar, sNext, itRng1, itRng2, itSeq, gSet, gTupD, gsCons, gsNil, canSet, slotD, seqD, Src.d, Src.ok, asRes, runF, env0, outOf, sizeLine, Res.map, ni_add, ni_gt, ni_lt, ni_le, ni_ge, ni_abs, ni_int, ni_eq, ni_ne, ni_isi, ni_isb, bLen_l, bLen_t, ixt0, ixt1, ixl0, ixl1, ixl2, lit0, lit1, lit2, c, d1, d2, h]
  · simp [dTest, dBin, dVar, dC, dMove, dUn, dIf, dTru, dAnd, dOr, dNot, tAndD, tOrD, tNotD, dTup, dLst, aCons, aNil, aStar, dCallB, dCall, dIxS, asB, asTru, truD, Val.d, sSeq, seqK, sIf, sRet, sRetN, sExpr, sSet, setVal, sAsg, gDone, sPar, sNext, itRng1, itRng2, itSeq, gSet, gTupD, gsCons, gsNil, canSet, slotD, seqD, Src.d, Src.ok, asRes, runF, env0, outOf, sizeLine, Res.map, ni_add, ni_gt, ni_lt, ni_le, ni_ge, ni_abs, ni_int, ni_eq, ni_ne, ni_isi, ni_isb, bLen_l, bLen_t, ixt0, ixt1, ixl0, ixl1, ixl2, lit0, lit1, lit2, c, d1, d2, h]
theorem low_ok {a b : Nat} (hb : 0 < b) (hb' : b < 2 ^ 20000) (hg : Nat.gcd a b < 2 ^ 9000) : F__law_low [ni a, ni b] = .ok (.imm (pairD (red a b)), none) := by
  have l := low_loop (.imm (ni a)) (.imm (ni b)) fuel a b hb'
  have g : 0 < Nat.gcd a b := Nat.gcd_pos_of_pos_right a hb
  have d1 := ni_fdivy (a := a) g hg
  have d2 := ni_fdivy (a := b) g hg
  unfold F__law_low b__law_low pairD red
  simp only [lit0] at l ⊢
  simp [dTest, dBin, dVar, dC, dMove, dUn, dIf, dTru, dAnd, dOr, dNot, tAndD, tOrD, tNotD, dTup, dLst, aCons, aNil, aStar, dCallB, dCall, dIxS, asB, asTru, truD, Val.d, sSeq, seqK, sIf, sRet, sRetN, sExpr, sSet, setVal, sAsg, gDone, sPar, sNext, itRng1, itRng2, itSeq, gSet, gTupD, gsCons, gsNil, canSet, slotD, seqD, Src.d, Src.ok, asRes, runF, env0, outOf, sizeLine, Res.map, ni_add, ni_gt, ni_lt, ni_le, ni_ge, ni_abs, ni_int, ni_eq, ni_ne, ni_isi, ni_isb, bLen_l, bLen_t, ixt0, ixt1, ixl0, ixl1, ixl2, lit0, lit1, lit2, l, d1, d2, hb]
theorem up2 {x : Nat} (h : x < 2 ^ 10000) : x < 2 ^ 20000 := Nat.lt_of_lt_of_le h (Nat.pow_le_pow_right (by decide) (by decide))
theorem mul2 {b d : Nat} (hb : b < 2 ^ 10000) (hd : d < 2 ^ 10000) : b * d < 2 ^ 20000 := by
  have := Nat.mul_lt_mul_of_lt_of_lt hb hd
  rw [← Nat.pow_add, show 10000 + 10000 = 20000 from rfl] at this
  exact this
theorem times_ok {a b c d : Nat} (ha : a < 2 ^ 10000) (hb : b < 2 ^ 10000) (hc : c < 2 ^ 10000) (hd : d < 2 ^ 10000) (h1 : 0 < b) (h2 : 0 < d) (hg : Nat.gcd (a * c) (b * d) < 2 ^ 9000) :
    F__law_times [.tup [ni a, ni b], .tup [ni c, ni d]] = .ok (.imm (pairD (red (a * c) (b * d))), none) := by
  have l := low_ok (Nat.mul_pos h1 h2) (mul2 hb hd) hg
  have m1 := ni_mul (up2 ha) (up2 hc)
  have m2 := ni_mul (up2 hb) (up2 hd)
  unfold F__law_times b__law_times
  simp [dTest, dBin, dVar, dC, dMove, dUn, dIf, dTru, dAnd, dOr, dNot, tAndD, tOrD, tNotD, dTup, dLst, aCons, aNil, aStar, dCallB, dCall, dIxS, asB, asTru, truD, Val.d, sSeq, seqK, sIf, sRet, sRetN, sExpr, sSet, setVal, sAsg, gDone, sPar, sNext, itRng1, itRng2, itSeq, gSet, gTupD, gsCons, gsNil, canSet, slotD, seqD, Src.d, Src.ok, asRes, runF, env0, outOf, sizeLine, Res.map, ni_add, ni_gt, ni_lt, ni_le, ni_ge, ni_abs, ni_int, ni_eq, ni_ne, ni_isi, ni_isb, bLen_l, bLen_t, ixt0, ixt1, ixl0, ixl1, ixl2, lit0, lit1, lit2, m1, m2, l]
theorem plus_ok {a b c d : Nat} (ha : a < 2 ^ 10000) (hb : b < 2 ^ 10000) (hc : c < 2 ^ 10000) (hd : d < 2 ^ 10000) (h1 : 0 < b) (h2 : 0 < d) (hg : Nat.gcd (a * d + c * b) (b * d) < 2 ^ 9000) :
    F__law_plus [.tup [ni a, ni b], .tup [ni c, ni d]] = .ok (.imm (pairD (red (a * d + c * b) (b * d))), none) := by
  have l := low_ok (Nat.mul_pos h1 h2) (mul2 hb hd) hg
  have m1 := ni_mul (up2 ha) (up2 hd)
  have m2 := ni_mul (up2 hc) (up2 hb)
  have m3 := ni_mul (up2 hb) (up2 hd)
  unfold F__law_plus b__law_plus
  simp [dTest, dBin, dVar, dC, dMove, dUn, dIf, dTru, dAnd, dOr, dNot, tAndD, tOrD, tNotD, dTup, dLst, aCons, aNil, aStar, dCallB, dCall, dIxS, asB, asTru, truD, Val.d, sSeq, seqK, sIf, sRet, sRetN, sExpr, sSet, setVal, sAsg, gDone, sPar, sNext, itRng1, itRng2, itSeq, gSet, gTupD, gsCons, gsNil, canSet, slotD, seqD, Src.d, Src.ok, asRes, runF, env0, outOf, sizeLine, Res.map, ni_add, ni_gt, ni_lt, ni_le, ni_ge, ni_abs, ni_int, ni_eq, ni_ne, ni_isi, ni_isb, bLen_l, bLen_t, ixt0, ixt1, ixl0, ixl1, ixl2, lit0, lit1, lit2, m1, m2, m3, l]
theorem number_ok (p : Nat × Nat) : F__law_number [pairD p] = .ok (.imm (numD p), none) := by
  unfold F__law_number b__law_number pairD numD
  by_cases h : p.2 = 1
  · simp [dTest, dBin, dVar, dC, dMove, dUn, dIf, dTru, dAnd, dOr, dNot, tAndD, tOrD, tNotD, dTup, dLst, aCons, aNil, aStar, dCallB, dCall, dIxS, asB, asTru, truD, Val.d, sSeq, seqK, sIf, sRet, sRetN, sExpr, sSet, setVal, sAsg, gDone, sPar, sNext, itRng1, itRng2, itSeq, gSet, gTupD, gsCons, gsNil, canSet, slotD, seqD, Src.d, Src.ok, asRes, runF, env0, outOf, sizeLine, Res.map, ni_add, ni_gt, ni_lt, ni_le, ni_ge, ni_abs, ni_int, ni_eq, ni_ne, ni_isi, ni_isb, bLen_l, bLen_t, ixt0, ixt1, ixl0, ixl1, ixl2, lit0, lit1, lit2, h]
  · simp [dTest, dBin, dVar, dC, dMove, dUn, dIf, dTru, dAnd, dOr, dNot, tAndD, tOrD, tNotD, dTup, dLst, aCons, aNil, aStar, dCallB, dCall, dIxS, asB, asTru, truD, Val.d, sSeq, seqK, sIf, sRet, sRetN, sExpr, sSet, setVal, sAsg, gDone, sPar, sNext, itRng1, itRng2, itSeq, gSet, gTupD, gsCons, gsNil, canSet, slotD, seqD, Src.d, Src.ok, asRes, runF, env0, outOf, sizeLine, Res.map, ni_add, ni_gt, ni_lt, ni_le, ni_ge, ni_abs, ni_int, ni_eq, ni_ne, ni_isi, ni_isb, bLen_l, bLen_t, ixt0, ixt1, ixl0, ixl1, ixl2, lit0, lit1, lit2, h]
theorem pair_le {p q : Nat × Nat} (h : p = q) : pairD p = pairD q := by rw [h]
/-! ### sums of pieces s_i / T -/
def sumB : DS := sSet 1 (dCall F__law_plus ⟨2, [], [.pos 0, .pos 1]⟩ (aCons (dVar 1) (aCons (dVar 2) aNil)) aNil)
/-- one over m is c over T -/
def Pc (T : Nat) (m c : Nat) : Prop := 0 < m ∧ m * c = T ∧ m < 2 ^ 9900
theorem sum_loop {T : Nat} (hT : 0 < T) (hT2 : T < 2 ^ 5900) (x : Slot) : ∀ (mc : List (Nat × Nat)) (s : Nat) (z : Slot), (∀ p ∈ mc, p.1 * p.2 = T ∧ 0 < p.1) → s + (mc.map (·.2)).sum ≤ 2 ^ 20 → (∀ e, z ≠ .io e) →
    ∃ z', sLoop (gSet 2) sumB (mc.map fun p => pairD (1, p.1)) [x, .imm (pairD (red s T)), z] = .ok (.nx, [x, .imm (pairD (red (s + (mc.map (·.2)).sum) T)), z']) 
  | [], s, z, _, _, _ => ⟨z, by simp [sLoop]⟩
  | (m, c) :: mc, s, z, h, hs, hz => by
    obtain ⟨h1, h2⟩ := h (m, c) List.mem_cons_self
    simp only at h1 h2
    simp only [List.map_cons, List.sum_cons] at hs
    have hc : c ≤ 2 ^ 20 := by omega
    have hm : m ≤ T := by
      rw [← h1]
      exact Nat.le_mul_of_pos_right m (Nat.pos_of_ne_zero fun e => by rw [e, Nat.mul_zero] at h1; omega)
    obtain ⟨r1, r2⟩ := red_le s T
    have rp := red_pos (a := s) hT
    have rc := red_cross s T
    have up : ∀ {x : Nat}, x < 2 ^ 5900 → x < 2 ^ 10000 := fun h => Nat.lt_of_lt_of_le h (Nat.pow_le_pow_right (by decide) (by decide))
    have s20 : s < 2 ^ 5900 := Nat.lt_of_le_of_lt (Nat.le_trans (Nat.le_add_right _ _) hs) (Nat.pow_lt_pow_right (by decide) (by decide))
    obtain ⟨z', ih⟩ := sum_loop hT hT2 x mc (s + c) (.imm (pairD (1, m))) (fun p hp => h p (List.mem_cons_of_mem _ hp)) (by omega) (fun e q => by cases q)
    generalize hA : (red s T).1 = A at *
    generalize hB : (red s T).2 = B at *
    have key : red (A * m + 1 * B) (B * m) = red (s + c) T := by
      refine red_of (Nat.mul_pos rp h2) hT ?_
      rw [← h1] at rc ⊢
      grind
    have gb : Nat.gcd (A * m + 1 * B) (B * m) < 2 ^ 9000 := by
      have g1 : Nat.gcd (A * m + 1 * B) (B * m) ≤ A * m + 1 * B := Nat.gcd_le_left _ (by omega)
      have g2 : A * m ≤ 2 ^ 20 * 2 ^ 5900 := Nat.mul_le_mul (by omega) (by omega)
      rw [← Nat.pow_add, show 20 + 5900 = 5920 from rfl] at g2
      have g3 : (2 : Nat) ^ 5920 + 2 ^ 5900 < 2 ^ 9000 := by
        have a1 : (2 : Nat) ^ 5900 < 2 ^ 5920 := Nat.pow_lt_pow_right (by decide) (by decide)
        have a2 : (2 : Nat) ^ 5921 < 2 ^ 9000 := Nat.pow_lt_pow_right (by decide) (by decide)
        have a3 : (2 : Nat) ^ 5921 = 2 ^ 5920 * 2 := Nat.pow_succ ..
        omega
      omega
    have pl := plus_ok (a := A) (b := B) (c := 1) (d := m) (up (by omega)) (up (by omega)) (Nat.one_lt_two_pow (by decide)) (up (by omega)) rp h2 gb
    rw [key] at pl
    refine ⟨z', ?_⟩
    have e1 : pairD (red s T) = .tup [ni A, ni B] := by unfold pairD; rw [hA, hB]
    rw [e1]
    have cs : canSet [x, .imm (pairD (red s T)), z] 2 = true := by
      cases z with
      | io e => exact absurd rfl (hz e)
      | _ => rfl
    have e2 : gSet 2 (pairD (1, m)) [x, .imm (pairD (red s T)), z] = .ok [x, .imm (pairD (red s T)), .imm (pairD (1, m))] := by
      unfold gSet
      rw [if_pos cs]
      rfl
    have e3 : sumB [x, .imm (pairD (red s T)), .imm (pairD (1, m))] = .ok (.nx, [x, .imm (pairD (red (s + c) T)), .imm (pairD (1, m))]) := by
      rw [e1]
      unfold sumB
      have e4 : pairD (1, m) = .tup [ni 1, ni m] := rfl
      rw [e4]
      simp [dTest, dBin, dVar, dC, dMove, dUn, dIf, dTru, dAnd, dOr, dNot, tAndD, tOrD, tNotD, dTup, dLst, aCons, aNil, aStar, dCallB, dCall, dIxS, asB, asTru, truD, Val.d, sSeq, seqK, sIf, sRet, sRetN, sExpr, sSet, setVal, sAsg, gDone, sPar, sNext, itRng1, itRng2, itSeq, gSet, gTupD, gsCons, gsNil, canSet, slotD, seqD, Src.d, Src.ok, asRes, runF, env0, outOf, sizeLine, Res.map, pl]
    rw [← e1, List.map_cons]
    unfold sLoop
    rw [e2]
    dsimp only
    rw [e3, Res.bind_ok]
    dsimp only
    rw [ih, List.map_cons, List.sum_cons, Nat.add_assoc]
theorem sum_ok {T : Nat} (hT : 0 < T) (hT2 : T < 2 ^ 5900) {mc : List (Nat × Nat)} (h : ∀ p ∈ mc, p.1 * p.2 = T ∧ 0 < p.1) (hs : (mc.map (·.2)).sum ≤ 2 ^ 20) :
    F__law_sum [.lst (mc.map fun p => pairD (1, p.1))] = .ok (.imm (pairD (red (mc.map (·.2)).sum T)), none) := by
  have z0 : red 0 T = (0, 1) := by
    unfold red
    rw [Nat.gcd_zero_left, Nat.zero_div, Nat.div_self hT]
  obtain ⟨z', l⟩ := sum_loop hT hT2 (.imm (.lst (mc.map fun p => pairD (1, p.1)))) mc 0 .un h (by omega) (fun e q => by cases q)
  rw [z0, Nat.zero_add] at l
  have e0 : pairD (0, 1) = .tup [ni 0, ni 1] := rfl
  rw [e0] at l
  unfold sumB at l
  unfold F__law_sum b__law_sum
  simp only [lit0, lit1] at l ⊢
  simp [dTest, dBin, dVar, dC, dMove, dUn, dIf, dTru, dAnd, dOr, dNot, tAndD, tOrD, tNotD, dTup, dLst, aCons, aNil, aStar, dCallB, dCall, dIxS, asB, asTru, truD, Val.d, sSeq, seqK, sIf, sRet, sRetN, sExpr, sSet, setVal, sAsg, gDone, sPar, sNext, itRng1, itRng2, itSeq, gSet, gTupD, gsCons, gsNil, canSet, slotD, seqD, Src.d, Src.ok, asRes, runF, env0, outOf, sizeLine, Res.map, sFor, l]
end G


set_option maxRecDepth 100000
set_option maxHeartbeats 4000000
set_option exponentiation.threshold 30000
namespace G
open PySem PySem.Spec PyProof.Rows L2
def NoIo (s : Slot) : Prop := ∀ e, s ≠ .io e
theorem noio_imm (d : Dt) : NoIo (.imm d) := fun e q => by cases q
theorem noio_un : NoIo .un := fun e q => by cases q
theorem noio_own (d : Dt) : NoIo (.own d) := fun e q => by cases q
theorem cs_of {env : Env'} {i : Nat} {s : Slot} (h : env[i]? = some s) (hs : NoIo s) : canSet env i = true := by
  unfold canSet
  rw [h]
  cases s with
  | io e => exact absurd rfl (hs e)
  | _ => rfl
theorem gset_ok {env : Env'} {i : Nat} {s : Slot} {d : Dt} (h : env[i]? = some s) (hs : NoIo s) : gSet i d env = .ok (env.set i (.imm d)) := by
  unfold gSet
  rw [if_pos (cs_of h hs)]
theorem rng_range (t : Nat) : ∀ (k : Nat), (List.range' t k).map ni = (List.range k).map fun i => ni (t + i) := fun k => by
  rw [List.range'_eq_map_range, List.map_map]
  rfl
theorem rngD_ni (n : Nat) : rngD 0 n = (List.range' 0 n).map ni := by
  rw [rng_range]
  unfold rngD
  apply List.map_congr_left
  intro i _
  show Dt.int (0 + (i : Int)) = Dt.int ((0 + i : Nat) : Int)
  rw [Int.zero_add, Nat.zero_add]
theorem pow_mono {a b : Nat} (h : a ≤ b) : (2 : Nat) ^ a ≤ 2 ^ b := Nat.pow_le_pow_right (by decide) h
def evenB : DS := sSeq (sSet 1 (dCall F__law_times ⟨2, [], [.pos 0, .pos 1]⟩ (aCons (dVar 1) (aCons (dTup (aCons (dBin opAdd (dVar 4) (dC (.int 1))) (aCons (dVar 2) aNil))) aNil)) aNil)) (sSet 2 (dBin opAdd (dVar 2) (dC (.int 1))))
theorem red_cancel {k M : Nat} (hk : 0 < k) (hM : 0 < M) : red k (k * M) = (1, M) := by
  rw [red_of (c := 1) (d := M) (Nat.mul_pos hk hM) hM (by grind), red_one]
theorem even_in {M m A : Nat} (hM : 0 < M) (hA : M ≤ 2 ^ A) (hA2 : A + 1170 ≤ 5850) (x z : Slot) : ∀ (k t : Nat) (w : Slot), NoIo w → m + t + k ≤ 1170 →
    ∃ w', NoIo w' ∧ sLoop (gSet 4) evenB ((List.range' t k).map ni) [x, .imm (pairD (1, M * ch (m + t) t)), .imm (ni (m + t + 1)), z, w] = .ok (.nx, [x, .imm (pairD (1, M * ch (m + t + k) (t + k))), .imm (ni (m + t + k + 1)), z, w'])
  | 0, t, w, hw, _ => ⟨w, hw, by simp [sLoop]⟩
  | k + 1, t, w, hw, hk => by
    have c1 := ch_mul (m + t) t
    have cp := ch_pos m t
    have cp1 : 0 < ch (m + t + 1) (t + 1) := ch_pos m (t + 1)
    have bnd : M * ch (m + t) t ≤ 2 ^ 5850 := by
      have h1 := ch_le (m + t) t
      have h2 := Nat.mul_le_mul hA h1
      rw [← Nat.pow_add] at h2
      exact Nat.le_trans h2 (pow_mono (by omega))
    have key : red (1 * (t + 1)) (M * ch (m + t) t * (m + t + 1)) = (1, M * ch (m + t + 1) (t + 1)) := by
      have e : M * ch (m + t) t * (m + t + 1) = (t + 1) * (M * ch (m + t + 1) (t + 1)) := by grind
      rw [e, Nat.one_mul]
      exact red_cancel (Nat.succ_pos _) (Nat.mul_pos hM cp1)
    have b1 : (2 : Nat) ^ 5850 < 2 ^ 10000 := Nat.pow_lt_pow_right (by decide) (by decide)
    have b2 : (2 : Nat) ^ 11 < 2 ^ 10000 := Nat.pow_lt_pow_right (by decide) (by decide)
    have b3 : (2 : Nat) ^ 11 < 2 ^ 9000 := Nat.pow_lt_pow_right (by decide) (by decide)
    have gb : Nat.gcd (1 * (t + 1)) (M * ch (m + t) t * (m + t + 1)) < 2 ^ 9000 := by
      have : Nat.gcd (1 * (t + 1)) (M * ch (m + t) t * (m + t + 1)) ≤ 1 * (t + 1) := Nat.gcd_le_left _ (by omega)
      omega
    have tm := times_ok (a := 1) (b := M * ch (m + t) t) (c := t + 1) (d := m + t + 1) (by omega) (by omega) (by omega) (by omega) (Nat.mul_pos hM cp) (Nat.succ_pos _) gb
    rw [key] at tm
    obtain ⟨w', hw', ih⟩ := even_in (m := m) hM hA hA2 x z k (t + 1) (.imm (ni t)) (noio_imm _) (by omega)
    refine ⟨w', hw', ?_⟩
    rw [List.range'_succ, List.map_cons]
    unfold sLoop
    rw [gset_ok (s := w) rfl hw]
    have e3 : evenB [x, .imm (pairD (1, M * ch (m + t) t)), .imm (ni (m + t + 1)), z, .imm (ni t)] = .ok (.nx, [x, .imm (pairD (1, M * ch (m + t + 1) (t + 1))), .imm (ni (m + t + 1 + 1)), z, .imm (ni t)]) := by
      unfold evenB
      have e4 : pairD (1, M * ch (m + t) t) = .tup [ni 1, ni (M * ch (m + t) t)] := rfl
      rw [e4]
      simp [dTest, dBin, dVar, dC, dMove, dUn, dIf, dTru, dAnd, dOr, dNot, tAndD, tOrD, tNotD, dTup, dLst, aCons, aNil, aStar, dCallB, dCall, dIxS, asB, asTru, truD, Val.d, sSeq, seqK, sIf, sRet, sRetN, sExpr, sSet, setVal, sAsg, gDone, sPar, sNext, itRng1, itRng2, itSeq, gSet, gTupD, gsCons, gsNil, canSet, slotD, seqD, Src.d, Src.ok, asRes, runF, env0, outOf, sizeLine, Res.map, ni_add, ni_gt, ni_lt, ni_le, ni_ge, ni_abs, ni_int, ni_eq, ni_ne, ni_isi, ni_isb, bLen_l, bLen_t, ixt0, ixt1, ixl0, ixl1, ixl2, lit0, lit1, lit2, tm]
    show ((evenB [x, .imm (pairD (1, M * ch (m + t) t)), .imm (ni (m + t + 1)), z, .imm (ni t)]).bind _) = _
    rw [e3, Res.bind_ok]
    dsimp only
    rw [show m + (t + 1) = m + t + 1 by omega] at ih
    rw [ih, show m + t + 1 + k = m + t + (k + 1) by omega, show t + 1 + k = t + (k + 1) by omega]
def evenF : DS := sFor (itRng1 (aCons (dVar 3) aNil)) (gSet 4) evenB
theorem even_out (x : Slot) : ∀ (cs : List Nat) (M m A : Nat) (z w : Slot), 0 < M → M ≤ 2 ^ A → A + 1170 * cs.length ≤ 5850 → m + cs.sum ≤ 1170 → NoIo z → NoIo w →
    ∃ z' w', sLoop (gSet 3) evenF (cs.map ni) [x, .imm (pairD (1, M)), .imm (ni (m + 1)), z, w] = .ok (.nx, [x, .imm (pairD (1, M * Mw m cs)), .imm (ni (m + cs.sum + 1)), z', w'])
  | [], M, m, A, z, w, _, _, _, _, _, _ => ⟨z, w, by simp [sLoop, Mw]⟩
  | c :: cs, M, m, A, z, w, hM, hA, hA2, hm, hz, hw => by
    rw [List.length_cons] at hA2
    rw [List.sum_cons] at hm
    obtain ⟨w1, hw1, l⟩ := even_in (m := m) hM hA (by omega) x (.imm (ni c)) c 0 w hw (by omega)
    rw [ch_zero, Nat.mul_one, Nat.add_zero, Nat.zero_add] at l
    have b : M * ch (m + c) c ≤ 2 ^ (A + 1170) := by
      rw [Nat.pow_add]
      exact Nat.mul_le_mul hA (Nat.le_trans (ch_le _ _) (pow_mono (by omega)))
    obtain ⟨z2, w2, ih⟩ := even_out x cs (M * ch (m + c) c) (m + c) (A + 1170) (.imm (ni c)) w1 (Nat.mul_pos hM (ch_pos m c)) b (by omega) (by omega) (noio_imm _) hw1
    refine ⟨z2, w2, ?_⟩
    have e1 : evenF [x, .imm (pairD (1, M)), .imm (ni (m + 1)), .imm (ni c), w] = .ok (.nx, [x, .imm (pairD (1, M * ch (m + c) c)), .imm (ni (m + c + 1)), .imm (ni c), w1]) := by
      unfold evenF
      have i62 : int62 (c : Int) = true := decide_eq_true (by simp only [Int.natAbs_natCast]; omega)
      have e2 : itRng1 (aCons (dVar 3) aNil) [x, .imm (pairD (1, M)), .imm (ni (m + 1)), .imm (ni c), w] = .ok (rngD 0 c, [x, .imm (pairD (1, M)), .imm (ni (m + 1)), .imm (ni c), w]) := by
        simp [itRng1, aCons, aNil, dVar, Val.d, ni_def, i62]
      unfold sFor
      rw [e2, Res.bind_ok, rngD_ni]
      exact l
    rw [List.map_cons]
    unfold sLoop
    rw [gset_ok (s := z) rfl hz]
    show ((evenF [x, .imm (pairD (1, M)), .imm (ni (m + 1)), .imm (ni c), w]).bind _) = _
    rw [e1, Res.bind_ok]
    dsimp only
    rw [ih, List.sum_cons]
    have e5 : M * ch (m + c) c * Mw (m + c) cs = M * Mw m (c :: cs) := Nat.mul_assoc _ _ _
    rw [e5, Nat.add_assoc m c]
theorem even_ok {cs : List Nat} (h1 : 0 < cs.length) (h2 : cs.length ≤ 5) (h3 : cs.sum ≤ 1165) : F__law_even [.lst (cs.map ni)] = .ok (.imm (pairD (1, Mw (cs.length - 1) cs)), none) := by
  obtain ⟨z, w, l⟩ := even_out (.imm (.lst (cs.map ni))) cs 1 (cs.length - 1) 0 .un .un (by decide) (by decide) (by omega) (by omega) noio_un noio_un
  have e0 : pairD (1, 1) = .tup [ni 1, ni 1] := rfl
  rw [e0, Nat.one_mul, show cs.length - 1 + 1 = cs.length by omega] at l
  unfold evenF evenB at l
  unfold F__law_even b__law_even
  simp only [lit1] at l ⊢
  simp [dTest, dBin, dVar, dC, dMove, dUn, dIf, dTru, dAnd, dOr, dNot, tAndD, tOrD, tNotD, dTup, dLst, aCons, aNil, aStar, dCallB, dCall, dIxS, asB, asTru, truD, Val.d, sSeq, seqK, sIf, sRet, sRetN, sExpr, sSet, setVal, sAsg, gDone, sPar, sNext, itRng1, itRng2, itSeq, gSet, gTupD, gsCons, gsNil, canSet, slotD, seqD, Src.d, Src.ok, asRes, runF, env0, outOf, sizeLine, Res.map, ni_add, ni_gt, ni_lt, ni_le, ni_ge, ni_abs, ni_int, ni_eq, ni_ne, ni_isi, ni_isb, bLen_l, bLen_t, ixt0, ixt1, ixl0, ixl1, ixl2, lit0, lit1, lit2, sFor] at l ⊢
  rw [l]
  rfl
end G


set_option maxRecDepth 100000
set_option maxHeartbeats 4000000
set_option exponentiation.threshold 30000
namespace G
open PySem PySem.Spec PyProof.Rows L2
/-! ### checks -/
theorem isi_l (ds : List Dt) : isiD2 "list" "tuple" (.lst ds) = .ok (.imm (.bl true)) := by
  have h1 : kitB "list" "list" = some true := by decide +kernel
  have h2 : kitB "list" "tuple" = some false := by decide +kernel
  show (match kitB "list" "list", kitB "list" "tuple" with
    | some b, some c => vB (b || c)
    | _, _ => Res.bad) = _
  rw [h1, h2]
  rfl
theorem isi_t (ds : List Dt) : isiD2 "list" "tuple" (.tup ds) = .ok (.imm (.bl true)) := by
  have h1 : kitB "tuple" "list" = some false := by decide +kernel
  have h2 : kitB "tuple" "tuple" = some true := by decide +kernel
  show (match kitB "tuple" "list", kitB "tuple" "tuple" with
    | some b, some c => vB (b || c)
    | _, _ => Res.bad) = _
  rw [h1, h2]
  rfl
theorem is_integer_ok (a : Nat) : F_is_integer [ni a] = .ok (.imm (.bl true), none) := by
  unfold F_is_integer b_is_integer
  simp [dTest, dBin, dVar, dC, dMove, dUn, dIf, dTru, dAnd, dOr, dNot, tAndD, tOrD, tNotD, dTup, dLst, aCons, aNil, aStar, dCallB, dCall, dIxS, asB, asTru, truD, Val.d, sSeq, seqK, sIf, sRet, sRetN, sExpr, sSet, setVal, sAsg, gDone, sPar, sNext, itRng1, itRng2, itSeq, gSet, gTupD, gsCons, gsNil, canSet, slotD, seqD, Src.d, Src.ok, asRes, runF, env0, outOf, sizeLine, Res.map, ni_add, ni_gt, ni_lt, ni_le, ni_ge, ni_abs, ni_int, ni_eq, ni_ne, ni_isi, ni_isb, bLen_l, bLen_t, ixt0, ixt1, ixl0, ixl1, ixl2, lit0, lit1, lit2]
theorem is_ni (a : Nat) : opIs (ni a) .non = .ok (.imm (.bl false)) := rfl
theorem is_non : opIs .non .non = .ok (.imm (.bl true)) := rfl
theorem is_within_ok (v a b : Nat) : F_is_within [ni v, ni a, ni b] = .ok (.imm (.bl (decide (a ≤ v) && decide (v ≤ b))), none) := by
  have h := is_integer_ok v
  unfold F_is_within b_is_within
  by_cases h1 : a ≤ v
  · simp [dTest, dBin, dVar, dC, dMove, dUn, dIf, dTru, dAnd, dOr, dNot, tAndD, tOrD, tNotD, dTup, dLst, aCons, aNil, aStar, dCallB, dCall, dIxS, asB, asTru, truD, Val.d, sSeq, seqK, sIf, sRet, sRetN, sExpr, sSet, setVal, sAsg, gDone, sPar, sNext, itRng1, itRng2, itSeq, gSet, gTupD, gsCons, gsNil, canSet, slotD, seqD, Src.d, Src.ok, asRes, runF, env0, outOf, sizeLine, Res.map, ni_add, ni_gt, ni_lt, ni_le, ni_ge, ni_abs, ni_int, ni_eq, ni_ne, ni_isi, ni_isb, bLen_l, bLen_t, ixt0, ixt1, ixl0, ixl1, ixl2, lit0, lit1, lit2, h, is_ni, h1]
  · simp [dTest, dBin, dVar, dC, dMove, dUn, dIf, dTru, dAnd, dOr, dNot, tAndD, tOrD, tNotD, dTup, dLst, aCons, aNil, aStar, dCallB, dCall, dIxS, asB, asTru, truD, Val.d, sSeq, seqK, sIf, sRet, sRetN, sExpr, sSet, setVal, sAsg, gDone, sPar, sNext, itRng1, itRng2, itSeq, gSet, gTupD, gsCons, gsNil, canSet, slotD, seqD, Src.d, Src.ok, asRes, runF, env0, outOf, sizeLine, Res.map, ni_add, ni_gt, ni_lt, ni_le, ni_ge, ni_abs, ni_int, ni_eq, ni_ne, ni_isi, ni_isb, bLen_l, bLen_t, ixt0, ixt1, ixl0, ixl1, ixl2, lit0, lit1, lit2, h, is_ni, h1]
theorem is_within_un (v a : Nat) : F_is_within [ni v, ni a, .non] = .ok (.imm (.bl (decide (a ≤ v))), none) := by
  have h := is_integer_ok v
  unfold F_is_within b_is_within
  by_cases h1 : a ≤ v
  · simp [dTest, dBin, dVar, dC, dMove, dUn, dIf, dTru, dAnd, dOr, dNot, tAndD, tOrD, tNotD, dTup, dLst, aCons, aNil, aStar, dCallB, dCall, dIxS, asB, asTru, truD, Val.d, sSeq, seqK, sIf, sRet, sRetN, sExpr, sSet, setVal, sAsg, gDone, sPar, sNext, itRng1, itRng2, itSeq, gSet, gTupD, gsCons, gsNil, canSet, slotD, seqD, Src.d, Src.ok, asRes, runF, env0, outOf, sizeLine, Res.map, ni_add, ni_gt, ni_lt, ni_le, ni_ge, ni_abs, ni_int, ni_eq, ni_ne, ni_isi, ni_isb, bLen_l, bLen_t, ixt0, ixt1, ixl0, ixl1, ixl2, lit0, lit1, lit2, h, is_ni, is_non, h1]
  · simp [dTest, dBin, dVar, dC, dMove, dUn, dIf, dTru, dAnd, dOr, dNot, tAndD, tOrD, tNotD, dTup, dLst, aCons, aNil, aStar, dCallB, dCall, dIxS, asB, asTru, truD, Val.d, sSeq, seqK, sIf, sRet, sRetN, sExpr, sSet, setVal, sAsg, gDone, sPar, sNext, itRng1, itRng2, itSeq, gSet, gTupD, gsCons, gsNil, canSet, slotD, seqD, Src.d, Src.ok, asRes, runF, env0, outOf, sizeLine, Res.map, ni_add, ni_gt, ni_lt, ni_le, ni_ge, ni_abs, ni_int, ni_eq, ni_ne, ni_isi, ni_isb, bLen_l, bLen_t, ixt0, ixt1, ixl0, ixl1, ixl2, lit0, lit1, lit2, h, is_ni, is_non, h1]
theorem ni_inj {a b : Nat} (h : ni a = ni b) : a = b := by
  have : (a : Int) = b := by injection h
  omega
theorem map_ni (cs : List Nat) : cs.map ni = (cs.map fun c : Nat => (c : Int)).map .int := by
  rw [List.map_map]
  rfl
/-- a loop of a comprehension whose turns leave all as it is -/
theorem lc_map {vs : List Nat} {g : DG} {t : DT} {f : DE} {env : Env'} {φ : Dt → Dt} : ∀ {ds : List Dt}, (∀ d ∈ ds, lcTurn vs g t f d env = .ok (some (φ d), env)) → lcLoop vs g t f ds env = .ok (ds.map φ, env)
  | [], _ => rfl
  | d :: ds, h => by
    unfold lcLoop
    rw [h d List.mem_cons_self, Res.bind_ok, lc_map fun d' hd => h d' (List.mem_cons_of_mem _ hd)]
    rfl
theorem bsum_ok (cs : List Nat) : bSum [.tup (cs.map ni)] = .ok (.imm (ni cs.sum)) := by
  have e : ((cs.map fun c : Nat => (c : Int)).sum) = (cs.sum : Int) := by
    induction cs with
    | nil => rfl
    | cons c cs ih => rw [List.map_cons, List.sum_cons, List.sum_cons, ih, Int.natCast_add]
  rw [map_ni]
  show (match intsD ((cs.map fun c : Nat => (c : Int)).map .int) with
    | some ns => vI ns.sum
    | none => Res.bad) = _
  rw [intsD_ints]
  show vI _ = .ok (.imm (.int (cs.sum : Int)))
  rw [e]
  rfl
theorem bmax_ok {cs : List Nat} (h : 0 < cs.length) : ∃ m ∈ cs, bMax [.tup (cs.map ni)] = .ok (.imm (ni m)) := by
  obtain ⟨c, cs', rfl⟩ : ∃ c cs', cs = c :: cs' := by
    cases cs with
    | nil => exact absurd h (by simp)
    | cons c cs' => exact ⟨c, cs', rfl⟩
  have hm : ((c :: cs').map fun c : Nat => (c : Int)).max? = some (((c :: cs').map fun c : Nat => (c : Int)).max (by simp)) := List.max?_eq_some_max _
  have hmem := List.max_mem (l := (c :: cs').map fun c : Nat => (c : Int)) (by simp)
  obtain ⟨m, hm1, hm2⟩ := List.mem_map.mp hmem
  refine ⟨m, hm1, ?_⟩
  rw [map_ni]
  show (match intsD (((c :: cs').map fun c : Nat => (c : Int)).map .int) with
    | some ns => bestOf List.max? ns
    | none => Res.bad) = _
  rw [intsD_ints]
  show bestOf List.max? _ = _
  unfold bestOf
  rw [hm, ← hm2]
  rfl
theorem ball_ok (n : Nat) : bAll [.lst (List.replicate n (.bl true))] = .ok (.imm (.bl true)) := by
  have e : List.replicate n (Dt.bl true) = (List.replicate n true).map .bl := by rw [List.map_replicate]
  rw [e]
  show (match blsD ((List.replicate n true).map .bl) with
    | some ns => vB (ns.all id)
    | none => Res.bad) = _
  rw [blsD_bls]
  show vB _ = _
  have : (List.replicate n true).all id = true := by simp
  rw [this]
  rfl
def SeqOf (d : Dt) (cs : List Nat) : Prop := d = .lst (cs.map ni) ∨ d = .tup (cs.map ni)
theorem need_counts_ok {d : Dt} {cs : List Nat} (hd : SeqOf d cs) (h1 : 0 < cs.length) (h2 : cs.length ≤ 5) (s : Str) : F_need_counts [d, .str s] = .ok (.imm (.tup (cs.map ni)), none) := by
  have hs : seqD d = some (cs.map ni) := by rcases hd with rfl | rfl <;> rfl
  have e1 : F_is_list [d] = .ok (.imm (.bl true), none) := by
    unfold F_is_list b_is_list
    rcases hd with rfl | rfl
    · simp [dTest, dBin, dVar, dC, dMove, dUn, dIf, dTru, dAnd, dOr, dNot, tAndD, tOrD, tNotD, dTup, dLst, aCons, aNil, aStar, dCallB, dCall, dIxS, asB, asTru, truD, Val.d, sSeq, seqK, sIf, sRet, sRetN, sExpr, sSet, setVal, sAsg, gDone, sPar, sNext, itRng1, itRng2, itSeq, gSet, gTupD, gsCons, gsNil, canSet, slotD, seqD, Src.d, Src.ok, asRes, runF, env0, outOf, sizeLine, Res.map, isi_l]
    · simp [dTest, dBin, dVar, dC, dMove, dUn, dIf, dTru, dAnd, dOr, dNot, tAndD, tOrD, tNotD, dTup, dLst, aCons, aNil, aStar, dCallB, dCall, dIxS, asB, asTru, truD, Val.d, sSeq, seqK, sIf, sRet, sRetN, sExpr, sSet, setVal, sAsg, gDone, sPar, sNext, itRng1, itRng2, itSeq, gSet, gTupD, gsCons, gsNil, canSet, slotD, seqD, Src.d, Src.ok, asRes, runF, env0, outOf, sizeLine, Res.map, isi_t]
  have e2 : bLen [d] = .ok (.imm (ni cs.length)) := by
    rcases hd with rfl | rfl
    · rw [bLen_l, List.length_map]
    · rw [bLen_t, List.length_map]
  have e3 := is_within_ok cs.length 1 5
  rw [decide_eq_true (show 1 ≤ cs.length from h1), decide_eq_true h2] at e3
  have e4 : bTuple [d] = .ok (.imm (.tup (cs.map ni))) := by rcases hd with rfl | rfl <;> rfl
  have l : lcLoop [2] (gSet 2) dYes (dCall F_is_within ⟨3, [], [.pos 0, .pos 1, .pos 2]⟩ (aCons (dVar 2) (aCons (dC (.int 0)) (aCons (dC .non) aNil))) aNil) (cs.map ni) [.imm d, .imm (.str s), .un] =
      .ok (List.replicate cs.length (.bl true), [.imm d, .imm (.str s), .un]) := by
    have := lc_map (vs := [2]) (g := gSet 2) (t := dYes) (f := dCall F_is_within ⟨3, [], [.pos 0, .pos 1, .pos 2]⟩ (aCons (dVar 2) (aCons (dC (.int 0)) (aCons (dC .non) aNil))) aNil) (env := [.imm d, .imm (.str s), .un]) (φ := fun _ => .bl true) (ds := cs.map ni) fun x hx => by
      obtain ⟨c, _, rfl⟩ := List.mem_map.mp hx
      have e := is_within_un c 0
      rw [decide_eq_true (Nat.zero_le c)] at e
      simp [lcTurn, dYes, Res.hard, wipeE, dTest, dBin, dVar, dC, dMove, dUn, dIf, dTru, dAnd, dOr, dNot, tAndD, tOrD, tNotD, dTup, dLst, aCons, aNil, aStar, dCallB, dCall, dIxS, asB, asTru, truD, Val.d, sSeq, seqK, sIf, sRet, sRetN, sExpr, sSet, setVal, sAsg, gDone, sPar, sNext, itRng1, itRng2, itSeq, gSet, gTupD, gsCons, gsNil, canSet, slotD, seqD, Src.d, Src.ok, asRes, runF, env0, outOf, sizeLine, Res.map, ni_add, ni_gt, ni_lt, ni_le, ni_ge, ni_abs, ni_int, ni_eq, ni_ne, ni_isi, ni_isb, bLen_l, bLen_t, ixt0, ixt1, ixl0, ixl1, ixl2, lit0, lit1, lit2, e]
    rw [this, List.map_const', List.length_map]
  have e5 := ball_ok cs.length
  have hz : cs.length ≤ 16777216 := by omega
  unfold F_need_counts b_need_counts
  simp only [lit0, lit1, lit5] at l e3 ⊢
  rcases hd with rfl | rfl
  all_goals simp [dTest, dBin, dVar, dC, dMove, dUn, dIf, dTru, dAnd, dOr, dNot, tAndD, tOrD, tNotD, dTup, dLst, aCons, aNil, aStar, dCallB, dCall, dIxS, asB, asTru, truD, Val.d, sSeq, seqK, sIf, sRet, sRetN, sExpr, sSet, setVal, sAsg, gDone, sPar, sNext, itRng1, itRng2, itSeq, gSet, gTupD, gsCons, gsNil, canSet, slotD, seqD, Src.d, Src.ok, asRes, runF, env0, outOf, sizeLine, Res.map, ni_add, ni_gt, ni_lt, ni_le, ni_ge, ni_abs, ni_int, ni_eq, ni_ne, ni_isi, ni_isb, bLen_l, bLen_t, ixt0, ixt1, ixl0, ixl1, ixl2, lit0, lit1, lit2, e1, e2, e3, dLc, hs, lcOk, wipeE, l, Res.hard, backE, e5, e4, hz]
/-! ### factorials -/
def facB : DS := sSet 1 (dBin opMul (dVar 1) (dVar 2))
theorem fac_le : ∀ n, n ≤ 2000 → fac n ≤ 2 ^ (11 * n)
  | 0, _ => by decide
  | n + 1, h => by
    have ih := fac_le n (by omega)
    show (n + 1) * fac n ≤ _
    rw [Nat.mul_succ, Nat.pow_add, Nat.mul_comm (2 ^ (11 * n))]
    exact Nat.mul_le_mul (by omega) ih
theorem fac_lt {n : Nat} (h : n ≤ 1200) : fac n < 2 ^ 13300 := Nat.lt_of_le_of_lt (fac_le n (by omega)) (Nat.pow_lt_pow_right (by decide) (by omega))
theorem fac_loop (x : Slot) : ∀ (k t : Nat) (z : Slot), NoIo z → t + k ≤ 1200 → ∃ z', sLoop (gSet 2) facB ((List.range' (t + 1) k).map ni) [x, .imm (ni (fac t)), z] = .ok (.nx, [x, .imm (ni (fac (t + k))), z'])
  | 0, t, z, _, _ => ⟨z, by simp [sLoop]⟩
  | k + 1, t, z, hz, h => by
    have up : ∀ {x : Nat}, x < 2 ^ 13300 → x < 2 ^ 20000 := fun h => Nat.lt_of_lt_of_le h (Nat.pow_le_pow_right (by decide) (by decide))
    have b : (2 : Nat) ^ 11 < 2 ^ 20000 := Nat.pow_lt_pow_right (by decide) (by decide)
    have m := ni_mul (a := fac t) (b := t + 1) (up (fac_lt (by omega))) (by omega)
    obtain ⟨z', ih⟩ := fac_loop x k (t + 1) (.imm (ni (t + 1))) (noio_imm _) (by omega)
    refine ⟨z', ?_⟩
    rw [List.range'_succ, List.map_cons]
    unfold sLoop
    rw [gset_ok (s := z) rfl hz]
    have e : facB [x, .imm (ni (fac t)), .imm (ni (t + 1))] = .ok (.nx, [x, .imm (ni (fac (t + 1))), .imm (ni (t + 1))]) := by
      have e0 : fac t * (t + 1) = fac (t + 1) := Nat.mul_comm _ _
      rw [e0] at m
      unfold facB
      simp [dTest, dBin, dVar, dC, dMove, dUn, dIf, dTru, dAnd, dOr, dNot, tAndD, tOrD, tNotD, dTup, dLst, aCons, aNil, aStar, dCallB, dCall, dIxS, asB, asTru, truD, Val.d, sSeq, seqK, sIf, sRet, sRetN, sExpr, sSet, setVal, sAsg, gDone, sPar, sNext, itRng1, itRng2, itSeq, gSet, gTupD, gsCons, gsNil, canSet, slotD, seqD, Src.d, Src.ok, asRes, runF, env0, outOf, sizeLine, Res.map, m]
    show ((facB [x, .imm (ni (fac t)), .imm (ni (t + 1))]).bind _) = _
    rw [e, Res.bind_ok]
    dsimp only
    rw [ih, show t + 1 + k = t + (k + 1) by omega]
theorem rngD_ni2 (t n : Nat) : rngD (t : Int) n = (List.range' t n).map ni := by
  rw [rng_range]
  rfl
theorem factorial_ok {n : Nat} (h : n ≤ 1190) : F_factorial [ni n] = .ok (.imm (ni (fac n)), none) := by
  obtain ⟨z, l⟩ := fac_loop (.imm (ni n)) (n - 1) 1 .un noio_un (by omega)
  have e0 : fac (1 + (n - 1)) = fac n := by
    by_cases h0 : n = 0
    · subst h0; rfl
    · rw [show 1 + (n - 1) = n by omega]
  rw [e0, show fac 1 = 1 from rfl] at l
  have e1 : itRng2 (aCons (dC (.int 2)) (aCons (dBin opAdd (dVar 0) (dC (.int 1))) aNil)) [.imm (ni n), .imm (ni 1), .un] = .ok ((List.range' 2 (n - 1)).map ni, [.imm (ni n), .imm (ni 1), .un]) := by
    have i1 : int62 2 = true := by decide
    have i2 : int62 ((n + 1 : Nat) : Int) = true := decide_eq_true (by simp only [Int.natAbs_natCast]; omega)
    have e2 : (((n + 1 : Nat) : Int) - 2).toNat = n - 1 := by omega
    have e3 : opAdd (ni n) (.int 1) = .ok (.imm (.int ((n + 1 : Nat) : Int))) := ni_add n 1
    have e4 := rngD_ni2 2 (n - 1)
    simp only [itRng2, aCons, aNil, dC, dBin, dVar, List.getElem?_cons_zero, Res.bind_ok, Val.d, e3, Res.map_ok, i1, i2, and_self, if_true, e2]
    exact congrArg (fun q => Res.ok (q, [Slot.imm (ni n), Slot.imm (ni 1), Slot.un])) e4
  unfold facB at l
  unfold F_factorial b_factorial
  simp only [sFor, lit1, lit2] at l e1 ⊢
  simp [runF, env0, sSeq, sSet, dC, setVal, canSet, seqK, sFor, e1] at l ⊢
  simp [l, sRet, dMove, outOf, seqK]
/-! ### the weight -/
def wB : DS := sSet 1 (dBin opMul (dVar 1) (dCall F_factorial ⟨1, [], [.pos 0]⟩ (aCons (dVar 2) aNil) aNil))
theorem w_loop (x : Slot) : ∀ (cs : List Nat) (p A : Nat) (z : Slot), NoIo z → p ≤ 2 ^ A → A + 11 * cs.sum ≤ 13400 → cs.sum ≤ 1190 →
    ∃ z', sLoop (gSet 2) wB (cs.map ni) [x, .imm (ni p), z] = .ok (.nx, [x, .imm (ni (p * pfac cs)), z'])
  | [], p, A, z, _, _, _, _ => ⟨z, by simp [sLoop, pfac]⟩
  | c :: cs, p, A, z, hz, hA, hB, hs => by
    rw [List.sum_cons] at hB hs
    have f := factorial_ok (n := c) (by omega)
    have fl := fac_le c (by omega)
    have up : ∀ {x A : Nat}, x ≤ 2 ^ A → A ≤ 13400 → x < 2 ^ 20000 := fun h hA => Nat.lt_of_le_of_lt h (Nat.pow_lt_pow_right (by decide) (by omega))
    have m := ni_mul (a := p) (b := fac c) (up hA (by omega)) (up fl (by omega))
    have b : p * fac c ≤ 2 ^ (A + 11 * c) := by
      rw [Nat.pow_add]
      exact Nat.mul_le_mul hA fl
    obtain ⟨z', ih⟩ := w_loop x cs (p * fac c) (A + 11 * c) (.imm (ni c)) (noio_imm _) b (by omega) (by omega)
    refine ⟨z', ?_⟩
    rw [List.map_cons]
    unfold sLoop
    rw [gset_ok (s := z) rfl hz]
    have e : wB [x, .imm (ni p), .imm (ni c)] = .ok (.nx, [x, .imm (ni (p * fac c)), .imm (ni c)]) := by
      unfold wB
      simp [dTest, dBin, dVar, dC, dMove, dUn, dIf, dTru, dAnd, dOr, dNot, tAndD, tOrD, tNotD, dTup, dLst, aCons, aNil, aStar, dCallB, dCall, dIxS, asB, asTru, truD, Val.d, sSeq, seqK, sIf, sRet, sRetN, sExpr, sSet, setVal, sAsg, gDone, sPar, sNext, itRng1, itRng2, itSeq, gSet, gTupD, gsCons, gsNil, canSet, slotD, seqD, Src.d, Src.ok, asRes, runF, env0, outOf, sizeLine, Res.map, f, m]
    show ((wB [x, .imm (ni p), .imm (ni c)]).bind _) = _
    rw [e, Res.bind_ok]
    dsimp only
    rw [ih, show p * fac c * pfac cs = p * pfac (c :: cs) from Nat.mul_assoc _ _ _]
theorem weight_ok {cs : List Nat} (h1 : 0 < cs.length) (h2 : cs.length ≤ 5) (h3 : cs.sum ≤ 1170) : F_weight_in [.tup (cs.map ni)] = .ok (.imm (numD (1, Mw (cs.length - 1) cs)), none) := by
  have f0 := factorial_ok (n := cs.length - 1) (by omega)
  have l0 : fac (cs.length - 1) ≤ 2 ^ 44 := Nat.le_trans (fac_le _ (by omega)) (pow_mono (by omega))
  obtain ⟨z, l⟩ := w_loop (.imm (.tup (cs.map ni))) cs (fac (cs.length - 1)) 44 .un noio_un l0 (by omega) (by omega)
  have f1 := factorial_ok (n := cs.sum + cs.length - 1) (by omega)
  have s1 := ni_sub (a := cs.length) (b := 1) h1
  have s2 := ni_sub (a := cs.sum + cs.length) (b := 1) (by omega)
  have bs := bsum_ok cs
  have M := Mw_fac cs (cs.length - 1)
  have hA : fac (cs.length - 1) * pfac cs ≤ fac (cs.length - 1 + cs.sum) := by
    rw [← M]
    exact Nat.le_mul_of_pos_right _ (Mw_pos _ _)
  have hU := fac_lt (n := cs.length - 1 + cs.sum) (by omega)
  have hP : 0 < fac (cs.length - 1) * pfac cs := Nat.mul_pos (fac_pos _) (pfac_pos _)
  have b1 : (2 : Nat) ^ 13300 < 2 ^ 13500 := Nat.pow_lt_pow_right (by decide) (by decide)
  have lo := lowest_ok (a := fac (cs.length - 1) * pfac cs) (b := fac (cs.length - 1 + cs.sum)) (fac_pos _) (by omega) (by omega)
  rw [← M, red_cancel hP (Mw_pos _ _), M] at lo
  rw [show cs.sum + cs.length - 1 = cs.length - 1 + cs.sum by omega] at f1 s2
  unfold wB at l
  unfold F_weight_in b_weight_in
  simp only [lit1] at l ⊢
  simp [dTest, dBin, dVar, dC, dMove, dUn, dIf, dTru, dAnd, dOr, dNot, tAndD, tOrD, tNotD, dTup, dLst, aCons, aNil, aStar, dCallB, dCall, dIxS, asB, asTru, truD, Val.d, sSeq, seqK, sIf, sRet, sRetN, sExpr, sSet, setVal, sAsg, gDone, sPar, sNext, itRng1, itRng2, itSeq, gSet, gTupD, gsCons, gsNil, canSet, slotD, seqD, Src.d, Src.ok, asRes, runF, env0, outOf, sizeLine, Res.map, ni_add, ni_gt, ni_lt, ni_le, ni_ge, ni_abs, ni_int, ni_eq, ni_ne, ni_isi, ni_isb, bLen_l, bLen_t, ixt0, ixt1, ixl0, ixl1, ixl2, lit0, lit1, lit2, sFor, f0, s1, bs, s2, f1, lo] at l ⊢
  simp [dTest, dBin, dVar, dC, dMove, dUn, dIf, dTru, dAnd, dOr, dNot, tAndD, tOrD, tNotD, dTup, dLst, aCons, aNil, aStar, dCallB, dCall, dIxS, asB, asTru, truD, Val.d, sSeq, seqK, sIf, sRet, sRetN, sExpr, sSet, setVal, sAsg, gDone, sPar, sNext, itRng1, itRng2, itSeq, gSet, gTupD, gsCons, gsNil, canSet, slotD, seqD, Src.d, Src.ok, asRes, runF, env0, outOf, sizeLine, Res.map, ni_add, ni_gt, ni_lt, ni_le, ni_ge, ni_abs, ni_int, ni_eq, ni_ne, ni_isi, ni_isb, bLen_l, bLen_t, ixt0, ixt1, ixl0, ixl1, ixl2, lit0, lit1, lit2, l, bs, s2, f1, lo]
theorem even_weight_ok {d : Dt} {cs : List Nat} (hd : SeqOf d cs) (h1 : 0 < cs.length) (h2 : cs.length ≤ 5) (h3 : cs.sum ≤ 1170) (h4 : ∀ c ∈ cs, c ≤ 1000) : F_even_weight [d] = .ok (.imm (numD (1, Mw (cs.length - 1) cs)), none) := by
  have n := need_counts_ok hd h1 h2 "counts"
  obtain ⟨m, hm, bm⟩ := bmax_ok h1
  have hm := h4 m hm
  have w := weight_ok h1 h2 h3
  have g : opGt (ni m) (.int 1000) = .ok (.imm (.bl (decide (1000 < m)))) := ni_gt m 1000
  rw [decide_eq_false (show ¬ 1000 < m by omega)] at g
  unfold F_even_weight b_even_weight
  simp [dTest, dBin, dVar, dC, dMove, dUn, dIf, dTru, dAnd, dOr, dNot, tAndD, tOrD, tNotD, dTup, dLst, aCons, aNil, aStar, dCallB, dCall, dIxS, asB, asTru, truD, Val.d, sSeq, seqK, sIf, sRet, sRetN, sExpr, sSet, setVal, sAsg, gDone, sPar, sNext, itRng1, itRng2, itSeq, gSet, gTupD, gsCons, gsNil, canSet, slotD, seqD, Src.d, Src.ok, asRes, runF, env0, outOf, sizeLine, Res.map, n, bm, g, w]
end G


set_option maxRecDepth 100000
set_option maxHeartbeats 4000000
set_option exponentiation.threshold 30000
namespace G
open PySem PySem.Spec PyProof.Rows L2
def chB : DS := sSet 2 (dBin opFDiv (dBin opMul (dVar 2) (dBin opSub (dVar 0) (dVar 3))) (dBin opAdd (dVar 3) (dC (.int 1))))
theorem ch_loop {n : Nat} (hn : n ≤ 1100) (x : Slot) : ∀ (k t : Nat) (z : Slot), NoIo z → t + k ≤ n → ∃ z', sLoop (gSet 3) chB ((List.range' t k).map ni) [.imm (ni n), x, .imm (ni (ch n t)), z] = .ok (.nx, [.imm (ni n), x, .imm (ni (ch n (t + k))), z'])
  | 0, t, z, _, _ => ⟨z, by simp [sLoop]⟩
  | k + 1, t, z, hz, h => by
    have cl := ch_le n t
    have b1 : (2 : Nat) ^ n < 2 ^ 20000 := Nat.pow_lt_pow_right (by decide) (by omega)
    have b2 : (2 : Nat) ^ 11 < 2 ^ 20000 := Nat.pow_lt_pow_right (by decide) (by decide)
    have b3 : (2 : Nat) ^ 11 < 2 ^ 9000 := Nat.pow_lt_pow_right (by decide) (by decide)
    have s := ni_sub (a := n) (b := t) (by omega)
    have m := ni_mul (a := ch n t) (b := n - t) (by omega) (by omega)
    have d := ni_fdivy (a := ch n t * (n - t)) (b := t + 1) (Nat.succ_pos _) (by omega)
    have e0 : ch n t * (n - t) / (t + 1) = ch n (t + 1) := by
      have e := ch_step n t
      have e2 : ch n t * (n - t) = (t + 1) * ch n (t + 1) := by
        obtain ⟨j, rfl⟩ : ∃ j, n = t + j := ⟨n - t, by omega⟩
        rw [Nat.add_sub_cancel_left]
        grind
      rw [e2]
      exact Nat.mul_div_cancel_left _ (Nat.succ_pos _)
    rw [e0] at d
    obtain ⟨z', ih⟩ := ch_loop hn x k (t + 1) (.imm (ni t)) (noio_imm _) (by omega)
    refine ⟨z', ?_⟩
    rw [List.range'_succ, List.map_cons]
    unfold sLoop
    rw [gset_ok (s := z) rfl hz]
    have e : chB [.imm (ni n), x, .imm (ni (ch n t)), .imm (ni t)] = .ok (.nx, [.imm (ni n), x, .imm (ni (ch n (t + 1))), .imm (ni t)]) := by
      unfold chB
      simp [dTest, dBin, dVar, dC, dMove, dUn, dIf, dTru, dAnd, dOr, dNot, tAndD, tOrD, tNotD, dTup, dLst, aCons, aNil, aStar, dCallB, dCall, dIxS, asB, asTru, truD, Val.d, sSeq, seqK, sIf, sRet, sRetN, sExpr, sSet, setVal, sAsg, gDone, sPar, sNext, itRng1, itRng2, itSeq, gSet, gTupD, gsCons, gsNil, canSet, slotD, seqD, Src.d, Src.ok, asRes, runF, env0, outOf, sizeLine, Res.map, ni_add, ni_gt, ni_lt, ni_le, ni_ge, ni_abs, ni_int, ni_eq, ni_ne, ni_isi, ni_isb, bLen_l, bLen_t, ixt0, ixt1, ixl0, ixl1, ixl2, lit0, lit1, lit2, s, m, d]
    show ((chB [.imm (ni n), x, .imm (ni (ch n t)), .imm (ni t)]).bind _) = _
    rw [e, Res.bind_ok]
    dsimp only
    rw [ih, show t + 1 + k = t + (k + 1) by omega]
theorem rng1_ok {i : Nat} {env : Env'} {n : Nat} (h : env[i]? = some (.imm (ni n))) (hn : n < 2 ^ 62) : itRng1 (aCons (dVar i) aNil) env = .ok ((List.range' 0 n).map ni, env) := by
  have i62 : int62 (n : Int) = true := decide_eq_true (by simpa using hn)
  rw [← rngD_ni]
  simp only [itRng1, aCons, aNil, dVar, h, Res.bind_ok, Val.d, ni_def, i62, if_true, Int.toNat_natCast]
theorem choose_ok {n k : Nat} (hn : n ≤ 1100) (hk : k ≤ n) : F_choose_in [ni n, ni k] = .ok (.imm (ni (ch n k)), none) := by
  obtain ⟨z, l⟩ := ch_loop hn (.imm (ni k)) k 0 .un noio_un (by omega)
  have r := rng1_ok (i := 1) (env := [.imm (ni n), .imm (ni k), .imm (ni 1), .un]) (n := k) rfl (by omega)
  rw [ch_zero, Nat.zero_add] at l
  unfold chB at l
  unfold F_choose_in b_choose_in
  simp only [lit1] at l ⊢
  simp [runF, env0, sSeq, sSet, dC, setVal, canSet, seqK, sFor, r]
  simp [l, sRet, dMove, outOf, seqK]
theorem factor_ok {g d : Nat} (h1 : 1 ≤ g) (h2 : g ≤ 5) (h3 : d ≤ 1000) : F_factor_in [ni g, ni d] = .ok (.imm (ni (ch (d + g - 1) (g - 1))), none) := by
  have c := choose_ok (n := d + g - 1) (k := g - 1) (by omega) (by omega)
  have s1 := ni_sub (a := d + g) (b := 1) (by omega)
  have s2 := ni_sub (a := g) (b := 1) h1
  unfold F_factor_in b_factor_in
  simp [dTest, dBin, dVar, dC, dMove, dUn, dIf, dTru, dAnd, dOr, dNot, tAndD, tOrD, tNotD, dTup, dLst, aCons, aNil, aStar, dCallB, dCall, dIxS, asB, asTru, truD, Val.d, sSeq, seqK, sIf, sRet, sRetN, sExpr, sSet, setVal, sAsg, gDone, sPar, sNext, itRng1, itRng2, itSeq, gSet, gTupD, gsCons, gsNil, canSet, slotD, seqD, Src.d, Src.ok, asRes, runF, env0, outOf, sizeLine, Res.map, ni_add, ni_gt, ni_lt, ni_le, ni_ge, ni_abs, ni_int, ni_eq, ni_ne, ni_isi, ni_isb, bLen_l, bLen_t, ixt0, ixt1, ixl0, ixl1, ixl2, lit0, lit1, lit2, s1, s2, c]
theorem need_integer_ok {v a b : Nat} (s : Str) (h1 : a ≤ v) (h2 : v ≤ b) : F_need_integer [ni v, .str s, ni a, ni b] = .ok (.imm .non, none) := by
  have w := is_within_ok v a b
  rw [decide_eq_true h1, decide_eq_true h2] at w
  unfold F_need_integer b_need_integer
  simp [dTest, dBin, dVar, dC, dMove, dUn, dIf, dTru, dAnd, dOr, dNot, tAndD, tOrD, tNotD, dTup, dLst, aCons, aNil, aStar, dCallB, dCall, dIxS, asB, asTru, truD, Val.d, sSeq, seqK, sIf, sRet, sRetN, sExpr, sSet, setVal, sAsg, gDone, sPar, sNext, itRng1, itRng2, itSeq, gSet, gTupD, gsCons, gsNil, canSet, slotD, seqD, Src.d, Src.ok, asRes, runF, env0, outOf, sizeLine, Res.map, ni_add, ni_gt, ni_lt, ni_le, ni_ge, ni_abs, ni_int, ni_eq, ni_ne, ni_isi, ni_isb, bLen_l, bLen_t, ixt0, ixt1, ixl0, ixl1, ixl2, lit0, lit1, lit2, w]
theorem even_factor_ok {g d : Nat} (h1 : 1 ≤ g) (h2 : g ≤ 5) (h3 : d ≤ 1000) : F_even_factor [ni g, ni d] = .ok (.imm (ni (ch (d + g - 1) (g - 1))), none) := by
  have f := factor_ok h1 h2 h3
  have n1 : F_need_goods [ni g] = .ok (.imm .non, none) := by
    have n := need_integer_ok (a := 1) (b := 5) "goods" h1 h2
    unfold F_need_goods b_need_goods
    simp only [lit5]
    simp [dTest, dBin, dVar, dC, dMove, dUn, dIf, dTru, dAnd, dOr, dNot, tAndD, tOrD, tNotD, dTup, dLst, aCons, aNil, aStar, dCallB, dCall, dIxS, asB, asTru, truD, Val.d, sSeq, seqK, sIf, sRet, sRetN, sExpr, sSet, setVal, sAsg, gDone, sPar, sNext, itRng1, itRng2, itSeq, gSet, gTupD, gsCons, gsNil, canSet, slotD, seqD, Src.d, Src.ok, asRes, runF, env0, outOf, sizeLine, Res.map, ni_add, ni_gt, ni_lt, ni_le, ni_ge, ni_abs, ni_int, ni_eq, ni_ne, ni_isi, ni_isb, bLen_l, bLen_t, ixt0, ixt1, ixl0, ixl1, ixl2, lit0, lit1, lit2, n]
  have n2 : F_need_days [ni d] = .ok (.imm .non, none) := by
    have n := need_integer_ok (a := 0) (b := 1000) "days" (Nat.zero_le d) h3
    have e : Dt.int 1000 = ni 1000 := rfl
    unfold F_need_days b_need_days
    simp only [e]
    simp [dTest, dBin, dVar, dC, dMove, dUn, dIf, dTru, dAnd, dOr, dNot, tAndD, tOrD, tNotD, dTup, dLst, aCons, aNil, aStar, dCallB, dCall, dIxS, asB, asTru, truD, Val.d, sSeq, seqK, sIf, sRet, sRetN, sExpr, sSet, setVal, sAsg, gDone, sPar, sNext, itRng1, itRng2, itSeq, gSet, gTupD, gsCons, gsNil, canSet, slotD, seqD, Src.d, Src.ok, asRes, runF, env0, outOf, sizeLine, Res.map, ni_add, ni_gt, ni_lt, ni_le, ni_ge, ni_abs, ni_int, ni_eq, ni_ne, ni_isi, ni_isb, bLen_l, bLen_t, ixt0, ixt1, ixl0, ixl1, ixl2, lit0, lit1, lit2, n]
  unfold F_even_factor b_even_factor
  simp [dTest, dBin, dVar, dC, dMove, dUn, dIf, dTru, dAnd, dOr, dNot, tAndD, tOrD, tNotD, dTup, dLst, aCons, aNil, aStar, dCallB, dCall, dIxS, asB, asTru, truD, Val.d, sSeq, seqK, sIf, sRet, sRetN, sExpr, sSet, setVal, sAsg, gDone, sPar, sNext, itRng1, itRng2, itSeq, gSet, gTupD, gsCons, gsNil, canSet, slotD, seqD, Src.d, Src.ok, asRes, runF, env0, outOf, sizeLine, Res.map, n1, n2, f]
/-! ### the triangle -/
def rowD (n : Nat) (f : Nat → Nat) : Dt := .lst ((List.range n).map fun d => ni (f d))
theorem row_get {n d : Nat} (f : Nat → Nat) (h : d < n) : opIx (rowD n f) (ni d) = .ok (.imm (ni (f d))) := ix_l (by simp [h])
theorem row_put {n k v : Nat} (f : Nat → Nat) (h : k < n) : putD (ni k) (ni v) (rowD n f) = some (rowD n fun d => if d = k then v else f d) := by
  unfold rowD
  rw [putN (ni v) (by simp [h])]
  congr 2
  apply List.ext_getElem?
  intro i
  by_cases hi : i = k
  · subst hi
    rw [List.getElem?_set_self (by simp [h])]
    simp [h]
  · rw [List.getElem?_set_ne (Ne.symm hi)]
    simp only [List.getElem?_map, hi, if_false]
    cases q : (List.range n)[i]? with
    | none => rfl
    | some j =>
      obtain ⟨hl, e2⟩ := List.getElem?_eq_some_iff.mp q
      rw [List.getElem_range] at e2
      subst e2
      simp [hi]
def triB : DS := sPut 2 (dVar 4) (dBin opAdd (dIxS 2 (dVar 4)) (dIxS 2 (dBin opSub (dVar 4) (dC (.int 1)))))
def rowF (g j : Nat) (d : Nat) : Nat := if d ≤ j then ch (d + g + 1) (g + 1) else ch (d + g) g
theorem tri_in (x y s3 : Slot) {N g : Nat} : ∀ (k j : Nat) (w : Slot), NoIo w → j + k < N → ∃ w', NoIo w' ∧ sLoop (gSet 4) triB ((List.range' (j + 1) k).map ni) [x, y, .own (rowD N (rowF g j)), s3, w] = .ok (.nx, [x, y, .own (rowD N (rowF g (j + k))), s3, w'])
  | 0, j, w, hw, _ => ⟨w, hw, by simp [sLoop]⟩
  | k + 1, j, w, hw, h => by
    obtain ⟨w', hw', ih⟩ := tri_in x y s3 (N := N) (g := g) k (j + 1) (.imm (ni (j + 1))) (noio_imm _) (by omega)
    refine ⟨w', hw', ?_⟩
    have g1 := row_get (rowF g j) (show j + 1 < N by omega)
    have g2 := row_get (rowF g j) (show j < N by omega)
    have s := ni_sub (a := j + 1) (b := 1) (by omega)
    rw [Nat.add_sub_cancel] at s
    have p := row_put (k := j + 1) (v := rowF g j (j + 1) + rowF g j j) (rowF g j) (show j + 1 < N by omega)
    have e0 : (fun d => if d = j + 1 then rowF g j (j + 1) + rowF g j j else rowF g j d) = rowF g (j + 1) := by
      funext d
      unfold rowF
      by_cases h1 : d = j + 1
      · subst h1
        have e : ch (j + 1 + g + 1) (g + 1) = ch (j + 1 + g) g + ch (j + 1 + g) (g + 1) := rfl
        have e2 : ch (j + 1 + g) (g + 1) = ch (j + g + 1) (g + 1) := by rw [show j + 1 + g = j + g + 1 by omega]
        rw [if_pos rfl, if_neg (by omega), if_pos (Nat.le_refl _), if_pos (Nat.le_refl _), e, e2]
      · rw [if_neg h1]
        by_cases h2 : d ≤ j
        · rw [if_pos h2, if_pos (by omega)]
        · rw [if_neg h2, if_neg (by omega)]
    rw [e0] at p
    rw [List.range'_succ, List.map_cons]
    unfold sLoop
    rw [gset_ok (s := w) rfl hw]
    have e : triB [x, y, .own (rowD N (rowF g j)), s3, .imm (ni (j + 1))] = .ok (.nx, [x, y, .own (rowD N (rowF g (j + 1))), s3, .imm (ni (j + 1))]) := by
      have il : isLst (.own (rowD N (rowF g j))) = true := rfl
      unfold triB
      simp [dTest, dBin, dVar, dC, dMove, dUn, dIf, dTru, dAnd, dOr, dNot, tAndD, tOrD, tNotD, dTup, dLst, aCons, aNil, aStar, dCallB, dCall, dIxS, asB, asTru, truD, Val.d, sSeq, seqK, sIf, sRet, sRetN, sExpr, sSet, setVal, sAsg, gDone, sPar, sNext, itRng1, itRng2, itSeq, gSet, gTupD, gsCons, gsNil, canSet, slotD, seqD, Src.d, Src.ok, asRes, runF, env0, outOf, sizeLine, Res.map, ni_add, ni_gt, ni_lt, ni_le, ni_ge, ni_abs, ni_int, ni_eq, ni_ne, ni_isi, ni_isb, bLen_l, bLen_t, ixt0, ixt1, ixl0, ixl1, ixl2, lit0, lit1, lit2, sPut, slotWr, g1, g2, s, il, p]
    show ((triB [x, y, .own (rowD N (rowF g j)), s3, .imm (ni (j + 1))]).bind _) = _
    rw [e, Res.bind_ok]
    dsimp only
    rw [ih, show j + 1 + k = j + (k + 1) by omega]
def triF : DS := sFor (itRng2 (aCons (dC (.int 1)) (aCons (dBin opAdd (dVar 1) (dC (.int 1))) aNil))) (gSet 4) triB
theorem rng2_ok {env : Env'} {n : Nat} (h : env[1]? = some (.imm (ni n))) (hn : n < 2 ^ 60) : itRng2 (aCons (dC (.int 1)) (aCons (dBin opAdd (dVar 1) (dC (.int 1))) aNil)) env = .ok ((List.range' 1 n).map ni, env) := by
  have i1 : int62 1 = true := by decide
  have i2 : int62 ((n + 1 : Nat) : Int) = true := decide_eq_true (by simp only [Int.natAbs_natCast]; omega)
  have e2 : (((n + 1 : Nat) : Int) - 1).toNat = n := by omega
  have e3 : opAdd (ni n) (.int 1) = .ok (.imm (.int ((n + 1 : Nat) : Int))) := ni_add n 1
  have e4 := rngD_ni2 1 n
  simp only [itRng2, aCons, aNil, dC, dBin, dVar, h, Res.bind_ok, Val.d, e3, Res.map_ok, i1, i2, and_self, if_true, e2]
  exact congrArg (fun q => Res.ok (q, env)) e4
theorem tri_out (x : Slot) {N : Nat} (hN : N < 2 ^ 60) : ∀ (k g : Nat) (z w : Slot), NoIo z → NoIo w → ∃ z' w', sLoop (gSet 3) triF ((List.range' g k).map ni) [x, .imm (ni N), .own (rowD (N + 1) fun d => ch (d + g) g), z, w] = .ok (.nx, [x, .imm (ni N), .own (rowD (N + 1) fun d => ch (d + (g + k)) (g + k)), z', w'])
  | 0, g, z, w, hz, hw => ⟨z, w, by simp [sLoop]⟩
  | k + 1, g, z, w, hz, hw => by
    obtain ⟨w1, hw1, l⟩ := tri_in x (.imm (ni N)) (.imm (ni g)) (N := N + 1) (g := g) N 0 w hw (by omega)
    have r0 : rowF g 0 = fun d => ch (d + g) g := by
      funext d
      unfold rowF
      by_cases h : d ≤ 0
      · have : d = 0 := by omega
        subst this
        rw [if_pos h, Nat.zero_add, (ch_diag g).1, (ch_diag (g + 1)).1]
      · rw [if_neg h]
    have r1 : rowD (N + 1) (rowF g (0 + N)) = rowD (N + 1) fun d => ch (d + (g + 1)) (g + 1) := by
      unfold rowD
      congr 1
      apply List.map_congr_left
      intro d hd
      have := List.mem_range.mp hd
      unfold rowF
      rw [if_pos (by omega)]
      rfl
    rw [r0, r1] at l
    obtain ⟨z2, w2, ih⟩ := tri_out x hN k (g + 1) (.imm (ni g)) w1 (noio_imm _) hw1
    refine ⟨z2, w2, ?_⟩
    rw [List.range'_succ, List.map_cons]
    unfold sLoop
    rw [gset_ok (s := z) rfl hz]
    have e : triF [x, .imm (ni N), .own (rowD (N + 1) fun d => ch (d + g) g), .imm (ni g), w] = .ok (.nx, [x, .imm (ni N), .own (rowD (N + 1) fun d => ch (d + (g + 1)) (g + 1)), .imm (ni g), w1]) := by
      unfold triF sFor
      rw [rng2_ok rfl hN, Res.bind_ok]
      exact l
    show ((triF [x, .imm (ni N), .own (rowD (N + 1) fun d => ch (d + g) g), .imm (ni g), w]).bind _) = _
    rw [e, Res.bind_ok]
    dsimp only
    rw [ih, show g + 1 + k = g + (k + 1) by omega]
theorem rep_ok (x : Dt) {n : Nat} (h : n ≤ 100000) : opMul (.lst [x]) (ni n) = .ok (.fresh (.lst (List.replicate n x))) := by
  show (if (n : Int).natAbs < 2 ^ 63 ∧ [x].length * (n : Int).toNat ≤ sizeLine then Res.ok (Val.fresh (.lst (List.replicate (n : Int).toNat [x]).flatten)) else .bad) = _
  have hz : sizeLine = 16777216 := by decide
  rw [if_pos ⟨by simp only [Int.natAbs_natCast]; omega, by rw [hz]; simp; omega⟩, Int.toNat_natCast]
  congr 3
  induction n with
  | zero => rfl
  | succ n ih => rw [List.replicate_succ, List.flatten_cons, ih (by omega), List.replicate_succ]; rfl
theorem seq_nx {f g : DS} {env e : Env'} (h : f env = .ok (.nx, e)) : sSeq f g env = g e := by
  unfold sSeq
  rw [h]
  rfl
theorem run_rt {n : Nat} {f : DS} {ds : List Dt} {e e' : Env'} {v : Val} (h0 : env0 false n ds = e) (h : f e = .ok (.rt v, e')) : runF false n f ds = .ok (v, none) := by
  unfold runF
  rw [h0, h]
  rfl
theorem triangle_ok {g d : Nat} (h1 : 1 ≤ g) (h2 : g ≤ 5) (h3 : d ≤ 1000) : F__law_triangle [ni g, ni d] = .ok (.imm (ni (ch (d + g - 1) (g - 1))), none) := by
  obtain ⟨z, w, l⟩ := tri_out (.imm (ni g)) (N := d) (by omega) (g - 1) 0 .un .un noio_un noio_un
  have r0 : (rowD (d + 1) fun d => ch (d + 0) 0) = .lst (List.replicate (d + 1) (ni 1)) := by
    unfold rowD
    congr 1
    rw [show (fun d => ni (ch (d + 0) 0)) = fun _ => ni 1 by funext d; rw [ch_zero]]
    rw [List.map_const', List.length_range]
  rw [r0, Nat.zero_add] at l
  have rp := rep_ok (ni 1) (n := d + 1) (by omega)
  have s1 := ni_sub (a := g) (b := 1) h1
  have i62 : int62 ((g - 1 : Nat) : Int) = true := decide_eq_true (by simp only [Int.natAbs_natCast]; omega)
  have rg : ∀ env : Env', env[0]? = some (.imm (ni g)) → itRng1 (aCons (dBin opSub (dVar 0) (dC (.int 1))) aNil) env = .ok ((List.range' 0 (g - 1)).map ni, env) := fun env he => by
    rw [← rngD_ni]
    have s1' : opSub (ni g) (.int 1) = .ok (.imm (.int ((g - 1 : Nat) : Int))) := s1
    simp only [itRng1, aCons, aNil, dBin, dC, dVar, he, Res.bind_ok, Val.d, s1', Res.map_ok, i62, if_true, Int.toNat_natCast]
  have gt := row_get (n := d + 1) (fun d => ch (d + (g - 1)) (g - 1)) (d := d) (by omega)
  rw [show d + (g - 1) = d + g - 1 by omega] at gt
  have e1 := rg [.imm (ni g), .imm (ni d), .own (.lst (List.replicate (d + 1) (ni 1))), .un, .un] rfl
  have A : sSet 2 (dBin opMul (dLst (aCons (dC (.int 1)) aNil)) (dBin opAdd (dVar 1) (dC (.int 1)))) [.imm (ni g), .imm (ni d), .un, .un, .un] = .ok (.nx, [.imm (ni g), .imm (ni d), .own (.lst (List.replicate (d + 1) (ni 1))), .un, .un]) := by
    simp only [lit1]
    simp [dTest, dBin, dVar, dC, dMove, dUn, dIf, dTru, dAnd, dOr, dNot, tAndD, tOrD, tNotD, dTup, dLst, aCons, aNil, aStar, dCallB, dCall, dIxS, asB, asTru, truD, Val.d, sSeq, seqK, sIf, sRet, sRetN, sExpr, sSet, setVal, sAsg, gDone, sPar, sNext, itRng1, itRng2, itSeq, gSet, gTupD, gsCons, gsNil, canSet, slotD, seqD, Src.d, Src.ok, asRes, runF, env0, outOf, sizeLine, Res.map, ni_add, ni_gt, ni_lt, ni_le, ni_ge, ni_abs, ni_int, ni_eq, ni_ne, ni_isi, ni_isb, bLen_l, bLen_t, ixt0, ixt1, ixl0, ixl1, ixl2, lit0, lit1, lit2, rp]
  have B : sFor (itRng1 (aCons (dBin opSub (dVar 0) (dC (.int 1))) aNil)) (gSet 3) triF [.imm (ni g), .imm (ni d), .own (.lst (List.replicate (d + 1) (ni 1))), .un, .un] = .ok (.nx, [.imm (ni g), .imm (ni d), .own (rowD (d + 1) fun d => ch (d + (g - 1)) (g - 1)), z, w]) := by
    unfold sFor
    rw [e1, Res.bind_ok]
    exact l
  have C : sRet (dIxS 2 (dVar 1)) [.imm (ni g), .imm (ni d), .own (rowD (d + 1) fun d => ch (d + (g - 1)) (g - 1)), z, w] = .ok (.rt (.imm (ni (ch (d + g - 1) (g - 1)))), [.imm (ni g), .imm (ni d), .own (rowD (d + 1) fun d => ch (d + (g - 1)) (g - 1)), z, w]) := by
    simp [dTest, dBin, dVar, dC, dMove, dUn, dIf, dTru, dAnd, dOr, dNot, tAndD, tOrD, tNotD, dTup, dLst, aCons, aNil, aStar, dCallB, dCall, dIxS, asB, asTru, truD, Val.d, sSeq, seqK, sIf, sRet, sRetN, sExpr, sSet, setVal, sAsg, gDone, sPar, sNext, itRng1, itRng2, itSeq, gSet, gTupD, gsCons, gsNil, canSet, slotD, seqD, Src.d, Src.ok, asRes, runF, env0, outOf, sizeLine, Res.map, gt]
  exact run_rt (e := [.imm (ni g), .imm (ni d), .un, .un, .un]) rfl ((seq_nx A).trans ((seq_nx B).trans C))
end G


set_option maxRecDepth 100000
set_option maxHeartbeats 4000000
set_option exponentiation.threshold 30000
namespace G
open PySem PySem.Spec PyProof.Rows L2
/-! ### shown -/
def numP (p : Nat × Nat) : PyData := if p.2 = 1 then .int p.1 else .tuple [.int p.1, .int p.2]
theorem dp_ni (a : Nat) : dToP (ni a) = some (.int a) := rfl
theorem dp_num (p : Nat × Nat) : dToP (numD p) = some (numP p) := by
  unfold numD numP
  split
  · rfl
  · rfl
def Shw (p : PyData) : Prop := okP p = true ∧ wtP p ≤ 30000 ∧ p.depth ≤ 1
theorem shw_int {a : Nat} (h : a < 2 ^ 12900) : Shw (.int a) := ⟨decide_eq_true (by simpa using h), by simp [wtP], by simp [PyData.depth]⟩
theorem shw_num {p : Nat × Nat} (h1 : p.1 < 2 ^ 12900) (h2 : p.2 < 2 ^ 12900) : Shw (numP p) := by
  unfold numP
  split
  · exact shw_int h1
  · refine ⟨?_, by simp [wtP, wtPs], by simp [PyData.depth, PyData.depthAll]⟩
    simp only [okP, okPs, Bool.and_true]
    rw [decide_eq_true (by simpa using h1), decide_eq_true (by simpa using h2)]
    rfl
theorem repr_one {d : Dt} {p : PyData} (hd : dToP d = some p) (h : Shw p) : bRepr [d] = .ok (.imm (.str p.shown)) := by
  have hz : sizeLine = 16777216 := by decide
  have ok : reprOk p = true := by
    unfold reprOk
    rw [h.1, decide_eq_true (by rw [hz]; have := h.2.1; omega), decide_eq_true (by have := h.2.2; omega)]
    rfl
  show (match dToP d with
    | some p => if reprOk p = true then Res.ok (Val.imm (Dt.str p.shown)) else Res.bad
    | none => Res.bad) = _
  rw [hd]
  show (if reprOk p = true then Res.ok (Val.imm (Dt.str p.shown)) else Res.bad) = _
  rw [if_pos ok]
theorem repr_two {d : Dt} {p : PyData} (hd : dToP d = some p) (h : Shw p) : bRepr [.lst [d, d]] = .ok (.imm (.str (PyData.list [p, p]).shown)) := by
  have hz : sizeLine = 16777216 := by decide
  have e : dToP (.lst [d, d]) = some (.list [p, p]) := by simp [dToP, dToPs, hd]
  have ok : reprOk (.list [p, p]) = true := by
    unfold reprOk
    rw [show okP (.list [p, p]) = true by simp [okP, okPs, h.1], decide_eq_true (by rw [hz]; have := h.2.1; simp only [wtP, wtPs]; omega), decide_eq_true (by have := h.2.2; simp only [PyData.depth, PyData.depthAll]; omega)]
    rfl
  show (match dToP (.lst [d, d]) with
    | some p => if reprOk p = true then Res.ok (Val.imm (Dt.str p.shown)) else Res.bad
    | none => Res.bad) = _
  rw [e]
  show (if reprOk (.list [p, p]) = true then Res.ok (Val.imm (Dt.str (PyData.list [p, p]).shown)) else Res.bad) = _
  rw [if_pos ok]
/-! ### the pen in the law -/
theorem drawF_eq : F__law_draw = runF true 6 (drawB 2147483563 52081 7057 2147483543 6067 2147483579) := rfl
theorem draw_law {ns : List Int} {pl rest m : Nat} (hm : 0 < m) (hm2 : m < 2 ^ 64) (hp : pl < 2 ^ 10) : ∃ r pl' rest', r < m ∧ pl' ≤ pl + 1 ∧ F__law_draw [PenD ns pl rest, ni m] = .ok (.imm (ni r), some (PenD ns pl' rest')) := by
  rw [drawF_eq]
  exact draw_ok (p1 := 2147483563) (c1 := 52081) (c2 := 7057) (p2 := 2147483543) (c3 := 6067) (p3 := 2147483579) (by decide) (by decide) (by decide) (by decide) (by decide) (by decide) hm hm2 hp
theorem dr {ns : List Int} {pl rest m : Nat} (hm : 0 < m) (hm2 : m < 2 ^ 64) (hp : pl < 2 ^ 10) {env : Env'} (h : env[1]? = some (.own (PenD ns pl rest))) :
    ∃ r pl' rest', r < m ∧ pl' ≤ pl + 1 ∧ dCallIo 1 2 F__law_draw (aCons (dC (ni m)) aNil) env = .ok (.imm (ni r), env.set 1 (.own (PenD ns pl' rest'))) := by
  obtain ⟨r, pl', rest', h1, h2, h3⟩ := draw_law (ns := ns) (rest := rest) hm hm2 hp
  refine ⟨r, pl', rest', h1, h2, ?_⟩
  simp [dCallIo, h, isOwn, aCons, aNil, dC, Val.d, asIo, h3, asResIo]
theorem one_of {ns : List Int} {pl rest : Nat} {ds : List Dt} (h0 : 0 < ds.length) (hl : ds.length < 2 ^ 64) (hp : pl < 2 ^ 10) :
    ∃ d ∈ ds, ∃ pl' rest', pl' ≤ pl + 1 ∧ F__law_one_of [PenD ns pl rest, .lst ds] = .ok (.imm d, some (PenD ns pl' rest')) := by
  obtain ⟨r, pl', rest', h1, h2, h3⟩ := draw_law (ns := ns) (rest := rest) h0 hl hp
  refine ⟨ds[r], List.getElem_mem h1, pl', rest', h2, ?_⟩
  have x := ix_l (List.getElem?_eq_getElem h1)
  unfold F__law_one_of b__law_one_of
  simp [dTest, dBin, dVar, dC, dMove, dUn, dIf, dTru, dAnd, dOr, dNot, tAndD, tOrD, tNotD, dTup, dLst, aCons, aNil, aStar, dCallB, dCall, dIxS, asB, asTru, truD, Val.d, sSeq, seqK, sIf, sRet, sRetN, sExpr, sSet, setVal, sAsg, gDone, sPar, sNext, itRng1, itRng2, itSeq, gSet, gTupD, gsCons, gsNil, canSet, slotD, seqD, Src.d, Src.ok, asRes, runF, env0, outOf, sizeLine, Res.map, ni_add, ni_gt, ni_lt, ni_le, ni_ge, ni_abs, ni_int, ni_eq, ni_ne, ni_isi, ni_isb, bLen_l, bLen_t, ixt0, ixt1, ixl0, ixl1, ixl2, lit0, lit1, lit2, dCallIo, isOwn, asIo, h3, asResIo, x]
theorem oo {ns : List Int} {pl rest : Nat} {ds : List Dt} (h0 : 0 < ds.length) (hl : ds.length < 2 ^ 64) (hp : pl < 2 ^ 10) {env e : Env'} {f : DE} {v : Val} (hi : (env[1]?.map isOwn) = some true) (hf : f env = .ok (v, e)) (hv : v.d = .lst ds) (he : e[1]? = some (.own (PenD ns pl rest))) :
    ∃ d ∈ ds, ∃ pl' rest', pl' ≤ pl + 1 ∧ dCallIo 1 2 F__law_one_of (aCons f aNil) env = .ok (.imm d, e.set 1 (.own (PenD ns pl' rest'))) := by
  obtain ⟨d, hd, pl', rest', h2, h3⟩ := one_of (ns := ns) (rest := rest) h0 hl hp
  refine ⟨d, hd, pl', rest', h2, ?_⟩
  unfold dCallIo
  rw [if_pos hi]
  simp [aCons, aNil, hf, hv, asIo, he, h3, asResIo]
/-- the law's slots -/
abbrev LE (s0 p s2 s3 s4 s5 s6 s7 s8 s9 s10 s11 s12 : Slot) : Env' := [s0, p, s2, s3, s4, s5, s6, s7, s8, s9, s10, s11, s12]
def cntE : DE := dCallIo 1 2 F__law_one_of (aCons (dLst (aCons (dC (.int 0)) (aCons (dC (.int 1)) (aCons (dC (.int 2)) (aCons (dCallIo 1 2 F__law_draw (aCons (dC (.int 9)) aNil)) (aCons (dBin opMul (dCallIo 1 2 F__law_draw (aCons (dC (.int 9)) aNil)) (dCallIo 1 2 F__law_draw (aCons (dC (.int 30)) aNil))) aNil)))))) aNil)
theorem cnt_ok {ns : List Int} {pl rest : Nat} (hp : pl < 1000) {s0 s2 s3 s4 s5 s6 s7 s8 s9 s10 s11 s12 : Slot} : ∃ v pl' rest', v ≤ 232 ∧ pl' ≤ pl + 4 ∧
    cntE (LE s0 (.own (PenD ns pl rest)) s2 s3 s4 s5 s6 s7 s8 s9 s10 s11 s12) = .ok (.imm (ni v), LE s0 (.own (PenD ns pl' rest')) s2 s3 s4 s5 s6 s7 s8 s9 s10 s11 s12) := by
  obtain ⟨a, p1, r1, ha, hp1, e1⟩ := dr (m := 9) (ns := ns) (pl := pl) (rest := rest) (by decide) (by decide) (by omega) (env := LE s0 (.own (PenD ns pl rest)) s2 s3 s4 s5 s6 s7 s8 s9 s10 s11 s12) rfl
  obtain ⟨b, p2, r2, hb, hp2, e2⟩ := dr (m := 9) (ns := ns) (pl := p1) (rest := r1) (by decide) (by decide) (by omega) (env := LE s0 (.own (PenD ns p1 r1)) s2 s3 s4 s5 s6 s7 s8 s9 s10 s11 s12) rfl
  obtain ⟨c, p3, r3, hc, hp3, e3⟩ := dr (m := 30) (ns := ns) (pl := p2) (rest := r2) (by decide) (by decide) (by omega) (env := LE s0 (.own (PenD ns p2 r2)) s2 s3 s4 s5 s6 s7 s8 s9 s10 s11 s12) rfl
  have mm := ni_mulL (a := b) (b := c) (by omega)
  have l9 : Dt.int 9 = ni 9 := rfl
  have l30 : Dt.int 30 = ni 30 := rfl
  have hf : (dLst (aCons (dC (.int 0)) (aCons (dC (.int 1)) (aCons (dC (.int 2)) (aCons (dCallIo 1 2 F__law_draw (aCons (dC (.int 9)) aNil)) (aCons (dBin opMul (dCallIo 1 2 F__law_draw (aCons (dC (.int 9)) aNil)) (dCallIo 1 2 F__law_draw (aCons (dC (.int 30)) aNil))) aNil)))))) (LE s0 (.own (PenD ns pl rest)) s2 s3 s4 s5 s6 s7 s8 s9 s10 s11 s12) =
      .ok (.fresh (.lst [ni 0, ni 1, ni 2, ni a, ni (b * c)]), LE s0 (.own (PenD ns p3 r3)) s2 s3 s4 s5 s6 s7 s8 s9 s10 s11 s12) := by
    simp only [lit0, lit1, lit2, l9, l30, List.set_cons_succ, List.set_cons_zero] at e1 e2 e3 ⊢
    generalize dCallIo 1 2 F__law_draw (aCons (dC (ni 9)) aNil) = D9 at e1 e2 ⊢
    generalize dCallIo 1 2 F__law_draw (aCons (dC (ni 30)) aNil) = D30 at e3 ⊢
    simp [dLst, aCons, aNil, dC, dBin, Val.d, e1, e2, e3, mm, sizeLine]
  obtain ⟨d, hd, p4, r4, hp4, e4⟩ := oo (ns := ns) (pl := p3) (rest := r3) (by simp) (by simp) (by omega) rfl hf rfl rfl
  have bc : b * c ≤ 8 * 29 := Nat.mul_le_mul (by omega) (by omega)
  have : ∃ v, v ≤ 232 ∧ d = ni v := by
    simp only [List.mem_cons, List.not_mem_nil, or_false] at hd
    rcases hd with rfl | rfl | rfl | rfl | rfl
    · exact ⟨0, by omega, rfl⟩
    · exact ⟨1, by omega, rfl⟩
    · exact ⟨2, by omega, rfl⟩
    · exact ⟨a, by omega, rfl⟩
    · exact ⟨b * c, by omega, rfl⟩
  obtain ⟨v, hv, rfl⟩ := this
  exact ⟨v, p4, r4, hv, by omega, e4⟩
end G


set_option maxRecDepth 100000
set_option maxHeartbeats 4000000
set_option exponentiation.threshold 30000
namespace G
open PySem PySem.Spec PyProof.Rows L2
/-! ### slices, equality of pairs -/
theorem cut_take {α : Type} (xs : List α) (k : Nat) : cutG xs none (some (k : Int)) = xs.take k := by
  unfold cutG
  rw [HT.sIx_none, HT.sIx_nat, List.drop_zero, Nat.sub_zero]
  by_cases h : k ≤ xs.length
  · rw [Nat.min_eq_left h]
  · rw [Nat.min_eq_right (by omega), List.take_of_length_le (Nat.le_refl _), List.take_of_length_le (by omega)]
theorem cut_drop {α : Type} (xs : List α) (k : Nat) : cutG xs (some (k : Int)) none = xs.drop k := by
  unfold cutG
  rw [HT.sIx_none, HT.sIx_nat]
  by_cases h : k ≤ xs.length
  · rw [Nat.min_eq_left h]
    exact List.take_of_length_le (by simp)
  · rw [Nat.min_eq_right (by omega), List.drop_of_length_le (Nat.le_refl _), List.drop_of_length_le (by omega), List.take_nil]
theorem cut_last {α : Type} (xs : List α) : cutG xs none (some (-1)) = xs.take (xs.length - 1) := by
  have e : HT.sIx xs.length xs.length (some (-1)) = xs.length - 1 := by
    show (if (-1 : Int) < 0 then ((-1 : Int) + (xs.length : Int)).toNat else min (-1 : Int).toNat xs.length) = _
    rw [if_pos (by decide)]
    omega
  unfold cutG
  rw [HT.sIx_none, e, List.drop_zero, Nat.sub_zero]
theorem cat_ok {a b : List Dt} (h : a.length + b.length ≤ 1000) : opAdd (.lst a) (.lst b) = .ok (.fresh (.lst (a ++ b))) := by
  have hz : sizeLine = 16777216 := by decide
  show (if a.length + b.length ≤ sizeLine then Res.ok (Val.fresh (.lst (a ++ b))) else .bad) = _
  rw [if_pos (by rw [hz]; omega)]
theorem eqv_pair (p q : Nat × Nat) : PyData.eqv (.tuple [.int p.1, .int p.2]) (.tuple [.int q.1, .int q.2]) = decide (p = q) := by
  have e : PyData.eqv (.tuple [.int p.1, .int p.2]) (.tuple [.int q.1, .int q.2]) = (PyData.eqv (.int p.1) (.int q.1) && (PyData.eqv (.int p.2) (.int q.2) && true)) := by
    simp only [PyData.eqv, PyData.eqvAll]
  rw [e, eqv_ni, eqv_ni, Bool.and_true]
  obtain ⟨a, b⟩ := p
  obtain ⟨c, d⟩ := q
  by_cases h1 : a = c
  · by_cases h2 : b = d
    · simp [h1, h2]
    · simp [h2]
  · simp [h1]
theorem sh_pair (p : Nat × Nat) : SeqAt.shaped (.tuple [.int p.1, .int p.2]) = true := by simp [SeqAt.shaped, PyData.canLay0, PyData.canLayAll0, PyData.depth, PyData.depthAll]
theorem ne_pair (p q : Nat × Nat) : eqS true (pairD p) (pairD q) = .ok (.imm (.bl (!decide (p = q)))) := by
  show (if SeqAt.shaped (.tuple [.int p.1, .int p.2]) && SeqAt.shaped (.tuple [.int q.1, .int q.2]) then vB (!PyData.eqv (.tuple [.int p.1, .int p.2]) (.tuple [.int q.1, .int q.2])) else Res.bad) = _
  rw [sh_pair, sh_pair, eqv_pair]
  rfl
theorem eq_pair (p q : Nat × Nat) : eqS false (pairD p) (pairD q) = .ok (.imm (.bl (decide (p = q)))) := by
  show (if SeqAt.shaped (.tuple [.int p.1, .int p.2]) && SeqAt.shaped (.tuple [.int q.1, .int q.2]) then vB (PyData.eqv (.tuple [.int p.1, .int p.2]) (.tuple [.int q.1, .int q.2])) else Res.bad) = _
  rw [sh_pair, sh_pair, eqv_pair]
  rfl
theorem ix_last (xs : List Dt) (d : Dt) : opIx (.lst (xs ++ [d])) (.int (-1)) = .ok (.imm d) := by
  show (match L2.atI (xs ++ [d]) (-1) with
    | some d => Res.ok (Val.imm d)
    | none => Res.bad) = _
  rw [L2.atI_last]
theorem ni_neg1 : opNeg (ni 1) = .ok (.imm (.int (-1))) := rfl
/-! ### the counts -/
theorem cnt_loop {ns : List Int} {s0 s2 s3 s4 s5 s6 s7 s8 s9 s10 s12 : Slot} : ∀ (k t pl rest : Nat), pl + 4 * k < 1000 → ∃ (vs : List Nat) (pl' rest' : Nat), vs.length = k ∧ (∀ v ∈ vs, v ≤ 232) ∧ pl' ≤ pl + 4 * k ∧
    lcLoop [11] (gSet 11) dYes cntE ((List.range' t k).map ni) (LE s0 (.own (PenD ns pl rest)) s2 s3 s4 s5 s6 s7 s8 s9 s10 .un s12) = .ok (vs.map ni, LE s0 (.own (PenD ns pl' rest')) s2 s3 s4 s5 s6 s7 s8 s9 s10 .un s12)
  | 0, t, pl, rest, _ => ⟨[], pl, rest, rfl, by simp, by omega, rfl⟩
  | k + 1, t, pl, rest, h => by
    obtain ⟨v, p1, r1, hv, hp1, e1⟩ := cnt_ok (ns := ns) (pl := pl) (rest := rest) (by omega) (s0 := s0) (s2 := s2) (s3 := s3) (s4 := s4) (s5 := s5) (s6 := s6) (s7 := s7) (s8 := s8) (s9 := s9) (s10 := s10) (s11 := .imm (ni t)) (s12 := s12)
    obtain ⟨vs, p2, r2, h1, h2, h3, ih⟩ := cnt_loop (ns := ns) (s0 := s0) (s2 := s2) (s3 := s3) (s4 := s4) (s5 := s5) (s6 := s6) (s7 := s7) (s8 := s8) (s9 := s9) (s10 := s10) (s12 := s12) k (t + 1) p1 r1 (by omega)
    refine ⟨v :: vs, p2, r2, by rw [List.length_cons, h1], fun x hx => ?_, by omega, ?_⟩
    · rcases List.mem_cons.mp hx with rfl | hx
      · exact hv
      · exact h2 x hx
    · rw [List.range'_succ, List.map_cons]
      unfold lcLoop
      have e2 : lcTurn [11] (gSet 11) dYes cntE (ni t) (LE s0 (.own (PenD ns pl rest)) s2 s3 s4 s5 s6 s7 s8 s9 s10 .un s12) = .ok (some (ni v), LE s0 (.own (PenD ns p1 r1)) s2 s3 s4 s5 s6 s7 s8 s9 s10 .un s12) := by
        unfold lcTurn
        rw [gset_ok (s := .un) rfl noio_un]
        simp only [List.set_cons_succ, List.set_cons_zero, Res.bind_ok, dYes, Res.hard, if_true, e1, wipeE, Val.d]
      rw [e2, Res.bind_ok, ih]
      rfl
/-! ### one more of each -/
def moreE : DE := dCall F__law_even ⟨1, [], [.pos 0]⟩ (aCons (dBin opAdd (dBin opAdd (dSl (dVar 4) oNone (oSome (dVar 11))) (dLst (aCons (dBin opAdd (dIxS 4 (dVar 11)) (dC (.int 1))) aNil))) (dSl (dVar 4) (oSome (dBin opAdd (dVar 11) (dC (.int 1)))) oNone)) aNil) aNil
theorem more_ok {cs : List Nat} (h1 : 0 < cs.length) (h2 : cs.length ≤ 5) (h3 : cs.sum ≤ 1160) {g : Nat} (hg : g < cs.length) {s0 p s2 s3 s5 s6 s7 s8 s9 s10 s12 : Slot} :
    moreE (LE s0 p s2 s3 (.imm (.lst (cs.map ni))) s5 s6 s7 s8 s9 s10 (.imm (ni g)) s12) = .ok (.imm (pairD (1, Mw (cs.length - 1) (bump cs g))), LE s0 p s2 s3 (.imm (.lst (cs.map ni))) s5 s6 s7 s8 s9 s10 (.imm (ni g)) s12) := by
  have ev := even_ok (cs := bump cs g) (by rw [bump_len hg]; exact h1) (by rw [bump_len hg]; exact h2) (by rw [bump_sum hg]; omega)
  rw [bump_len hg] at ev
  have x : opIx (.lst (cs.map ni)) (ni g) = .ok (.imm (ni (cs.getD g 0))) := ix_l (by simp [hg])
  have c1 : cutG (cs.map ni) none (some (g : Int)) = (cs.take g).map ni := by rw [cut_take, List.map_take]
  have c2 : cutG (cs.map ni) (some ((g + 1 : Nat) : Int)) none = (cs.drop (g + 1)).map ni := by rw [cut_drop, List.map_drop]
  have a1 := cat_ok (a := (cs.take g).map ni) (b := [ni (cs.getD g 0 + 1)]) (by simp; omega)
  have a2 := cat_ok (a := (cs.take g).map ni ++ [ni (cs.getD g 0 + 1)]) (b := (cs.drop (g + 1)).map ni) (by simp; omega)
  have e : (cs.take g).map ni ++ [ni (cs.getD g 0 + 1)] ++ (cs.drop (g + 1)).map ni = (bump cs g).map ni := by
    unfold bump
    simp only [List.map_append, List.map_cons, List.map_nil]
  rw [e] at a2
  have o1 : slD (.lst (cs.map ni)) none (some (g : Int)) = .ok (.fresh (.lst ((cs.take g).map ni))) := by
    show Res.ok (Val.fresh (Dt.lst (cutG (cs.map ni) none (some (g : Int))))) = _
    rw [c1]
  have o2 : slD (.lst (cs.map ni)) (some ((g + 1 : Nat) : Int)) none = .ok (.fresh (.lst ((cs.drop (g + 1)).map ni))) := by
    show Res.ok (Val.fresh (Dt.lst (cutG (cs.map ni) (some ((g + 1 : Nat) : Int)) none))) = _
    rw [c2]
  have i1 : ∀ (n : Nat) (e : Env'), asI (.imm (ni n), e) = .ok (some (n : Int), e) := fun _ _ => rfl
  clear c1 c2 e
  generalize (cs.take g).map ni = A1 at o1 a1 a2
  generalize (cs.drop (g + 1)).map ni = A2 at o2 a2
  generalize (bump cs g).map ni = A3 at a2 ev
  generalize cs.getD g 0 = c at x a1 a2
  generalize cs.map ni = ds at o1 o2 x ⊢
  have o3 : slD (.lst ds) (some ((g : Int) + 1)) none = .ok (.fresh (.lst A2)) := o2
  unfold moreE
  simp only [lit1]
  simp [o3, dCall, aCons, aNil, dBin, dSl, oNone, oSome, dVar, dLst, dIxS, slotD, dC, Val.d, i1, o1, x, ni_add, sizeLine, a1, o2, a2, Src.d, Src.ok, ev, asRes]
theorem more_loop {cs : List Nat} (h1 : 0 < cs.length) (h2 : cs.length ≤ 5) (h3 : cs.sum ≤ 1160) {s0 p s2 s3 s5 s6 s7 s8 s9 s10 s12 : Slot} : ∀ (k t : Nat), t + k ≤ cs.length →
    lcLoop [11] (gSet 11) dYes moreE ((List.range' t k).map ni) (LE s0 p s2 s3 (.imm (.lst (cs.map ni))) s5 s6 s7 s8 s9 s10 .un s12) =
      .ok ((List.range' t k).map fun g => pairD (1, Mw (cs.length - 1) (bump cs g)), LE s0 p s2 s3 (.imm (.lst (cs.map ni))) s5 s6 s7 s8 s9 s10 .un s12)
  | 0, t, _ => rfl
  | k + 1, t, h => by
    have e1 := more_ok h1 h2 h3 (g := t) (by omega) (s0 := s0) (p := p) (s2 := s2) (s3 := s3) (s5 := s5) (s6 := s6) (s7 := s7) (s8 := s8) (s9 := s9) (s10 := s10) (s12 := s12)
    have ih := more_loop h1 h2 h3 (s0 := s0) (p := p) (s2 := s2) (s3 := s3) (s5 := s5) (s6 := s6) (s7 := s7) (s8 := s8) (s9 := s9) (s10 := s10) (s12 := s12) k (t + 1) (by omega)
    rw [List.range'_succ, List.map_cons, List.map_cons]
    unfold lcLoop
    have e2 : lcTurn [11] (gSet 11) dYes moreE (ni t) (LE s0 p s2 s3 (.imm (.lst (cs.map ni))) s5 s6 s7 s8 s9 s10 .un s12) = .ok (some (pairD (1, Mw (cs.length - 1) (bump cs t))), LE s0 p s2 s3 (.imm (.lst (cs.map ni))) s5 s6 s7 s8 s9 s10 .un s12) := by
      unfold lcTurn
      rw [gset_ok (s := .un) rfl noio_un]
      simp only [List.set_cons_succ, List.set_cons_zero, Res.bind_ok, dYes, Res.hard, if_true, e1, wipeE, Val.d]
    rw [e2, Res.bind_ok, ih]
    rfl
theorem sum_getD : ∀ (cs : List Nat), ((List.range' 0 cs.length).map fun g => cs.getD g 0 + 1).sum = cs.sum + cs.length := fun cs => by
  have key : ∀ (cs pre : List Nat), ((List.range' pre.length cs.length).map fun g => (pre ++ cs).getD g 0 + 1).sum = cs.sum + cs.length := by
    intro cs
    induction cs with
    | nil => intro pre; rfl
    | cons c cs ih =>
      intro pre
      have h := ih (pre ++ [c])
      rw [List.length_append, List.append_assoc] at h
      simp only [List.length_cons, List.length_nil, List.singleton_append] at h
      rw [List.length_cons, List.range'_succ, List.map_cons, List.sum_cons, List.sum_cons]
      have e : (pre ++ c :: cs).getD pre.length 0 = c := by simp
      rw [e]
      have h' : ((List.range' (pre.length + 1) cs.length).map fun g => (pre ++ c :: cs).getD g 0 + 1).sum = cs.sum + cs.length := h
      omega
  exact key cs []
theorem Mw_bnd {cs : List Nat} {m : Nat} (h2 : cs.length ≤ 5) (h3 : m + cs.sum ≤ 1170) : Mw m cs ≤ 2 ^ 5850 := Nat.le_trans (Mw_le cs m) (pow_mono (by
  have := Nat.mul_le_mul h3 h2
  omega))
theorem more_sum {cs : List Nat} (h1 : 0 < cs.length) (h2 : cs.length ≤ 5) (h3 : cs.sum ≤ 1160) :
    F__law_sum [.lst ((List.range' 0 cs.length).map fun g => pairD (1, Mw (cs.length - 1) (bump cs g)))] = .ok (.imm (pairD (1, Mw (cs.length - 1) cs)), none) := by
  have hM := Mw_pos cs (cs.length - 1)
  have hb := Mw_bnd (cs := cs) (m := cs.length - 1) h2 (by omega)
  have hT : Mw (cs.length - 1) cs * (cs.sum + cs.length) < 2 ^ 5900 := by
    have h := Nat.mul_le_mul hb (show cs.sum + cs.length ≤ 2 ^ 11 by omega)
    rw [← Nat.pow_add] at h
    exact Nat.lt_of_le_of_lt h (Nat.pow_lt_pow_right (by decide) (by decide))
  have s := sum_ok (T := Mw (cs.length - 1) cs * (cs.sum + cs.length)) (Nat.mul_pos hM (by omega)) hT (mc := (List.range' 0 cs.length).map fun g => (Mw (cs.length - 1) (bump cs g), cs.getD g 0 + 1)) (fun p hp => by
    obtain ⟨g, hg, rfl⟩ := List.mem_map.mp hp
    have hg' : g < cs.length := by
      have := List.mem_range'.mp hg
      omega
    refine ⟨?_, Mw_pos _ _⟩
    rw [Mw_bump hg']
    congr 1
    omega) (by
    rw [List.map_map]
    show ((List.range' 0 cs.length).map fun g => cs.getD g 0 + 1).sum ≤ _
    rw [sum_getD]
    omega)
  rw [List.map_map, List.map_map] at s
  have e1 : ((fun p : Nat × Nat => pairD (1, p.1)) ∘ fun g => (Mw (cs.length - 1) (bump cs g), cs.getD g 0 + 1)) = fun g => pairD (1, Mw (cs.length - 1) (bump cs g)) := rfl
  have e2 : ((List.range' 0 cs.length).map ((fun p : Nat × Nat => p.2) ∘ fun g => (Mw (cs.length - 1) (bump cs g), cs.getD g 0 + 1))).sum = cs.sum + cs.length := sum_getD cs
  rw [e1] at s
  have e3 : red (cs.sum + cs.length) (Mw (cs.length - 1) cs * (cs.sum + cs.length)) = (1, Mw (cs.length - 1) cs) := by
    rw [Nat.mul_comm]
    exact red_cancel (by omega) hM
  rw [← e3, ← e2] 
  rw [e2] at s ⊢
  exact s
end G


set_option maxRecDepth 100000
set_option maxHeartbeats 4000000
set_option exponentiation.threshold 30000
namespace G
open PySem PySem.Spec PyProof.Rows L2
def tB1 : DS := (sSet 3 (dBin opAdd (dC (.int 1)) (dCallIo 1 2 F__law_draw (aCons (dC (.int 5)) aNil))))
def tB2 : DS := (sSet 4 (dLc [11] (itRng1 (aCons (dVar 3) aNil)) (gSet 11) dYes cntE))
def tB3 : DS := (sSet 5 (dCall F__law_even ⟨1, [], [.pos 0]⟩ (aCons (dVar 4) aNil) aNil))
def tB4 : DS := (sIf (dTest (dBin (eqS true) (dCallB bRepr (aCons (dLst (aCons (dCall F_even_weight ⟨1, [], [.pos 0]⟩ (aCons (dVar 4) aNil) aNil) (aCons (dCall F_even_weight ⟨0, ["counts"], [.kw 0]⟩ aNil (aCons (dCallB bTuple (aCons (dVar 4) aNil)) aNil)) aNil))) aNil)) (dCallB bRepr (aCons (dBin opMul (dLst (aCons (dCall F__law_number ⟨1, [], [.pos 0]⟩ (aCons (dVar 5) aNil) aNil) aNil)) (dC (.int 2))) aNil)))) (sRet (dC (.bl false))) sNext)
def tB5 : DS := (sSet 6 (dLc [11] (itRng1 (aCons (dVar 3) aNil)) (gSet 11) dYes moreE))
def tB6 : DS := (sIf (tOrD (dTest (dBin (eqS true) (dCall F__law_sum ⟨1, [], [.pos 0]⟩ (aCons (dVar 6) aNil) aNil) (dVar 5))) (dTest (dBin (eqS true) (dCallB bRepr (aCons (dCall F_even_weight ⟨1, [], [.pos 0]⟩ (aCons (dBin opAdd (dSl (dVar 4) oNone (oSome (dUn opNeg (dC (.int 1))))) (dLst (aCons (dBin opAdd (dIxS 4 (dUn opNeg (dC (.int 1)))) (dC (.int 1))) aNil))) aNil) aNil) aNil)) (dCallB bRepr (aCons (dCall F__law_number ⟨1, [], [.pos 0]⟩ (aCons (dIxS 6 (dUn opNeg (dC (.int 1)))) aNil) aNil) aNil))))) (sRet (dC (.bl false))) sNext)
def tB7 : DS := (sSet 7 (dCallIo 1 2 F__law_one_of (aCons (dLst (aCons (dC (.int 3)) (aCons (dC (.int 0)) (aCons (dC (.int 1)) (aCons (dC (.int 12)) (aCons (dCallIo 1 2 F__law_draw (aCons (dC (.int 60)) aNil)) (aCons (dIf (dTest (dBin opLt (dVar 3) (dC (.int 3)))) (dC (.int 1000)) (dC (.int 200))) aNil))))))) aNil)))
def tB8 : DS := (sIf (dTest (dBin (eqS true) (dCallB bRepr (aCons (dLst (aCons (dCall F_even_factor ⟨2, [], [.pos 0, .pos 1]⟩ (aCons (dVar 3) (aCons (dVar 7) aNil)) aNil) (aCons (dCall F_even_factor ⟨0, ["days", "goods"], [.kw 1, .kw 0]⟩ aNil (aCons (dVar 7) (aCons (dVar 3) aNil))) aNil))) aNil)) (dCallB bRepr (aCons (dBin opMul (dLst (aCons (dCall F__law_triangle ⟨2, [], [.pos 0, .pos 1]⟩ (aCons (dVar 3) (aCons (dVar 7) aNil)) aNil) aNil)) (dC (.int 2))) aNil)))) (sRet (dC (.bl false))) sNext)
def turnB : DS := (sSeq tB1 (sSeq tB2 (sSeq tB3 (sSeq tB4 (sSeq tB5 (sSeq tB6 (sSeq tB7 tB8)))))))
def lB1 : DS := (sSet 1 (dCall F__law_pen ⟨1, [], [.pos 0]⟩ (aCons (dVar 0) aNil) aNil))
def lB2 : DS := (sFor (itRng1 (aCons (dC (.int 3)) aNil)) (gSet 2) turnB)
def lB3 : DS := (sPar 3 7 (aCons (dCallIo 1 2 F__law_one_of (aCons (dLst (aCons (dC (.int 2)) (aCons (dC (.int 3)) (aCons (dC (.int 1)) aNil)))) aNil)) (aCons (dCallIo 1 2 F__law_draw (aCons (dC (.int 5)) aNil)) aNil)))
def lB4 : DS := (sSet 8 (dLst aNil))
def lB5 : DS := (sFor (itSeq (dCall F__law_words ⟨2, [], [.pos 0, .pos 1]⟩ (aCons (dVar 3) (aCons (dVar 7) aNil)) aNil)) (gSet 9) (sSeq (sSet 10 (dCall F_even_weight ⟨1, [], [.pos 0]⟩ (aCons (dLc [11] (itRng1 (aCons (dVar 3) aNil)) (gSet 11) dYes (dCallB bLen (aCons (dLc [12] (itSeq (dVar 9)) (gSet 12) (dTest (dBin (eqS false) (dVar 12) (dVar 11))) (dC (.int 1))) aNil))) aNil) aNil))
    (sApp 8 (dIf (dTru (dUn (isiD "int") (dVar 10))) (dTup (aCons (dVar 10) (aCons (dC (.int 1)) aNil))) (dVar 10)))))
def lB6 : DS := (sRet (dAnd (dBin (eqS false) (dCall F__law_sum ⟨1, [], [.pos 0]⟩ (aCons (dVar 8) aNil) aNil) (dTup (aCons (dC (.int 1)) (aCons (dC (.int 1)) aNil)))) (dAnd (dBin (eqS false) (dCall F_even_weight ⟨1, [], [.pos 0]⟩ (aCons (dLst (aCons (dC (.int 1000)) aNil)) aNil) aNil) (dC (.int 1))) (dBin (eqS false) (dCall F_even_factor ⟨2, [], [.pos 0, .pos 1]⟩ (aCons (dC (.int 5)) (aCons (dC (.int 1000)) aNil)) aNil) (dBin opFDiv (dBin opMul (dBin opMul (dBin opMul (dC (.int 1004)) (dC (.int 1003))) (dC (.int 1002))) (dC (.int 1001))) (dC (.int 24)))))))
theorem b_law_eq : b_law = (sSeq lB1 (sSeq lB2 (sSeq lB3 (sSeq lB4 (sSeq lB5 lB6))))) := rfl
theorem set_imm {env e : Env'} {i : Nat} {f : DE} {d : Dt} {s : Slot} (h : f env = .ok (.imm d, e)) (h1 : e[i]? = some s) (h2 : NoIo s) : sSet i f env = .ok (.nx, e.set i (.imm d)) := by
  unfold sSet
  rw [h, Res.bind_ok]
  unfold setVal
  dsimp only
  rw [if_pos (cs_of h1 h2)]
theorem set_fresh {env e : Env'} {i : Nat} {f : DE} {d : Dt} {s : Slot} (h : f env = .ok (.fresh d, e)) (h1 : e[i]? = some s) (h2 : NoIo s) : sSet i f env = .ok (.nx, e.set i (.own d)) := by
  unfold sSet
  rw [h, Res.bind_ok]
  unfold setVal
  dsimp only
  rw [if_pos (cs_of h1 h2)]
theorem if_no {env e : Env'} {t : DT} {f : DS} (h : t env = .ok (false, e)) : sIf t f sNext env = .ok (.nx, e) := by
  unfold sIf
  rw [h]
  rfl
def SOk (s3 s4 s5 s6 s7 s8 s9 s10 : Slot) : Prop := NoIo s3 ∧ NoIo s4 ∧ NoIo s5 ∧ NoIo s6 ∧ NoIo s7 ∧ NoIo s8 ∧ NoIo s9 ∧ NoIo s10
theorem turn_ok {ns : List Int} {pl rest : Nat} (hp : pl < 900) {s0 s2 s3 s4 s5 s6 s7 s8 s9 s10 : Slot} (hs : SOk s3 s4 s5 s6 s7 s8 s9 s10) :
    ∃ pl' rest' t3 t4 t5 t6 t7, SOk t3 t4 t5 t6 t7 s8 s9 s10 ∧ pl' ≤ pl + 23 ∧ turnB (LE s0 (.own (PenD ns pl rest)) s2 s3 s4 s5 s6 s7 s8 s9 s10 .un .un) = .ok (.nx, LE s0 (.own (PenD ns pl' rest')) s2 t3 t4 t5 t6 t7 s8 s9 s10 .un .un) := by
  obtain ⟨n3, n4, n5, n6, n7, n8, n9, n10⟩ := hs
  -- goods
  obtain ⟨a, p1, r1, ha, hp1, e1⟩ := dr (m := 5) (ns := ns) (pl := pl) (rest := rest) (by decide) (by decide) (by omega) (env := LE s0 (.own (PenD ns pl rest)) s2 s3 s4 s5 s6 s7 s8 s9 s10 .un .un) rfl
  have B1 : tB1 (LE s0 (.own (PenD ns pl rest)) s2 s3 s4 s5 s6 s7 s8 s9 s10 .un .un) = .ok (.nx, LE s0 (.own (PenD ns p1 r1)) s2 (.imm (ni (1 + a))) s4 s5 s6 s7 s8 s9 s10 .un .un) := by
    unfold tB1
    refine set_imm (e := LE s0 (.own (PenD ns p1 r1)) s2 s3 s4 s5 s6 s7 s8 s9 s10 .un .un) (s := s3) ?_ rfl n3
    simp only [lit1, show Dt.int 5 = ni 5 from rfl]
    generalize dCallIo 1 2 F__law_draw (aCons (dC (ni 5)) aNil) = D5 at e1 ⊢
    simp [dBin, dC, e1, Val.d, ni_add]
  -- counts
  obtain ⟨cs, p2, r2, hl, hv, hp2, e2⟩ := cnt_loop (ns := ns) (s0 := s0) (s2 := s2) (s3 := .imm (ni (1 + a))) (s4 := s4) (s5 := s5) (s6 := s6) (s7 := s7) (s8 := s8) (s9 := s9) (s10 := s10) (s12 := .un) (1 + a) 0 p1 r1 (by omega)
  have hz : sizeLine = 16777216 := by decide
  have B2 : tB2 (LE s0 (.own (PenD ns p1 r1)) s2 (.imm (ni (1 + a))) s4 s5 s6 s7 s8 s9 s10 .un .un) = .ok (.nx, LE s0 (.own (PenD ns p2 r2)) s2 (.imm (ni (1 + a))) (.own (.lst (cs.map ni))) s5 s6 s7 s8 s9 s10 .un .un) := by
    unfold tB2
    refine set_fresh (e := LE s0 (.own (PenD ns p2 r2)) s2 (.imm (ni (1 + a))) s4 s5 s6 s7 s8 s9 s10 .un .un) (s := s4) ?_ rfl n4
    unfold dLc
    rw [rng1_ok (i := 3) (n := 1 + a) rfl (by omega), Res.bind_ok]
    dsimp only
    rw [if_pos ⟨rfl, by rw [hz]; simp; omega⟩]
    show ((lcLoop [11] (gSet 11) dYes cntE ((List.range' 0 (1 + a)).map ni) (LE s0 (.own (PenD ns p1 r1)) s2 (.imm (ni (1 + a))) s4 s5 s6 s7 s8 s9 s10 .un .un)).hard.bind _) = _
    rw [e2]
    rfl
  have h1 : 0 < cs.length := by omega
  have h2 : cs.length ≤ 5 := by omega
  have h3 : cs.sum ≤ 1160 := by
    have : ∀ cs : List Nat, (∀ v ∈ cs, v ≤ 232) → cs.sum ≤ 232 * cs.length := fun cs => by
      induction cs with
      | nil => intro _; simp
      | cons c cs ih =>
        intro h
        have i1 := ih fun v hv => h v (List.mem_cons_of_mem _ hv)
        have i2 := h c List.mem_cons_self
        rw [List.sum_cons, List.length_cons]
        omega
    have := this cs hv
    omega
  -- due
  have ev := even_ok h1 h2 (by omega)
  generalize hM : Mw (cs.length - 1) cs = M at ev
  have B3 : tB3 (LE s0 (.own (PenD ns p2 r2)) s2 (.imm (ni (1 + a))) (.own (.lst (cs.map ni))) s5 s6 s7 s8 s9 s10 .un .un) = .ok (.nx, LE s0 (.own (PenD ns p2 r2)) s2 (.imm (ni (1 + a))) (.imm (.lst (cs.map ni))) (.imm (pairD (1, M))) s6 s7 s8 s9 s10 .un .un) := by
    unfold tB3
    refine set_imm (e := LE s0 (.own (PenD ns p2 r2)) s2 (.imm (ni (1 + a))) (.imm (.lst (cs.map ni))) s5 s6 s7 s8 s9 s10 .un .un) (s := s5) ?_ rfl n5
    simp [dCall, aCons, aNil, dVar, Val.d, Src.d, Src.ok, ev, asRes]
  -- the weights as they are shown
  have ew1 := even_weight_ok (d := .lst (cs.map ni)) (.inl rfl) h1 h2 (by omega) fun c hc => by have := hv c hc; omega
  have ew2 := even_weight_ok (d := .tup (cs.map ni)) (.inr rfl) h1 h2 (by omega) fun c hc => by have := hv c hc; omega
  rw [hM] at ew1 ew2
  have nm := number_ok (1, M)
  have bM : M < 2 ^ 12900 := by
    rw [← hM]
    exact Nat.lt_of_le_of_lt (Mw_bnd h2 (by omega)) (Nat.pow_lt_pow_right (by decide) (by decide))
  have rp := repr_two (dp_num (1, M)) (shw_num (p := (1, M)) (Nat.one_lt_two_pow (by decide)) bM)
  have mu := rep_ok (numD (1, M)) (n := 2) (by decide)
  have B4 : tB4 (LE s0 (.own (PenD ns p2 r2)) s2 (.imm (ni (1 + a))) (.imm (.lst (cs.map ni))) (.imm (pairD (1, M))) s6 s7 s8 s9 s10 .un .un) = .ok (.nx, LE s0 (.own (PenD ns p2 r2)) s2 (.imm (ni (1 + a))) (.imm (.lst (cs.map ni))) (.imm (pairD (1, M))) s6 s7 s8 s9 s10 .un .un) := by
    unfold tB4
    refine if_no ?_
    simp only [lit2]
    simp [dTest, dBin, dCallB, dCall, dLst, aCons, aNil, dVar, dC, Val.d, Src.d, Src.ok, bTuple, ew1, ew2, nm, mu, asRes, rp, str_ne, asB, sizeLine, List.replicate]
  -- one more of each
  have ml := more_loop h1 h2 h3 (s0 := s0) (p := .own (PenD ns p2 r2)) (s2 := s2) (s3 := .imm (ni (1 + a))) (s5 := .imm (pairD (1, M))) (s6 := s6) (s7 := s7) (s8 := s8) (s9 := s9) (s10 := s10) (s12 := .un) (1 + a) 0 (by omega)
  have ms := more_sum h1 h2 h3
  rw [hM, show List.range' 0 cs.length = List.range' 0 (1 + a) by rw [hl]] at ms
  have lastm : (List.range' 0 (1 + a)).map (fun g => pairD (1, Mw (cs.length - 1) (bump cs g))) = (List.range' 0 a).map (fun g => pairD (1, Mw (cs.length - 1) (bump cs g))) ++ [pairD (1, Mw (cs.length - 1) (bump cs a))] := by
    rw [Nat.add_comm 1 a, List.range'_1_concat, List.map_append, Nat.zero_add]
    rfl
  have lm := ix_last ((List.range' 0 a).map (fun g => pairD (1, Mw (cs.length - 1) (bump cs g)))) (pairD (1, Mw (cs.length - 1) (bump cs a)))
  rw [← lastm] at lm
  have mlen : ((List.range' 0 (1 + a)).map (fun g => pairD (1, Mw (cs.length - 1) (bump cs g)))).length ≤ 1000 := by simp; omega
  generalize (List.range' 0 (1 + a)).map (fun g => pairD (1, Mw (cs.length - 1) (bump cs g))) = mo at ml ms lm mlen
  have B5 : tB5 (LE s0 (.own (PenD ns p2 r2)) s2 (.imm (ni (1 + a))) (.imm (.lst (cs.map ni))) (.imm (pairD (1, M))) s6 s7 s8 s9 s10 .un .un) = .ok (.nx, LE s0 (.own (PenD ns p2 r2)) s2 (.imm (ni (1 + a))) (.imm (.lst (cs.map ni))) (.imm (pairD (1, M))) (.own (.lst mo)) s7 s8 s9 s10 .un .un) := by
    unfold tB5
    refine set_fresh (e := LE s0 (.own (PenD ns p2 r2)) s2 (.imm (ni (1 + a))) (.imm (.lst (cs.map ni))) (.imm (pairD (1, M))) s6 s7 s8 s9 s10 .un .un) (s := s6) ?_ rfl n6
    unfold dLc
    rw [rng1_ok (i := 3) (n := 1 + a) rfl (by omega), Res.bind_ok]
    dsimp only
    rw [if_pos ⟨rfl, by rw [hz]; simp; omega⟩]
    show ((lcLoop [11] (gSet 11) dYes moreE ((List.range' 0 (1 + a)).map ni) (LE s0 (.own (PenD ns p2 r2)) s2 (.imm (ni (1 + a))) (.imm (.lst (cs.map ni))) (.imm (pairD (1, M))) s6 s7 s8 s9 s10 .un .un)).hard.bind _) = _
    rw [ml]
    rfl
  have hg : a < cs.length := by omega
  have bl := bump_len hg
  have bs := bump_sum hg
  have sp := split_at hg
  have dn : cs.drop (a + 1) = [] := List.drop_of_length_le (by omega)
  have bmp : bump cs a = cs.take a ++ [cs.getD a 0 + 1] := by
    unfold bump
    rw [dn, List.append_nil]
  have spm : cs.map ni = (cs.take a).map ni ++ [ni (cs.getD a 0)] := by
    rw [dn, List.append_nil] at sp
    have := congrArg (List.map ni) sp
    rw [List.map_append] at this
    exact this
  have x1 := ix_last ((cs.take a).map ni) (ni (cs.getD a 0))
  rw [← spm] at x1
  have x2 : slD (.lst (cs.map ni)) none (some (-1)) = .ok (.fresh (.lst ((cs.take a).map ni))) := by
    show Res.ok (Val.fresh (Dt.lst (cutG (cs.map ni) none (some (-1))))) = _
    rw [cut_last, List.length_map, hl, Nat.add_sub_cancel_left, List.map_take]
  have x3 := cat_ok (a := (cs.take a).map ni) (b := [ni (cs.getD a 0 + 1)]) (by simp; omega)
  have x4 : (cs.take a).map ni ++ [ni (cs.getD a 0 + 1)] = (bump cs a).map ni := by
    rw [bmp, List.map_append]
    rfl
  rw [x4] at x3
  have ew3 := even_weight_ok (d := .lst ((bump cs a).map ni)) (.inl rfl) (by omega) (by omega) (by omega) fun c hc => by
    rw [bmp] at hc
    rcases List.mem_append.mp hc with hc | hc
    · have := hv c (List.mem_of_mem_take hc)
      omega
    · rw [List.mem_singleton.mp hc]
      have : cs.getD a 0 ≤ 232 := by
        have e : cs.getD a 0 = cs[a] := by simp [hg]
        rw [e]
        exact hv _ (List.getElem_mem hg)
      omega
  rw [bl] at ew3
  have bM2 : Mw (cs.length - 1) (bump cs a) < 2 ^ 12900 := Nat.lt_of_le_of_lt (Mw_bnd (by omega) (by omega)) (Nat.pow_lt_pow_right (by decide) (by decide))
  have nm2 := number_ok (1, Mw (cs.length - 1) (bump cs a))
  have rp2 := repr_one (dp_num (1, Mw (cs.length - 1) (bump cs a))) (shw_num (p := (1, Mw (cs.length - 1) (bump cs a))) (Nat.one_lt_two_pow (by decide)) bM2)
  have np := ne_pair (1, M) (1, M)
  rw [decide_eq_true rfl] at np
  generalize Mw (cs.length - 1) (bump cs a) = M2 at *
  clear sp bmp x4 bs bl spm ew1 ew2 ev ml e2 hv lastm dn
  generalize (cs.take a).map ni = A1 at *
  generalize (bump cs a).map ni = A3 at *
  generalize cs.getD a 0 = c at *
  generalize cs.map ni = ds at *
  have B6 : tB6 (LE s0 (.own (PenD ns p2 r2)) s2 (.imm (ni (1 + a))) (.imm (.lst ds)) (.imm (pairD (1, M))) (.own (.lst mo)) s7 s8 s9 s10 .un .un) = .ok (.nx, LE s0 (.own (PenD ns p2 r2)) s2 (.imm (ni (1 + a))) (.imm (.lst ds)) (.imm (pairD (1, M))) (.imm (.lst mo)) s7 s8 s9 s10 .un .un) := by
    unfold tB6
    refine if_no ?_
    simp only [lit1]
    simp [tOrD, dTest, dBin, dCallB, dCall, dLst, aCons, aNil, dVar, dIxS, slotD, dUn, dSl, oNone, oSome, ni_neg1, asI, dC, Val.d, Src.d, Src.ok, ms, np, x2, x1, ni_add, x3, ew3, rp2, lm, nm2, asRes, str_ne, asB, sizeLine]
  -- days
  obtain ⟨q, p3, r3, hq, hp3, e3⟩ := dr (m := 60) (ns := ns) (pl := p2) (rest := r2) (by decide) (by decide) (by omega) (env := LE s0 (.own (PenD ns p2 r2)) s2 (.imm (ni (1 + a))) (.imm (.lst ds)) (.imm (pairD (1, M))) (.imm (.lst mo)) s7 s8 s9 s10 .un .un) rfl
  have l60 : Dt.int 60 = ni 60 := rfl
  have l12 : Dt.int 12 = ni 12 := rfl
  have l200 : Dt.int 200 = ni 200 := rfl
  have l1000 : Dt.int 1000 = ni 1000 := rfl
  have hf : (dLst (aCons (dC (.int 3)) (aCons (dC (.int 0)) (aCons (dC (.int 1)) (aCons (dC (.int 12)) (aCons (dCallIo 1 2 F__law_draw (aCons (dC (.int 60)) aNil)) (aCons (dIf (dTest (dBin opLt (dVar 3) (dC (.int 3)))) (dC (.int 1000)) (dC (.int 200))) aNil)))))))
      (LE s0 (.own (PenD ns p2 r2)) s2 (.imm (ni (1 + a))) (.imm (.lst ds)) (.imm (pairD (1, M))) (.imm (.lst mo)) s7 s8 s9 s10 .un .un) =
      .ok (.fresh (.lst [ni 3, ni 0, ni 1, ni 12, ni q, ni (if 1 + a < 3 then 1000 else 200)]), LE s0 (.own (PenD ns p3 r3)) s2 (.imm (ni (1 + a))) (.imm (.lst ds)) (.imm (pairD (1, M))) (.imm (.lst mo)) s7 s8 s9 s10 .un .un) := by
    simp only [lit0, lit1, lit3, l60, l12, l200, l1000, List.set_cons_succ, List.set_cons_zero] at e3 ⊢
    generalize dCallIo 1 2 F__law_draw (aCons (dC (ni 60)) aNil) = D60 at e3 ⊢
    by_cases h : 1 + a < 3
    · simp [dLst, aCons, aNil, dC, dBin, dIf, dTest, dVar, asB, ni_lt, Val.d, e3, sizeLine, h]
    · simp [dLst, aCons, aNil, dC, dBin, dIf, dTest, dVar, asB, ni_lt, Val.d, e3, sizeLine, h]
  obtain ⟨d, hd, p4, r4, hp4, e4⟩ := oo (ns := ns) (pl := p3) (rest := r3) (by simp) (by simp) (by omega) rfl hf rfl rfl
  have : ∃ v, v ≤ 1000 ∧ d = ni v := by
    simp only [List.mem_cons, List.not_mem_nil, or_false] at hd
    rcases hd with rfl | rfl | rfl | rfl | rfl | rfl
    · exact ⟨3, by omega, rfl⟩
    · exact ⟨0, by omega, rfl⟩
    · exact ⟨1, by omega, rfl⟩
    · exact ⟨12, by omega, rfl⟩
    · exact ⟨q, by omega, rfl⟩
    · exact ⟨_, by split <;> omega, rfl⟩
  obtain ⟨v, hv, rfl⟩ := this
  have B7 : tB7 (LE s0 (.own (PenD ns p2 r2)) s2 (.imm (ni (1 + a))) (.imm (.lst ds)) (.imm (pairD (1, M))) (.imm (.lst mo)) s7 s8 s9 s10 .un .un) = .ok (.nx, LE s0 (.own (PenD ns p4 r4)) s2 (.imm (ni (1 + a))) (.imm (.lst ds)) (.imm (pairD (1, M))) (.imm (.lst mo)) (.imm (ni v)) s8 s9 s10 .un .un) :=
    set_imm (s := s7) e4 rfl n7
  -- the factors
  have f1 := even_factor_ok (g := 1 + a) (d := v) (by omega) (by omega) hv
  have f2 := triangle_ok (g := 1 + a) (d := v) (by omega) (by omega) hv
  have bC : ch (v + (1 + a) - 1) (1 + a - 1) < 2 ^ 12900 := Nat.lt_of_le_of_lt (ch_le _ _) (Nat.pow_lt_pow_right (by decide) (by omega))
  have rp3 := repr_two (dp_ni (ch (v + (1 + a) - 1) (1 + a - 1))) (shw_int bC)
  have mu2 := rep_ok (ni (ch (v + (1 + a) - 1) (1 + a - 1))) (n := 2) (by decide)
  generalize ch (v + (1 + a) - 1) (1 + a - 1) = C at *
  have B8 : tB8 (LE s0 (.own (PenD ns p4 r4)) s2 (.imm (ni (1 + a))) (.imm (.lst ds)) (.imm (pairD (1, M))) (.imm (.lst mo)) (.imm (ni v)) s8 s9 s10 .un .un) = .ok (.nx, LE s0 (.own (PenD ns p4 r4)) s2 (.imm (ni (1 + a))) (.imm (.lst ds)) (.imm (pairD (1, M))) (.imm (.lst mo)) (.imm (ni v)) s8 s9 s10 .un .un) := by
    unfold tB8
    refine if_no ?_
    simp only [lit2]
    simp [dTest, dBin, dCallB, dCall, dLst, aCons, aNil, dVar, dC, Val.d, Src.d, Src.ok, f1, f2, mu2, asRes, rp3, str_ne, asB, sizeLine, List.replicate]
  refine ⟨p4, r4, .imm (ni (1 + a)), .imm (.lst ds), .imm (pairD (1, M)), .imm (.lst mo), .imm (ni v), ⟨noio_imm _, noio_imm _, noio_imm _, noio_imm _, noio_imm _, n8, n9, n10⟩, by omega, ?_⟩
  exact (seq_nx B1).trans ((seq_nx B2).trans ((seq_nx B3).trans ((seq_nx B4).trans ((seq_nx B5).trans ((seq_nx B6).trans ((seq_nx B7).trans B8))))))
end G


set_option maxRecDepth 100000
set_option maxHeartbeats 4000000
set_option exponentiation.threshold 30000
namespace G
open PySem PySem.Spec PyProof.Rows L2
/-! ### three turns -/
theorem turns_ok {ns : List Int} {s0 s8 s9 s10 : Slot} : ∀ (k t pl rest : Nat) (s2 s3 s4 s5 s6 s7 : Slot), pl + 23 * k < 900 → NoIo s2 → SOk s3 s4 s5 s6 s7 s8 s9 s10 →
    ∃ pl' rest' t2 t3 t4 t5 t6 t7, NoIo t2 ∧ SOk t3 t4 t5 t6 t7 s8 s9 s10 ∧ pl' ≤ pl + 23 * k ∧
      sLoop (gSet 2) turnB ((List.range' t k).map ni) (LE s0 (.own (PenD ns pl rest)) s2 s3 s4 s5 s6 s7 s8 s9 s10 .un .un) = .ok (.nx, LE s0 (.own (PenD ns pl' rest')) t2 t3 t4 t5 t6 t7 s8 s9 s10 .un .un)
  | 0, t, pl, rest, s2, s3, s4, s5, s6, s7, _, h2, hs => ⟨pl, rest, s2, s3, s4, s5, s6, s7, h2, hs, by omega, by simp [sLoop]⟩
  | k + 1, t, pl, rest, s2, s3, s4, s5, s6, s7, hp, h2, hs => by
    obtain ⟨p1, r1, u3, u4, u5, u6, u7, hu, hp1, e1⟩ := turn_ok (ns := ns) (pl := pl) (rest := rest) (by omega) (s0 := s0) (s2 := .imm (ni t)) hs
    obtain ⟨p2, r2, t2, t3, t4, t5, t6, t7, k2, ht, hp2, ih⟩ := turns_ok (ns := ns) (s0 := s0) k (t + 1) p1 r1 (.imm (ni t)) u3 u4 u5 u6 u7 (by omega) (noio_imm _) hu
    refine ⟨p2, r2, t2, t3, t4, t5, t6, t7, k2, ht, by omega, ?_⟩
    rw [List.range'_succ, List.map_cons]
    unfold sLoop
    rw [gset_ok (s := s2) rfl h2]
    show ((turnB (LE s0 (.own (PenD ns pl rest)) (.imm (ni t)) s3 s4 s5 s6 s7 s8 s9 s10 .un .un)).bind _) = _
    rw [e1, Res.bind_ok]
    exact ih
/-! ### words -/
def wordsOf (g : Nat) : Nat → List (List Nat)
  | 0 => [[]]
  | d + 1 => (wordsOf g d).flatMap fun w => (List.range g).map fun k => w ++ [k]
def wD (w : List Nat) : Dt := .tup (w.map ni)
def cntOf (g : Nat) (w : List Nat) : List Nat := (List.range' 0 g).map fun k => w.count k
def eqT : DT := dTest (dBin (eqS false) (dVar 12) (dVar 11))
theorem in_loop {k : Nat} {s0 p s2 s3 s4 s5 s6 s7 s8 s9 s10 : Slot} : ∀ (w : List Nat),
    lcLoop [12] (gSet 12) eqT (dC (.int 1)) (w.map ni) (LE s0 p s2 s3 s4 s5 s6 s7 s8 s9 s10 (.imm (ni k)) .un) = .ok (List.replicate (w.count k) (ni 1), LE s0 p s2 s3 s4 s5 s6 s7 s8 s9 s10 (.imm (ni k)) .un)
  | [] => rfl
  | x :: w => by
    have ih := in_loop (k := k) (s0 := s0) (p := p) (s2 := s2) (s3 := s3) (s4 := s4) (s5 := s5) (s6 := s6) (s7 := s7) (s8 := s8) (s9 := s9) (s10 := s10) w
    rw [List.map_cons]
    unfold lcLoop
    by_cases h : x = k
    · have e : lcTurn [12] (gSet 12) eqT (dC (.int 1)) (ni x) (LE s0 p s2 s3 s4 s5 s6 s7 s8 s9 s10 (.imm (ni k)) .un) = .ok (some (ni 1), LE s0 p s2 s3 s4 s5 s6 s7 s8 s9 s10 (.imm (ni k)) .un) := by
        unfold lcTurn
        rw [gset_ok (s := .un) rfl noio_un]
        simp [eqT, dTest, dBin, dVar, Val.d, ni_eq, h, asB, Res.hard, dC, wipeE, lit1]
      rw [e, Res.bind_ok, ih, h, List.count_cons_self]
      rfl
    · have e : lcTurn [12] (gSet 12) eqT (dC (.int 1)) (ni x) (LE s0 p s2 s3 s4 s5 s6 s7 s8 s9 s10 (.imm (ni k)) .un) = .ok (none, LE s0 p s2 s3 s4 s5 s6 s7 s8 s9 s10 (.imm (ni k)) .un) := by
        unfold lcTurn
        rw [gset_ok (s := .un) rfl noio_un]
        simp [eqT, dTest, dBin, dVar, Val.d, ni_eq, h, asB, Res.hard, dC, wipeE, lit1]
      rw [e, Res.bind_ok, ih, List.count_cons_of_ne h]
      rfl
def lenE : DE := dCallB bLen (aCons (dLc [12] (itSeq (dVar 9)) (gSet 12) eqT (dC (.int 1))) aNil)
theorem len_ok {k : Nat} {w : List Nat} (hw : w.length ≤ 100) {s0 p s2 s3 s4 s5 s6 s7 s8 s10 : Slot} :
    lenE (LE s0 p s2 s3 s4 s5 s6 s7 s8 (.imm (wD w)) s10 (.imm (ni k)) .un) = .ok (.imm (ni (w.count k)), LE s0 p s2 s3 s4 s5 s6 s7 s8 (.imm (wD w)) s10 (.imm (ni k)) .un) := by
  have l := in_loop (k := k) (s0 := s0) (p := p) (s2 := s2) (s3 := s3) (s4 := s4) (s5 := s5) (s6 := s6) (s7 := s7) (s8 := s8) (s9 := .imm (wD w)) (s10 := s10) w
  have hz : sizeLine = 16777216 := by decide
  have e : dLc [12] (itSeq (dVar 9)) (gSet 12) eqT (dC (.int 1)) (LE s0 p s2 s3 s4 s5 s6 s7 s8 (.imm (wD w)) s10 (.imm (ni k)) .un) = .ok (.fresh (.lst (List.replicate (w.count k) (ni 1))), LE s0 p s2 s3 s4 s5 s6 s7 s8 (.imm (wD w)) s10 (.imm (ni k)) .un) := by
    have i : itSeq (dVar 9) (LE s0 p s2 s3 s4 s5 s6 s7 s8 (.imm (wD w)) s10 (.imm (ni k)) .un) = .ok (w.map ni, LE s0 p s2 s3 s4 s5 s6 s7 s8 (.imm (wD w)) s10 (.imm (ni k)) .un) := rfl
    unfold dLc
    rw [i, Res.bind_ok]
    dsimp only
    rw [if_pos ⟨rfl, by rw [hz, List.length_map]; omega⟩]
    show ((lcLoop [12] (gSet 12) eqT (dC (.int 1)) (w.map ni) (LE s0 p s2 s3 s4 s5 s6 s7 s8 (.imm (wD w)) s10 (.imm (ni k)) .un)).hard.bind _) = _
    rw [l]
    rfl
  have b := bLen_l (List.replicate (w.count k) (ni 1))
  rw [List.length_replicate] at b
  unfold lenE
  simp [dCallB, aCons, aNil, e, Val.d, b]
theorem cntw_loop {w : List Nat} (hw : w.length ≤ 100) {s0 p s2 s3 s4 s5 s6 s7 s8 s10 : Slot} : ∀ (k t : Nat),
    lcLoop [11] (gSet 11) dYes lenE ((List.range' t k).map ni) (LE s0 p s2 s3 s4 s5 s6 s7 s8 (.imm (wD w)) s10 .un .un) = .ok (((List.range' t k).map fun k => w.count k).map ni, LE s0 p s2 s3 s4 s5 s6 s7 s8 (.imm (wD w)) s10 .un .un)
  | 0, t => rfl
  | k + 1, t => by
    have e1 := len_ok (k := t) hw (s0 := s0) (p := p) (s2 := s2) (s3 := s3) (s4 := s4) (s5 := s5) (s6 := s6) (s7 := s7) (s8 := s8) (s10 := s10)
    have ih := cntw_loop hw (s0 := s0) (p := p) (s2 := s2) (s3 := s3) (s4 := s4) (s5 := s5) (s6 := s6) (s7 := s7) (s8 := s8) (s10 := s10) k (t + 1)
    rw [List.range'_succ, List.map_cons, List.map_cons, List.map_cons]
    unfold lcLoop
    have e2 : lcTurn [11] (gSet 11) dYes lenE (ni t) (LE s0 p s2 s3 s4 s5 s6 s7 s8 (.imm (wD w)) s10 .un .un) = .ok (some (ni (w.count t)), LE s0 p s2 s3 s4 s5 s6 s7 s8 (.imm (wD w)) s10 .un .un) := by
      unfold lcTurn
      rw [gset_ok (s := .un) rfl noio_un]
      simp only [List.set_cons_succ, List.set_cons_zero, Res.bind_ok, dYes, Res.hard, if_true, e1, wipeE, Val.d]
    rw [e2, Res.bind_ok, ih]
    rfl
def toldS : DS := sSet 10 (dCall F_even_weight ⟨1, [], [.pos 0]⟩ (aCons (dLc [11] (itRng1 (aCons (dVar 3) aNil)) (gSet 11) dYes lenE) aNil) aNil)
def addS : DS := sApp 8 (dIf (dTru (dUn (isiD "int") (dVar 10))) (dTup (aCons (dVar 10) (aCons (dC (.int 1)) aNil))) (dVar 10))
theorem isi_tup (a b : Dt) : isiD "int" (.tup [a, b]) = .ok (.imm (.bl false)) := by
  have h : kitB "tuple" "int" = some false := by decide +kernel
  show (match kitB "tuple" "int" with
    | some b => vB b
    | none => Res.bad) = _
  rw [h]
  rfl
theorem word_ok {g : Nat} (h1 : 1 ≤ g) (h2 : g ≤ 5) {w : List Nat} (hw : w.length ≤ 100) {acc : List Dt} (ha : acc.length ≤ 10000) {s0 p s2 s4 s5 s6 s7 s10 : Slot} (h10 : NoIo s10) :
    ∃ t10, NoIo t10 ∧ sSeq toldS addS (LE s0 p s2 (.imm (ni g)) s4 s5 s6 s7 (.own (.lst acc)) (.imm (wD w)) s10 .un .un) = .ok (.nx, LE s0 p s2 (.imm (ni g)) s4 s5 s6 s7 (.own (.lst (acc ++ [pairD (1, Mw (g - 1) (cntOf g w))]))) (.imm (wD w)) t10 .un .un) := by
  have hz : sizeLine = 16777216 := by decide
  have l := cntw_loop hw (s0 := s0) (p := p) (s2 := s2) (s3 := .imm (ni g)) (s4 := s4) (s5 := s5) (s6 := s6) (s7 := s7) (s8 := .own (.lst acc)) (s10 := s10) g 0
  have lc : (cntOf g w).length = g := by unfold cntOf; simp
  have le : ∀ c ∈ cntOf g w, c ≤ 100 := fun c hc => by
    obtain ⟨k, _, rfl⟩ := List.mem_map.mp hc
    exact Nat.le_trans List.count_le_length hw
  have sm : (cntOf g w).sum ≤ 500 := by
    have : ∀ cs : List Nat, (∀ v ∈ cs, v ≤ 100) → cs.sum ≤ 100 * cs.length := fun cs => by
      induction cs with
      | nil => intro _; simp
      | cons c cs ih =>
        intro h
        have i1 := ih fun v hv => h v (List.mem_cons_of_mem _ hv)
        have i2 := h c List.mem_cons_self
        rw [List.sum_cons, List.length_cons]
        omega
    have := this _ le
    omega
  have ew := even_weight_ok (d := .lst ((cntOf g w).map ni)) (.inl rfl) (by omega) (by omega) (by omega) fun c hc => by have := le c hc; omega
  rw [lc] at ew
  have T : toldS (LE s0 p s2 (.imm (ni g)) s4 s5 s6 s7 (.own (.lst acc)) (.imm (wD w)) s10 .un .un) = .ok (.nx, LE s0 p s2 (.imm (ni g)) s4 s5 s6 s7 (.own (.lst acc)) (.imm (wD w)) (.imm (numD (1, Mw (g - 1) (cntOf g w)))) .un .un) := by
    unfold toldS
    have e : dLc [11] (itRng1 (aCons (dVar 3) aNil)) (gSet 11) dYes lenE (LE s0 p s2 (.imm (ni g)) s4 s5 s6 s7 (.own (.lst acc)) (.imm (wD w)) s10 .un .un) = .ok (.fresh (.lst ((cntOf g w).map ni)), LE s0 p s2 (.imm (ni g)) s4 s5 s6 s7 (.own (.lst acc)) (.imm (wD w)) s10 .un .un) := by
      unfold dLc
      rw [rng1_ok (i := 3) (n := g) rfl (by omega), Res.bind_ok]
      dsimp only
      rw [if_pos ⟨rfl, by rw [hz]; simp; omega⟩]
      show ((lcLoop [11] (gSet 11) dYes lenE ((List.range' 0 g).map ni) (LE s0 p s2 (.imm (ni g)) s4 s5 s6 s7 (.own (.lst acc)) (.imm (wD w)) s10 .un .un)).hard.bind _) = _
      rw [l]
      rfl
    refine set_imm (e := LE s0 p s2 (.imm (ni g)) s4 s5 s6 s7 (.own (.lst acc)) (.imm (wD w)) s10 .un .un) (s := s10) ?_ rfl h10
    generalize dLc [11] (itRng1 (aCons (dVar 3) aNil)) (gSet 11) dYes lenE = D at e ⊢
    simp [dCall, aCons, aNil, e, Val.d, Src.d, Src.ok, ew, asRes]
  generalize Mw (g - 1) (cntOf g w) = M at T ⊢
  refine ⟨.imm (numD (1, M)), noio_imm _, (seq_nx T).trans ?_⟩
  have ad : addD (pairD (1, M)) (.lst acc) = some (.lst (acc ++ [pairD (1, M)])) := by
    show (if acc.length < sizeLine then some (Dt.lst (acc ++ [pairD (1, M)])) else none) = _
    rw [if_pos (by rw [hz]; omega)]
  have il : isLst (.own (.lst acc)) = true := rfl
  unfold addS numD
  by_cases h : M = 1
  · subst h
    have ad' : addD (.tup [ni 1, ni 1]) (.lst acc) = some (.lst (acc ++ [.tup [ni 1, ni 1]])) := ad
    simp only [lit1]
    simp [sApp, il, dIf, dTru, dUn, dVar, Val.d, ni_isi, asTru, truD, dTup, aCons, aNil, dC, sizeLine, slotWr, ad', pairD]
  · have ad' : addD (.tup [ni 1, ni M]) (.lst acc) = some (.lst (acc ++ [.tup [ni 1, ni M]])) := ad
    simp only [lit1]
    simp [sApp, il, dIf, dTru, dUn, dVar, Val.d, isi_tup, h, asTru, truD, slotWr, ad', pairD]
theorem word_loop {g : Nat} (h1 : 1 ≤ g) (h2 : g ≤ 5) {s0 p s2 s4 s5 s6 s7 : Slot} : ∀ (ws : List (List Nat)) (acc : List Dt) (s9 s10 : Slot), (∀ w ∈ ws, w.length ≤ 100) → acc.length + ws.length ≤ 10000 → NoIo s9 → NoIo s10 →
    ∃ t9 t10, sLoop (gSet 9) (sSeq toldS addS) (ws.map wD) (LE s0 p s2 (.imm (ni g)) s4 s5 s6 s7 (.own (.lst acc)) s9 s10 .un .un) =
      .ok (.nx, LE s0 p s2 (.imm (ni g)) s4 s5 s6 s7 (.own (.lst (acc ++ ws.map fun w => pairD (1, Mw (g - 1) (cntOf g w))))) t9 t10 .un .un)
  | [], acc, s9, s10, _, _, _, _ => ⟨s9, s10, by simp [sLoop]⟩
  | w :: ws, acc, s9, s10, hw, hl, h9, h10 => by
    rw [List.length_cons] at hl
    obtain ⟨u10, k10, e⟩ := word_ok h1 h2 (hw w List.mem_cons_self) (acc := acc) (by omega) (s0 := s0) (p := p) (s2 := s2) (s4 := s4) (s5 := s5) (s6 := s6) (s7 := s7) h10
    obtain ⟨t9, t10, ih⟩ := word_loop h1 h2 (s0 := s0) (p := p) (s2 := s2) (s4 := s4) (s5 := s5) (s6 := s6) (s7 := s7) ws (acc ++ [pairD (1, Mw (g - 1) (cntOf g w))]) (.imm (wD w)) u10 (fun x hx => hw x (List.mem_cons_of_mem _ hx)) (by rw [List.length_append, List.length_singleton]; omega) (noio_imm _) k10
    refine ⟨t9, t10, ?_⟩
    rw [List.map_cons]
    unfold sLoop
    rw [gset_ok (s := s9) rfl h9]
    show ((sSeq toldS addS (LE s0 p s2 (.imm (ni g)) s4 s5 s6 s7 (.own (.lst acc)) (.imm (wD w)) s10 .un .un)).bind _) = _
    rw [e, Res.bind_ok]
    dsimp only
    rw [ih, List.append_assoc]
    rfl
end G


set_option maxRecDepth 100000
set_option maxHeartbeats 4000000
set_option exponentiation.threshold 30000
namespace G
open PySem PySem.Spec PyProof.Rows L2
theorem words_ok {g d : Nat} (hg : g = 1 ∨ g = 2 ∨ g = 3) (hd : d < 5) : F__law_words [ni g, ni d] = .ok (.fresh (.lst ((wordsOf g d).map wD)), none) := by
  obtain rfl | rfl | rfl | rfl | rfl : d = 0 ∨ d = 1 ∨ d = 2 ∨ d = 3 ∨ d = 4 := by omega
  all_goals
    rcases hg with rfl | rfl | rfl
    all_goals kernel_rfl
def chk (g d : Nat) : Bool := (wordsOf g d).all (fun w => decide (w.length ≤ 100) && decide (Mw (g - 1) (cntOf g w) * (fac (d + g - 1) / Mw (g - 1) (cntOf g w)) = fac (d + g - 1))) &&
  decide (((wordsOf g d).map fun w => fac (d + g - 1) / Mw (g - 1) (cntOf g w)).sum = fac (d + g - 1)) && decide ((wordsOf g d).length ≤ 1000) && decide (fac (d + g - 1) ≤ 1000)
theorem chk_ok {g d : Nat} (hg : g = 1 ∨ g = 2 ∨ g = 3) (hd : d < 5) : chk g d = true := by
  obtain rfl | rfl | rfl | rfl | rfl : d = 0 ∨ d = 1 ∨ d = 2 ∨ d = 3 ∨ d = 4 := by omega
  all_goals
    rcases hg with rfl | rfl | rfl
    all_goals kernel_rfl
theorem all_one {g d : Nat} (hg : g = 1 ∨ g = 2 ∨ g = 3) (hd : d < 5) : (∀ w ∈ wordsOf g d, w.length ≤ 100) ∧ (wordsOf g d).length ≤ 1000 ∧ F__law_sum [.lst ((wordsOf g d).map fun w => pairD (1, Mw (g - 1) (cntOf g w)))] = .ok (.imm (pairD (1, 1)), none) := by
  have h := chk_ok hg hd
  unfold chk at h
  simp only [Bool.and_eq_true, List.all_eq_true, decide_eq_true_eq] at h
  obtain ⟨⟨⟨h1, h2⟩, h3⟩, h4⟩ := h
  have fp := fac_pos (d + g - 1)
  generalize fac (d + g - 1) = T at *
  refine ⟨fun w hw => (h1 w hw).1, h3, ?_⟩
  have s := sum_ok (T := T) fp (Nat.lt_of_le_of_lt h4 (Nat.lt_of_lt_of_le (show 1000 < 2 ^ 10 by decide) (pow_mono (by decide)))) (mc := (wordsOf g d).map fun w => (Mw (g - 1) (cntOf g w), T / Mw (g - 1) (cntOf g w))) (fun p hp => by
    obtain ⟨w, hw, rfl⟩ := List.mem_map.mp hp
    exact ⟨(h1 w hw).2, Mw_pos _ _⟩) (by
    rw [List.map_map]
    show ((wordsOf g d).map fun w => T / Mw (g - 1) (cntOf g w)).sum ≤ _
    rw [h2]
    omega)
  rw [List.map_map, List.map_map] at s
  have e2 : ((wordsOf g d).map ((fun p : Nat × Nat => p.2) ∘ fun w => (Mw (g - 1) (cntOf g w), T / Mw (g - 1) (cntOf g w)))).sum = T := h2
  have e3 : red T T = (1, 1) := by
    have := red_cancel fp (M := 1) (by decide)
    rw [Nat.mul_one] at this
    exact this
  rw [e2, e3] at s
  exact s
theorem pen_ok (ns : List Int) : F__law_pen [.scr ns] = .ok (.fresh (PenD (ns.take 62) 0 0), none) := by
  have hz : sizeLine = 16777216 := by decide
  have c : cutG (ns.map Dt.int) none (some (62 : Int)) = (ns.take 62).map .int := by
    have := cut_take (ns.map Dt.int) 62
    rw [List.map_take]
    exact this
  have it : itSeq (dSl (dVar 0) oNone (oSome (dC (.int 62)))) [.imm (.scr ns), .un] = .ok ((ns.take 62).map .int, [.imm (.scr ns), .un]) := by
    have o : slD (.scr ns) none (some (62 : Int)) = .ok (.fresh (.lst ((ns.take 62).map .int))) := by
      show Res.ok (Val.fresh (Dt.lst (cutG (ns.map Dt.int) none (some (62 : Int))))) = _
      rw [c]
    simp only [itSeq, dSl, dVar, oNone, oSome, dC, asI, List.getElem?_cons_zero, Res.bind_ok, Val.d, o, Res.map_ok, seqD]
  have l : lcLoop [1] (gSet 1) dYes (dCallB bInt (aCons (dVar 1) aNil)) ((ns.take 62).map .int) [.imm (.scr ns), .un] = .ok ((ns.take 62).map .int, [.imm (.scr ns), .un]) := by
    have := lc_map (vs := [1]) (g := gSet 1) (t := dYes) (f := dCallB bInt (aCons (dVar 1) aNil)) (env := [.imm (.scr ns), .un]) (φ := id) (ds := (ns.take 62).map .int) fun d hd => by
      obtain ⟨i, _, rfl⟩ := List.mem_map.mp hd
      rfl
    rw [List.map_id] at this
    exact this
  have ll : ((ns.take 62).map Dt.int).length ≤ 62 := by simp; omega
  have e : dLc [1] (itSeq (dSl (dVar 0) oNone (oSome (dC (.int 62))))) (gSet 1) dYes (dCallB bInt (aCons (dVar 1) aNil)) [.imm (.scr ns), .un] = .ok (.fresh (.lst ((ns.take 62).map .int)), [.imm (.scr ns), .un]) := by
    unfold dLc
    rw [it, Res.bind_ok]
    dsimp only
    rw [if_pos ⟨rfl, by rw [hz]; omega⟩]
    show ((lcLoop [1] (gSet 1) dYes (dCallB bInt (aCons (dVar 1) aNil)) ((ns.take 62).map .int) [.imm (.scr ns), .un]).hard.bind _) = _
    rw [l]
    rfl
  unfold F__law_pen b__law_pen PenD
  generalize dLc [1] (itSeq (dSl (dVar 0) oNone (oSome (dC (.int 62))))) (gSet 1) dYes (dCallB bInt (aCons (dVar 1) aNil)) = D at e ⊢
  refine run_rt (e := [.imm (.scr ns), .un]) rfl (e' := [.imm (.scr ns), .un]) ?_
  simp only [lit0]
  simp [sRet, dLst, aCons, aNil, e, dC, Val.d, sizeLine]
theorem fin_ok : ch 1004 4 = 42084793751 := by
  have a : 4 * ch 1004 4 = 1004 * ch 1003 3 := ch_mul 1003 3
  have b : 3 * ch 1003 3 = 1003 * ch 1002 2 := ch_mul 1002 2
  have c : 2 * ch 1002 2 = 1002 * ch 1001 1 := ch_mul 1001 1
  have d : 1 * ch 1001 1 = 1001 * ch 1000 0 := ch_mul 1000 0
  rw [ch_zero] at d
  omega
theorem Mw_single (c : Nat) : Mw ([c].length - 1) [c] = 1 := by
  have e : Mw ([c].length - 1) [c] = ch (0 + c) c * 1 := rfl
  rw [e, Nat.zero_add, (ch_diag c).1]
theorem ef_one {n k : Nat} (hn : n = 1004) (hk : k = 4) : ch n k = 42084793751 := by rw [hn, hk, fin_ok]
theorem law_true : LawTrue F_law 63 := fun ns _ => by
  refine ⟨.imm (.bl true), ?_, rfl⟩
  -- the pen
  have P := pen_ok ns
  generalize ns.take 62 = cs at P
  have L1 : lB1 (LE (.imm (.scr ns)) .un .un .un .un .un .un .un .un .un .un .un .un) = .ok (.nx, LE (.imm (.scr ns)) (.own (PenD cs 0 0)) .un .un .un .un .un .un .un .un .un .un .un) := by
    unfold lB1
    refine set_fresh (e := LE (.imm (.scr ns)) .un .un .un .un .un .un .un .un .un .un .un .un) (s := .un) ?_ rfl noio_un
    simp [dCall, aCons, aNil, dVar, Val.d, Src.d, Src.ok, P, asRes]
  -- three turns
  obtain ⟨pl, rest, t2, t3, t4, t5, t6, t7, k2, ks, hpl, e2⟩ := turns_ok (ns := cs) (s0 := .imm (.scr ns)) (s8 := .un) (s9 := .un) (s10 := .un) 3 0 0 0 .un .un .un .un .un .un (by omega) noio_un ⟨noio_un, noio_un, noio_un, noio_un, noio_un, noio_un, noio_un, noio_un⟩
  have L2 : lB2 (LE (.imm (.scr ns)) (.own (PenD cs 0 0)) .un .un .un .un .un .un .un .un .un .un .un) = .ok (.nx, LE (.imm (.scr ns)) (.own (PenD cs pl rest)) t2 t3 t4 t5 t6 t7 .un .un .un .un .un) := by
    unfold lB2 sFor
    have r : itRng1 (aCons (dC (.int 3)) aNil) (LE (.imm (.scr ns)) (.own (PenD cs 0 0)) .un .un .un .un .un .un .un .un .un .un .un) = .ok ((List.range' 0 3).map ni, LE (.imm (.scr ns)) (.own (PenD cs 0 0)) .un .un .un .un .un .un .un .un .un .un .un) := rfl
    rw [r, Res.bind_ok]
    exact e2
  obtain ⟨n3, n4, n5, n6, n7, _⟩ := ks
  -- goods and days
  have hf : dLst (aCons (dC (.int 2)) (aCons (dC (.int 3)) (aCons (dC (.int 1)) aNil))) (LE (.imm (.scr ns)) (.own (PenD cs pl rest)) t2 t3 t4 t5 t6 t7 .un .un .un .un .un) = .ok (.fresh (.lst [ni 2, ni 3, ni 1]), LE (.imm (.scr ns)) (.own (PenD cs pl rest)) t2 t3 t4 t5 t6 t7 .un .un .un .un .un) := rfl
  obtain ⟨x, hx, p1, r1, hp1, o1⟩ := oo (ns := cs) (pl := pl) (rest := rest) (by simp) (by simp) (by omega) rfl hf rfl rfl
  have : ∃ g, (g = 1 ∨ g = 2 ∨ g = 3) ∧ x = ni g := by
    simp only [List.mem_cons, List.not_mem_nil, or_false] at hx
    rcases hx with rfl | rfl | rfl
    · exact ⟨2, by omega, rfl⟩
    · exact ⟨3, by omega, rfl⟩
    · exact ⟨1, by omega, rfl⟩
  obtain ⟨g, hg, rfl⟩ := this
  obtain ⟨d, p2, r2, hd, hp2, o2⟩ := dr (m := 5) (ns := cs) (pl := p1) (rest := r1) (by decide) (by decide) (by omega) (env := LE (.imm (.scr ns)) (.own (PenD cs p1 r1)) t2 t3 t4 t5 t6 t7 .un .un .un .un .un) rfl
  have L3 : lB3 (LE (.imm (.scr ns)) (.own (PenD cs pl rest)) t2 t3 t4 t5 t6 t7 .un .un .un .un .un) = .ok (.nx, LE (.imm (.scr ns)) (.own (PenD cs p2 r2)) t2 (.imm (ni g)) t4 t5 t6 (.imm (ni d)) .un .un .un .un .un) := by
    have c3 : canSet (LE (.imm (.scr ns)) (.own (PenD cs p2 r2)) t2 t3 t4 t5 t6 t7 .un .un .un .un .un) 3 = true := cs_of (s := t3) rfl n3
    have c7 : canSet (LE (.imm (.scr ns)) (.own (PenD cs p2 r2)) t2 t3 t4 t5 t6 t7 .un .un .un .un .un) 7 = true := cs_of (s := t7) rfl n7
    have l5 : Dt.int 5 = ni 5 := rfl
    unfold lB3
    simp only [l5, List.set_cons_succ, List.set_cons_zero] at o1 o2 ⊢
    generalize dCallIo 1 2 F__law_draw (aCons (dC (ni 5)) aNil) = D5 at o2 ⊢
    generalize dCallIo 1 2 F__law_one_of (aCons (dLst (aCons (dC (.int 2)) (aCons (dC (.int 3)) (aCons (dC (.int 1)) aNil)))) aNil) = O at o1 ⊢
    simp only [sPar, aCons, aNil, o1, o2, Res.bind_ok, Val.d, c3, c7, Bool.and_self, if_true, List.set_cons_succ, List.set_cons_zero]
  have L4 : lB4 (LE (.imm (.scr ns)) (.own (PenD cs p2 r2)) t2 (.imm (ni g)) t4 t5 t6 (.imm (ni d)) .un .un .un .un .un) = .ok (.nx, LE (.imm (.scr ns)) (.own (PenD cs p2 r2)) t2 (.imm (ni g)) t4 t5 t6 (.imm (ni d)) (.own (.lst [])) .un .un .un .un) := rfl
  -- the words
  obtain ⟨a1, a2, a3⟩ := all_one hg hd
  have wo := words_ok hg hd
  obtain ⟨u9, u10, wl⟩ := word_loop (g := g) (by omega) (by omega) (s0 := .imm (.scr ns)) (p := .own (PenD cs p2 r2)) (s2 := t2) (s4 := t4) (s5 := t5) (s6 := t6) (s7 := .imm (ni d)) (wordsOf g d) [] .un .un a1 (by simp; omega) noio_un noio_un
  rw [List.nil_append] at wl
  have L5 : lB5 (LE (.imm (.scr ns)) (.own (PenD cs p2 r2)) t2 (.imm (ni g)) t4 t5 t6 (.imm (ni d)) (.own (.lst [])) .un .un .un .un) = .ok (.nx, LE (.imm (.scr ns)) (.own (PenD cs p2 r2)) t2 (.imm (ni g)) t4 t5 t6 (.imm (ni d)) (.own (.lst ((wordsOf g d).map fun w => pairD (1, Mw (g - 1) (cntOf g w))))) u9 u10 .un .un) := by
    have it : itSeq (dCall F__law_words ⟨2, [], [.pos 0, .pos 1]⟩ (aCons (dVar 3) (aCons (dVar 7) aNil)) aNil) (LE (.imm (.scr ns)) (.own (PenD cs p2 r2)) t2 (.imm (ni g)) t4 t5 t6 (.imm (ni d)) (.own (.lst [])) .un .un .un .un) =
        .ok ((wordsOf g d).map wD, LE (.imm (.scr ns)) (.own (PenD cs p2 r2)) t2 (.imm (ni g)) t4 t5 t6 (.imm (ni d)) (.own (.lst [])) .un .un .un .un) := by
      generalize (wordsOf g d).map wD = W at wo
      simp [itSeq, dCall, aCons, aNil, dVar, Val.d, Src.d, Src.ok, wo, asRes, seqD]
    show ((itSeq (dCall F__law_words ⟨2, [], [.pos 0, .pos 1]⟩ (aCons (dVar 3) (aCons (dVar 7) aNil)) aNil) _).bind fun p => sLoop (gSet 9) (sSeq toldS addS) p.1 p.2) = _
    rw [it, Res.bind_ok]
    exact wl
  generalize (wordsOf g d).map (fun w => pairD (1, Mw (g - 1) (cntOf g w))) = ws at a3 L5
  have w1 := even_weight_ok (d := .lst [ni 1000]) (cs := [1000]) (.inl rfl) (by decide) (by decide) (by decide) (by decide)
  rw [Mw_single 1000] at w1
  have w1 : F_even_weight [.lst [ni 1000]] = .ok (.imm (ni 1), none) := w1
  have f1 := even_factor_ok (g := 5) (d := 1000) (by decide) (by decide) (by decide)
  rw [ef_one rfl rfl] at f1
  have L6 : lB6 (LE (.imm (.scr ns)) (.own (PenD cs p2 r2)) t2 (.imm (ni g)) t4 t5 t6 (.imm (ni d)) (.own (.lst ws)) u9 u10 .un .un) = .ok (.rt (.imm (.bl true)), LE (.imm (.scr ns)) (.own (PenD cs p2 r2)) t2 (.imm (ni g)) t4 t5 t6 (.imm (ni d)) (.imm (.lst ws)) u9 u10 .un .un) := by
    have q1 : opMul (.int 1004) (.int 1003) = .ok (.imm (.int 1007012)) := by kernel_rfl
    have q2 : opMul (.int 1007012) (.int 1002) = .ok (.imm (.int 1009026024)) := by kernel_rfl
    have q3 : opMul (.int 1009026024) (.int 1001) = .ok (.imm (.int 1010035050024)) := by kernel_rfl
    have q4 : opFDiv (.int 1010035050024) (.int 24) = .ok (.imm (.int 42084793751)) := by kernel_rfl
    have q5 : eqS false (ni 42084793751) (.int 42084793751) = .ok (.imm (.bl true)) := ni_eq 42084793751 42084793751
    have q6 : eqS false (ni 1) (.int 1) = .ok (.imm (.bl true)) := ni_eq 1 1
    have q7 : eqS false (pairD (1, 1)) (.tup [.int 1, .int 1]) = .ok (.imm (.bl true)) := eq_pair (1, 1) (1, 1)
    have l5 : ni 5 = .int 5 := rfl
    have l1000 : ni 1000 = .int 1000 := rfl
    rw [l5, l1000] at f1
    rw [l1000] at w1
    unfold lB6
    simp [sRet, dAnd, dBin, dCall, dLst, dTup, aCons, aNil, dVar, dC, Val.d, Src.d, Src.ok, a3, w1, f1, asRes, sizeLine, q1, q2, q3, q4, q5, q6, q7]
  unfold F_law
  rw [b_law_eq]
  exact run_rt (e := LE (.imm (.scr ns)) .un .un .un .un .un .un .un .un .un .un .un .un) rfl ((seq_nx L1).trans ((seq_nx L2).trans ((seq_nx L3).trans ((seq_nx L4).trans ((seq_nx L5).trans L6)))))
end G


open PySem PySem.W PyProof.Rows
set_option maxHeartbeats 0 in
theorem PySem.Challenge.cw_hindprice_k70_even_weights_and_factors_holds : PySem.Challenge.rw_hindprice_k70_even_weights_and_factors.Holds := by
  w_on; o_law; k_head; (case hw => w_witness2)
  k_fill
  refine G.walk_G (l := PySem.Challenge.rw_hindprice_k70_even_weights_and_factors) (n := 63) (k := 6) (x := "_law_script") (F := G.F_law) rfl (by decide) rfl ⟨rfl, by decide, by decide⟩ (fun w h Y => PySem.W.kIn_of Y) ?F G.law_true
  case F =>
    intro w mg fa h KX Gn hmg
    refine' G.all_mk KX Gn hmg ?p0 ?l0 ?c0 ?q0 ?p1 ?l1 ?c1 ?q1 ?p2 ?l2 ?c2 ?q2 ?p3 ?l3 ?c3 ?q3 ?p4 ?l4 ?c4 ?q4 ?p5 ?l5 ?c5 ?q5 ?p6 ?l6 ?c6 ?q6 ?p7 ?l7 ?c7 ?q7 ?p8 ?l8 ?c8 ?q8 ?p9 ?l9 ?c9 ?q9 ?p10 ?l10 ?c10 ?q10 ?p11 ?l11 ?c11 ?q11 ?p12 ?l12 ?c12 ?q12 ?p13 ?l13 ?c13 ?q13 ?p14 ?l14 ?c14 ?q14 ?p15 ?l15 ?c15 ?q15 ?p16 ?l16 ?c16 ?q16 ?p17 ?l17 ?c17 ?q17 ?p18 ?l18 ?c18 ?q18 ?p19 ?l19 ?c19 ?q19 ?p20 ?l20 ?c20 ?q20 ?p21 ?l21 ?c21 ?q21 ?p22 ?l22 ?c22 ?q22 ?p23 ?l23 ?c23 ?q23 ?p24 ?l24 ?c24 ?q24 ?p25 ?l25 ?c25 ?q25 ?p26 ?l26 ?c26 ?q26 ?b0 ?b1 ?b2 ?b3 ?b4 ?b5 ?b6 ?b7 ?b8 ?b9 ?b10 ?b11 ?v0 ?v1 ?v2
    (case p0 => k_is); (case l0 => k_is); (case c0 => k_is); (case q0 => k_is); (case p1 => k_is); (case l1 => k_is); (case c1 => k_is); (case q1 => k_is); (case p2 => k_is); (case l2 => k_is); (case c2 => k_is); (case q2 => k_is); (case p3 => k_is); (case l3 => k_is); (case c3 => k_is); (case q3 => k_is); (case p4 => k_is); (case l4 => k_is); (case c4 => k_is); (case q4 => k_is); (case p5 => k_is); (case l5 => k_is); (case c5 => k_is); (case q5 => k_is); (case p6 => k_is); (case l6 => k_is); (case c6 => k_is); (case q6 => k_is); (case p7 => k_is); (case l7 => k_is); (case c7 => k_is); (case q7 => k_is); (case p8 => k_is); (case l8 => k_is); (case c8 => k_is); (case q8 => k_is); (case p9 => k_is); (case l9 => k_is); (case c9 => k_is); (case q9 => k_is); (case p10 => k_is); (case l10 => k_is); (case c10 => k_is); (case q10 => k_is); (case p11 => k_is); (case l11 => k_is); (case c11 => k_is); (case q11 => k_is); (case p12 => k_is); (case l12 => k_is); (case c12 => k_is); (case q12 => k_is); (case p13 => k_is); (case l13 => k_is); (case c13 => k_is); (case q13 => k_is); (case p14 => k_is); (case l14 => k_is); (case c14 => k_is); (case q14 => k_is); (case p15 => k_is); (case l15 => k_is); (case c15 => k_is); (case q15 => k_is); (case p16 => k_is); (case l16 => k_is); (case c16 => k_is); (case q16 => k_is); (case p17 => k_is); (case l17 => k_is); (case c17 => k_is); (case q17 => k_is); (case p18 => k_is); (case l18 => k_is); (case c18 => k_is); (case q18 => k_is); (case p19 => k_is); (case l19 => k_is); (case c19 => k_is); (case q19 => k_is); (case p20 => k_is); (case l20 => k_is); (case c20 => k_is); (case q20 => k_is); (case p21 => k_is); (case l21 => k_is); (case c21 => k_is); (case q21 => k_is); (case p22 => k_is); (case l22 => k_is); (case c22 => k_is); (case q22 => k_is); (case p23 => k_is); (case l23 => k_is); (case c23 => k_is); (case q23 => k_is); (case p24 => k_is); (case l24 => k_is); (case c24 => k_is); (case q24 => k_is); (case p25 => k_is); (case l25 => k_is); (case c25 => k_is); (case q25 => k_is); (case p26 => k_is); (case l26 => k_is); (case c26 => k_is); (case q26 => k_is); (case b0 => k_is); (case b1 => k_is); (case b2 => k_is); (case b3 => k_is); (case b4 => k_is); (case b5 => k_is); (case b6 => k_is); (case b7 => k_is); (case b8 => k_is); (case b9 => k_is); (case b10 => k_is); (case b11 => k_is); (case v0 => k_is); (case v1 => k_is); (case v2 => k_is)

