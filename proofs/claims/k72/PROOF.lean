import PyProof.Rows.All
import Wide.All
import OpenK.AllK
import Wide.FinOn
import HandS.ForMost
import HandS.ForExc
import HandS.IsInst
import HandS.TupAny
import HandS.Wide
import HandS.WideBits
import HandS.Conv
import HandS.Zip
import HandS.Star
import HandS.DictTup
import HandS.Defaults
import KE.GoesNewDict
import KE.GoesMore
import KE.GoesEnum
import KE.KDictDisplayH
import PySem.Challenge.RW_hindprice_k72_whole_even_purses_keep_a_s
set_option Elab.async false
set_option linter.all false
set_option maxRecDepth 100000
set_option maxHeartbeats 2000000
/-! Kern1: plain data, how a value reads as data, what a body's slots hold, the ends of an expression. -/
namespace G
open PySem PySem.Spec PyProof.Rows L2

/-- data: what a value is, all the way in -/
inductive Dt where
  | non | bl (b : Bool) | int (i : Int) | str (x : Str) | lst (xs : List Dt) | tup (xs : List Dt)
  | scr (ns : List Int) | dct (ks vs : List Dt) | dcf (ks vs : List Dt) | obj (c : Str) (ks : List Str) (vs : List Dt)
  deriving Inhabited

def keyD : Key → Dt
  | .inl i => .int i
  | .inr x => .str x

/-- the written part, and the module's names -/
structure Wd where
  K : PySem.W.Frag
  mg : Str → Option Value

mutual
def RdD (W : Wd) (H : Hp) : Dt → V → Prop
  | .non, v => v = .non
  | .bl b, v => v = .bl b
  | .int i, v => v = .int i
  | .str x, v => v = .str x
  | .lst ds, v => ∃ a vs, v = .ref a ∧ H a = some (.lst vs) ∧ RdL W H ds vs
  | .scr ns, v => ∃ a, v = .ref a ∧ SqL W.K H a (ns.map V.int)
  | .tup ds, v => ∃ a vs, v = .ref a ∧ H a = some (.tup vs) ∧ RdL W H ds vs
  | .dct ks ds, v => ∃ a, v = .ref a ∧ ∃ (kk : List (List Key)) (vs : List V), H a = some (.dT (kk.zip vs)) ∧ kk.length = vs.length ∧ ks = kk.map (fun k => .tup (k.map keyD)) ∧ RdL W H ds vs
  | .dcf ks ds, v => ∃ a, v = .ref a ∧ ∃ (kk : List (List Key)) (vs : List V) (o : Obj), H a = some (.frz o (.dT (kk.zip vs))) ∧ kk.length = vs.length ∧ ks = kk.map (fun k => .tup (k.map keyD)) ∧ RdL W H ds vs
  | .obj c ks ds, v => ∃ a C dx vs, v = .ref a ∧ W.mg c = some (.ref C) ∧ H a = some (.ins C dx (ks.zip vs)) ∧ ks.length = vs.length ∧ RdL W H ds vs
def RdL (W : Wd) (H : Hp) : List Dt → List V → Prop
  | [], vs => vs = []
  | d :: ds, vs => ∃ v r, vs = v :: r ∧ RdD W H d v ∧ RdL W H ds r
end

section
variable {W : Wd} {H H' : Hp}
theorem same_l {a : Addr} {xs : List V} {K : PySem.W.Frag} (e : Same H H') (h : SqL K H a xs) : SqL K H' a xs := e.seq h
theorem same_rd {a : Addr} {u : HO} (e : Same H H') (h : L2.Rd H a u) : L2.Rd H' a u := by
  rcases h with h | ⟨o, h⟩
  · exact .inl (e _ _ h)
  · exact .inr ⟨o, e _ _ h⟩
theorem same_t {a : Addr} {xs : List V} {K : PySem.W.Frag} (e : Same H H') (h : SqT K H a xs) : SqT K H' a xs := by
  rcases h with h | h
  · exact .inl (same_rd e h)
  · exact .inr h
theorem sqt_of {K : PySem.W.Frag} {a : Addr} {vs : List V} (h : H a = some (.tup vs)) : SqT K H a vs := .inl (.inl h)
mutual
theorem RdD.mono (e : Same H H') : ∀ (d : Dt) (v : V), RdD W H d v → RdD W H' d v
  | .non, _, h => h
  | .bl _, _, h => h
  | .int _, _, h => h
  | .str _, _, h => h
  | .lst ds, v, h => by
    obtain ⟨a, vs, h1, h2, h3⟩ := h
    exact ⟨a, vs, h1, e _ _ h2, RdL.mono e ds vs h3⟩
  | .scr ns, v, h => by
    obtain ⟨a, h1, h2⟩ := h
    exact ⟨a, h1, same_l e h2⟩
  | .tup ds, v, h => by
    obtain ⟨a, vs, h1, h2, h3⟩ := h
    exact ⟨a, vs, h1, e _ _ h2, RdL.mono e ds vs h3⟩
  | .dct ks ds, v, h => by
    obtain ⟨a, h0, h⟩ := h
    refine ⟨a, h0, ?_⟩
    obtain ⟨kk, vs, h1, h2, h3, h4⟩ := h
    exact ⟨kk, vs, e _ _ h1, h2, h3, RdL.mono e ds vs h4⟩
  | .dcf ks ds, v, h => by
    obtain ⟨a, h0, kk, vs, o, h1, h2, h3, h4⟩ := h
    exact ⟨a, h0, kk, vs, o, e _ _ h1, h2, h3, RdL.mono e ds vs h4⟩
  | .obj c ks ds, v, h => by
    obtain ⟨a, C, dx, vs, h1, h2, h3, h4, h5⟩ := h
    exact ⟨a, C, dx, vs, h1, h2, e _ _ h3, h4, RdL.mono e ds vs h5⟩
theorem RdL.mono (e : Same H H') : ∀ (ds : List Dt) (vs : List V), RdL W H ds vs → RdL W H' ds vs
  | [], _, h => h
  | d :: ds, vs, h => by
    obtain ⟨v, r, h1, h2, h3⟩ := h
    exact ⟨v, r, h1, RdD.mono e d v h2, RdL.mono e ds r h3⟩
end
theorem RdL.nil : RdL W H [] [] := rfl
theorem RdL.cons {d : Dt} {v : V} {ds : List Dt} {vs : List V} (h : RdD W H d v) (t : RdL W H ds vs) : RdL W H (d :: ds) (v :: vs) := ⟨v, vs, rfl, h, t⟩
theorem RdL.len : ∀ {ds : List Dt} {vs : List V}, RdL W H ds vs → ds.length = vs.length
  | [], vs, h => by cases (show vs = [] from h); rfl
  | d :: ds, vs, h => by
    obtain ⟨v, r, rfl, _, h3⟩ := h
    rw [List.length_cons, List.length_cons, RdL.len h3]
theorem RdL.get : ∀ {ds : List Dt} {vs : List V} {i : Nat} {d : Dt}, RdL W H ds vs → ds[i]? = some d → ∃ v, vs[i]? = some v ∧ RdD W H d v
  | [], vs, i, d, h, e => by simp at e
  | d :: ds, vs, 0, d', h, e => by
    obtain ⟨v, r, rfl, h2, _⟩ := h
    cases (show some d = some d' from e)
    exact ⟨v, rfl, h2⟩
  | d :: ds, vs, i + 1, d', h, e => by
    obtain ⟨v, r, rfl, _, h3⟩ := h
    exact RdL.get (i := i) h3 (by simpa using e)
theorem RdL.getV : ∀ {ds : List Dt} {vs : List V} {i : Nat} {v : V}, RdL W H ds vs → vs[i]? = some v → ∃ d, ds[i]? = some d ∧ RdD W H d v
  | [], vs, i, v, h, e => by cases (show vs = [] from h); simp at e
  | d :: ds, vs, 0, v', h, e => by
    obtain ⟨v, r, rfl, h2, _⟩ := h
    cases (show some v = some v' from e)
    exact ⟨d, rfl, h2⟩
  | d :: ds, vs, i + 1, v', h, e => by
    obtain ⟨v, r, rfl, _, h3⟩ := h
    exact RdL.getV (i := i) h3 (by simpa using e)
theorem RdL.append : ∀ {ds es : List Dt} {vs ws : List V}, RdL W H ds vs → RdL W H es ws → RdL W H (ds ++ es) (vs ++ ws)
  | [], _, _, _, h, t => by cases (show _ = [] from h); exact t
  | d :: ds, _, _, _, h, t => by
    obtain ⟨v, r, rfl, h2, h3⟩ := h
    exact ⟨v, r ++ _, rfl, h2, RdL.append h3 t⟩
theorem RdL.take : ∀ {ds : List Dt} {vs : List V} (n : Nat), RdL W H ds vs → RdL W H (ds.take n) (vs.take n)
  | _, _, 0, _ => rfl
  | [], _, n + 1, h => by cases (show _ = [] from h); rfl
  | d :: ds, _, n + 1, h => by
    obtain ⟨v, r, rfl, h2, h3⟩ := h
    exact ⟨v, r.take n, rfl, h2, RdL.take n h3⟩
theorem RdL.drop : ∀ {ds : List Dt} {vs : List V} (n : Nat), RdL W H ds vs → RdL W H (ds.drop n) (vs.drop n)
  | _, _, 0, h => h
  | [], _, n + 1, h => by cases (show _ = [] from h); rfl
  | d :: ds, _, n + 1, h => by
    obtain ⟨v, r, rfl, _, h3⟩ := h
    exact RdL.drop n h3
theorem RdL.set {d : Dt} {v : V} (hd : RdD W H d v) : ∀ {ds : List Dt} {vs : List V} (n : Nat), RdL W H ds vs → RdL W H (ds.set n d) (vs.set n v)
  | [], _, _, h => by cases (show _ = [] from h); rfl
  | e :: ds, _, 0, h => by
    obtain ⟨u, r, rfl, _, h3⟩ := h
    exact ⟨v, r, rfl, hd, h3⟩
  | e :: ds, _, n + 1, h => by
    obtain ⟨u, r, rfl, h2, h3⟩ := h
    exact ⟨u, r.set n v, rfl, h2, RdL.set hd n h3⟩
theorem RdL.ints : ∀ {ns : List Int} {vs : List V}, RdL W H (ns.map .int) vs → vs = ns.map V.int
  | [], _, h => h
  | n :: ns, _, h => by
    obtain ⟨v, r, rfl, h2, h3⟩ := h
    rw [show v = V.int n from h2, RdL.ints h3]
    rfl
theorem RdL.ofInts : ∀ (ns : List Int), RdL W H (ns.map .int) (ns.map V.int)
  | [] => rfl
  | n :: ns => ⟨_, _, rfl, rfl, RdL.ofInts ns⟩
end

/-! ### slots, results -/
/-- what a slot holds: nothing that is known, data, a list or dict that this body alone holds, one that the caller lent -/
inductive Slot where
  | un | imm (d : Dt) | own (d : Dt) | io (d : Dt)
  deriving Inhabited
abbrev Env' := List Slot
/-- a value: data, or a new list or dict that nobody else holds -/
inductive Val where
  | imm (d : Dt) | fresh (d : Dt)
def Val.d : Val → Dt
  | .imm d => d
  | .fresh d => d
structure Exn where
  cls : Str
  fs : List (Str × Dt)
inductive Res (α : Type) where
  | ok (a : α) | err (x : Exn) | bad
def Res.bind {α β : Type} : Res α → (α → Res β) → Res β
  | .ok a, f => f a
  | .err x, _ => .err x
  | .bad, _ => .bad
def Res.map {α β : Type} (f : α → β) (r : Res α) : Res β := r.bind fun a => .ok (f a)
@[simp] theorem Res.bind_ok {α β : Type} (a : α) (f : α → Res β) : (Res.ok a).bind f = f a := rfl
@[simp] theorem Res.bind_err {α β : Type} (x : Exn) (f : α → Res β) : (Res.err x : Res α).bind f = .err x := rfl
@[simp] theorem Res.bind_bad {α β : Type} (f : α → Res β) : (Res.bad : Res α).bind f = .bad := rfl
@[simp] theorem Res.map_ok {α β : Type} (a : α) (f : α → β) : (Res.ok a).map f = .ok (f a) := rfl
@[simp] theorem Res.map_err {α β : Type} (x : Exn) (f : α → β) : (Res.err x : Res α).map f = .err x := rfl
@[simp] theorem Res.map_bad {α β : Type} (f : α → β) : (Res.bad : Res α).map f = .bad := rfl

/-- what stands at an address that is owned -/
def OwnAt (W : Wd) (Hb H : Hp) (a : Addr) : Dt → Prop
  | .lst ds => ∃ vs, H a = some (.lst vs) ∧ RdL W Hb ds vs
  | .dct ks ds => ∃ (kk : List (List Key)) (vs : List V), H a = some (.dT (kk.zip vs)) ∧ kk.length = vs.length ∧ ks = kk.map (fun k => .tup (k.map keyD)) ∧ RdL W Hb ds vs
  | _ => False
theorem OwnAt.there {W : Wd} {Hb H : Hp} {a : Addr} : ∀ {d : Dt}, OwnAt W Hb H a d → ∃ o, H a = some o
  | .lst _, h => ⟨_, h.choose_spec.1⟩
  | .dct _ _, h => by
    obtain ⟨_, _, h, _⟩ := h
    exact ⟨_, h⟩
  | .non, h => h.elim
  | .bl _, h => h.elim
  | .int _, h => h.elim
  | .str _, h => h.elim
  | .tup _, h => h.elim
  | .scr _, h => h.elim
  | .obj _ _ _, h => h.elim
  | .dcf _ _, h => h.elim
theorem OwnAt.ntup {W : Wd} {Hb H : Hp} {a : Addr} : ∀ {d : Dt}, OwnAt W Hb H a d → ∀ vs, H a ≠ some (.tup vs)
  | .lst _, h, vs, e => by
    obtain ⟨ws, h1, _⟩ := h
    rw [h1] at e
    cases e
  | .dct _ _, h, vs, e => by
    obtain ⟨_, _, h1, _⟩ := h
    rw [h1] at e
    cases e
  | .non, h, _, _ => h.elim
  | .bl _, h, _, _ => h.elim
  | .int _, h, _, _ => h.elim
  | .str _, h, _, _ => h.elim
  | .tup _, h, _, _ => h.elim
  | .scr _, h, _, _ => h.elim
  | .obj _ _ _, h, _, _ => h.elim
  | .dcf _ _, h, _, _ => h.elim
/-- the base may grow, the object stands -/
theorem OwnAt.move {W : Wd} {Hb Hb' H H' : Hp} {a : Addr} (e : Same Hb Hb') (k : ∀ o, H a = some o → H' a = some o) : ∀ {d : Dt}, OwnAt W Hb H a d → OwnAt W Hb' H' a d
  | .lst _, h => by
    obtain ⟨vs, h1, h2⟩ := h
    exact ⟨vs, k _ h1, RdL.mono e _ _ h2⟩
  | .dct _ _, h => by
    obtain ⟨kk, vs, h1, h2, h3, h4⟩ := h
    exact ⟨kk, vs, k _ h1, h2, h3, RdL.mono e _ _ h4⟩
  | .non, h => h.elim
  | .bl _, h => h.elim
  | .int _, h => h.elim
  | .str _, h => h.elim
  | .tup _, h => h.elim
  | .scr _, h => h.elim
  | .obj _ _ _, h => h.elim
  | .dcf _ _, h => h.elim
/-- given up, it is data -/
theorem OwnAt.frozen {W : Wd} {Hb H : Hp} {a : Addr} {o : HO} (hn : Hb a = none) (ho : H a = some o) : ∀ {d : Dt}, OwnAt W Hb H a d → RdD W (upd Hb a o) d (.ref a)
  | .lst _, h => by
    obtain ⟨vs, h1, h2⟩ := h
    rw [ho] at h1
    cases h1
    exact ⟨a, vs, rfl, upd_same, RdL.mono (fun b x e => by rw [upd_ne (ne_of_none e hn)]; exact e) _ _ h2⟩
  | .dct _ _, h => by
    obtain ⟨kk, vs, h1, h2, h3, h4⟩ := h
    rw [ho] at h1
    cases h1
    exact ⟨a, rfl, kk, vs, upd_same, h2, h3, RdL.mono (fun b x e => by rw [upd_ne (ne_of_none e hn)]; exact e) _ _ h4⟩
  | .non, h => h.elim
  | .bl _, h => h.elim
  | .int _, h => h.elim
  | .str _, h => h.elim
  | .tup _, h => h.elim
  | .scr _, h => h.elim
  | .obj _ _ _, h => h.elim
  | .dcf _ _, h => h.elim

def Owns (env : Env') (i : Nat) (d : Dt) : Prop := env[i]? = some (.own d) ∨ env[i]? = some (.io d)
/-- heaps: foreign things and the base are kept, and apart -/
structure Bse (Fm Hb H : Hp) : Prop where
  hb : Same Hb H
  fm : Same Fm H
  dj : ∀ a o, Fm a = some o → Hb a = none
  nt : ∀ a vs, Fm a ≠ some (.tup vs)
/-- the slots are as env tells -/
structure Agr (W : Wd) (Fm Hb : Hp) (ia : Option Addr) (env : Env') (σ : L2.St) (H : Hp) : Prop where
  bs : Bse Fm Hb H
  len : env.length = σ.length
  imm : ∀ (i : Nat) (d : Dt), env[i]? = some (Slot.imm d) → ∃ v, σ[i]? = some (some v) ∧ RdD W Hb d v
  own : ∀ (i : Nat) (d : Dt), Owns env i d → ∃ a, σ[i]? = some (some (.ref a)) ∧ Hb a = none ∧ Fm a = none ∧ OwnAt W Hb H a d
  inj : ∀ (i j : Nat) (d d' : Dt) (a : Addr), Owns env i d → Owns env j d' → σ[i]? = some (some (.ref a)) → σ[j]? = some (some (.ref a)) → i = j
  io : ∀ (i : Nat) (d : Dt), env[i]? = some (Slot.io d) → i = 0 ∧ ∃ a, ia = some a ∧ σ[i]? = some (some (.ref a))
  ioh : ∀ (a : Addr), ia = some a → ∃ d, env[0]? = some (Slot.io d)

section
variable {W : Wd} {Fm Hb Hb' H H' : Hp} {ia : Option Addr} {env : Env'} {σ : L2.St}
theorem Bse.free (b : Bse Fm Hb H) {p : Addr} (h : H p = none) : Hb p = none ∧ Fm p = none := ⟨b.hb.free h, b.fm.free h⟩
/-- a new object is laid that is data from now on -/
theorem Bse.lay (b : Bse Fm Hb H) {p : Addr} {o : HO} (h : H p = none) : Bse Fm (upd Hb p o) (upd H p o) where
  hb := fun a u e => by
    by_cases ha : a = p
    · subst ha
      rw [upd_same] at e ⊢
      exact e
    · rw [upd_ne ha] at e ⊢
      exact b.hb a u e
  fm := fun a u e => by
    rw [upd_ne (ne_of_none (b.fm a u e) h)]
    exact b.fm a u e
  dj := fun a u e => by
    rw [upd_ne (ne_of_none (b.fm a u e) h)]
    exact b.dj a u e
  nt := b.nt
theorem same_lay {p : Addr} {o : HO} (h : Hb p = none) : Same Hb (upd Hb p o) := fun b x e => by
  rw [upd_ne (ne_of_none e h)]
  exact e
/-- the same, owned for now -/
theorem Bse.put (b : Bse Fm Hb H) {p : Addr} {o : HO} (h1 : Hb p = none) (h2 : Fm p = none) : Bse Fm Hb (upd H p o) where
  hb := fun a u e => by
    rw [upd_ne (ne_of_none e h1)]
    exact b.hb a u e
  fm := fun a u e => by
    rw [upd_ne (ne_of_none e h2)]
    exact b.fm a u e
  dj := b.dj
  nt := b.nt
/-- what is owned becomes data -/
theorem Bse.freeze (b : Bse Fm Hb H) {p : Addr} {o : HO} (h2 : Fm p = none) (ho : H p = some o) : Bse Fm (upd Hb p o) H where
  hb := fun a u e => by
    by_cases ha : a = p
    · subst ha
      rw [upd_same] at e
      rw [← e]
      exact ho
    · rw [upd_ne ha] at e
      exact b.hb a u e
  fm := b.fm
  dj := fun a u e => by
    rw [upd_ne (ne_of_none e h2)]
    exact b.dj a u e
  nt := b.nt

theorem Agr.lay (A : Agr W Fm Hb ia env σ H) {p : Addr} {o : HO} (h : H p = none) : Agr W Fm (upd Hb p o) ia env σ (upd H p o) where
  bs := A.bs.lay h
  len := A.len
  imm := fun i d e => by
    obtain ⟨v, h1, h2⟩ := A.imm i d e
    exact ⟨v, h1, RdD.mono (same_lay (A.bs.hb.free h)) _ _ h2⟩
  own := fun i d e => by
    obtain ⟨a, h1, h2, h3, h4⟩ := A.own i d e
    obtain ⟨o', ho'⟩ := h4.there
    have ne : a ≠ p := ne_of_none ho' h
    exact ⟨a, h1, by rw [upd_ne ne]; exact h2, h3, h4.move (same_lay (A.bs.hb.free h)) fun u e => by rw [upd_ne ne]; exact e⟩
  inj := A.inj
  io := A.io
  ioh := A.ioh
/-- any other thing is laid, apart from all -/
theorem Agr.put (A : Agr W Fm Hb ia env σ H) {p : Addr} {o : HO} (h1 : Hb p = none) (h2 : Fm p = none) (h3 : ∀ i d, Owns env i d → σ[i]? ≠ some (some (.ref p))) : Agr W Fm Hb ia env σ (upd H p o) where
  bs := A.bs.put h1 h2
  len := A.len
  imm := A.imm
  own := fun i d e => by
    obtain ⟨a, g1, g2, g3, g4⟩ := A.own i d e
    have ne : a ≠ p := fun z => h3 i d e (by rw [← z]; exact g1)
    exact ⟨a, g1, g2, g3, g4.move (Same.refl _) fun u e => by rw [upd_ne ne]; exact e⟩
  inj := A.inj
  io := A.io
  ioh := A.ioh
theorem Agr.apart (A : Agr W Fm Hb ia env σ H) {p : Addr} (h : H p = none) : ∀ i d, Owns env i d → σ[i]? ≠ some (some (.ref p)) := fun i d e z => by
  obtain ⟨a, g1, g2, g3, g4⟩ := A.own i d e
  rw [g1] at z
  cases z
  obtain ⟨o, ho⟩ := g4.there
  rw [h] at ho
  cases ho
/-- what is apart becomes data -/
theorem Agr.freeze (A : Agr W Fm Hb ia env σ H) {p : Addr} {o : HO} (h1 : Hb p = none) (h2 : Fm p = none) (ho : H p = some o) (h3 : ∀ i d, Owns env i d → σ[i]? ≠ some (some (.ref p))) : Agr W Fm (upd Hb p o) ia env σ H where
  bs := A.bs.freeze h2 ho
  len := A.len
  imm := fun i d e => by
    obtain ⟨v, g1, g2⟩ := A.imm i d e
    exact ⟨v, g1, RdD.mono (same_lay h1) _ _ g2⟩
  own := fun i d e => by
    obtain ⟨a, g1, g2, g3, g4⟩ := A.own i d e
    have ne : a ≠ p := fun z => h3 i d e (by rw [← z]; exact g1)
    exact ⟨a, g1, by rw [upd_ne ne]; exact g2, g3, g4.move (same_lay h1) fun u e => e⟩
  inj := A.inj
  io := A.io
  ioh := A.ioh
theorem get_set {α : Type} {l : List α} {i j : Nat} {x y : α} (h : (l.set i x)[j]? = some y) : (i = j ∧ y = x ∧ i < l.length) ∨ (i ≠ j ∧ l[j]? = some y) := by
  by_cases e : i = j
  · subst e
    by_cases hl : i < l.length
    · rw [List.getElem?_set_self hl] at h
      exact .inl ⟨rfl, (Option.some.inj h).symm, hl⟩
    · rw [List.getElem?_eq_none (by rw [List.length_set]; omega)] at h
      cases h
  · rw [List.getElem?_set_ne e] at h
    exact .inr ⟨e, h⟩
theorem Owns.set_ne {i j : Nat} {s : Slot} {d : Dt} (h : Owns (env.set i s) j d) (hs : ∀ d, s ≠ .own d ∧ s ≠ .io d) : i ≠ j ∧ Owns env j d := by
  rcases h with h | h
  · rcases get_set h with ⟨_, e, _⟩ | ⟨ne, e⟩
    · exact absurd e.symm (hs d).1
    · exact ⟨ne, .inl e⟩
  · rcases get_set h with ⟨_, e, _⟩ | ⟨ne, e⟩
    · exact absurd e.symm (hs d).2
    · exact ⟨ne, .inr e⟩
/-- data is stored in a slot that is not lent -/
theorem Agr.setImm (A : Agr W Fm Hb ia env σ H) {i : Nat} {d : Dt} {v : V} (hi : i < env.length) (hn : ∀ e, env[i]? ≠ some (.io e)) (r : RdD W Hb d v) : Agr W Fm Hb ia (env.set i (.imm d)) (σ.set i (some v)) H where
  bs := A.bs
  len := by rw [List.length_set, List.length_set]; exact A.len
  imm := fun j e h => by
    rcases get_set h with ⟨rfl, q, hl⟩ | ⟨ne, q⟩
    · cases q
      exact ⟨v, List.getElem?_set_self (by rw [← A.len]; exact hl), r⟩
    · obtain ⟨u, g1, g2⟩ := A.imm j e q
      exact ⟨u, by rw [List.getElem?_set_ne ne]; exact g1, g2⟩
  own := fun j e h => by
    obtain ⟨ne, h⟩ := h.set_ne fun d => ⟨fun z => (nomatch z), fun z => (nomatch z)⟩
    obtain ⟨a, g1, g2⟩ := A.own j e h
    exact ⟨a, by rw [List.getElem?_set_ne ne]; exact g1, g2⟩
  inj := fun j k d d' a h1 h2 e1 e2 => by
    obtain ⟨n1, h1⟩ := h1.set_ne fun d => ⟨fun z => (nomatch z), fun z => (nomatch z)⟩
    obtain ⟨n2, h2⟩ := h2.set_ne fun d => ⟨fun z => (nomatch z), fun z => (nomatch z)⟩
    rw [List.getElem?_set_ne n1] at e1
    rw [List.getElem?_set_ne n2] at e2
    exact A.inj j k d d' a h1 h2 e1 e2
  io := fun j e h => by
    rcases get_set h with ⟨_, q, _⟩ | ⟨ne, q⟩
    · cases q
    · obtain ⟨z, a, g1, g2⟩ := A.io j e q
      exact ⟨z, a, g1, by rw [List.getElem?_set_ne ne]; exact g2⟩
  ioh := fun a e => by
    obtain ⟨d', h⟩ := A.ioh a e
    refine ⟨d', ?_⟩
    rw [List.getElem?_set_ne]
    · exact h
    · intro z
      subst z
      exact hn d' h
/-- the content of an owned slot is new, or it is given up: any change of one slot's word that own, io of the others bear -/
theorem Agr.setOwn (A : Agr W Fm Hb ia env σ H) {i : Nat} {d : Dt} {p : Addr} (hi : i < env.length) (hn : ∀ e, env[i]? ≠ some (.io e)) (h1 : Hb p = none) (h2 : Fm p = none) (r : OwnAt W Hb H p d)
    (h3 : ∀ i d, Owns env i d → σ[i]? ≠ some (some (.ref p))) : Agr W Fm Hb ia (env.set i (.own d)) (σ.set i (some (.ref p))) H where
  bs := A.bs
  len := by rw [List.length_set, List.length_set]; exact A.len
  imm := fun j e h => by
    rcases get_set h with ⟨_, q, _⟩ | ⟨ne, q⟩
    · cases q
    · obtain ⟨u, g1, g2⟩ := A.imm j e q
      exact ⟨u, by rw [List.getElem?_set_ne ne]; exact g1, g2⟩
  own := fun j e h => by
    rcases h with h | h
    · rcases get_set h with ⟨rfl, q, hl⟩ | ⟨ne, q⟩
      · cases q
        exact ⟨p, List.getElem?_set_self (by rw [← A.len]; exact hl), h1, h2, r⟩
      · obtain ⟨a, g1, g2⟩ := A.own j e (.inl q)
        exact ⟨a, by rw [List.getElem?_set_ne ne]; exact g1, g2⟩
    · rcases get_set h with ⟨_, q, _⟩ | ⟨ne, q⟩
      · cases q
      · obtain ⟨a, g1, g2⟩ := A.own j e (.inr q)
        exact ⟨a, by rw [List.getElem?_set_ne ne]; exact g1, g2⟩
  inj := fun j k e e' a g1 g2 e1 e2 => by
    have key : ∀ j e, Owns (env.set i (.own d)) j e → j = i ∨ (i ≠ j ∧ Owns env j e) := fun j e g => by
      rcases g with g | g
      · rcases get_set g with ⟨z, _, _⟩ | ⟨ne, q⟩
        · exact .inl z.symm
        · exact .inr ⟨ne, .inl q⟩
      · rcases get_set g with ⟨z, _, _⟩ | ⟨ne, q⟩
        · exact .inl z.symm
        · exact .inr ⟨ne, .inr q⟩
    have hi' : i < σ.length := by rw [← A.len]; exact hi
    rcases key j e g1 with rfl | ⟨n1, o1⟩
    · rcases key k e' g2 with rfl | ⟨n2, o2⟩
      · rfl
      · rw [List.getElem?_set_self hi'] at e1
        rw [List.getElem?_set_ne n2] at e2
        cases e1
        exact absurd e2 (h3 k e' o2)
    · rw [List.getElem?_set_ne n1] at e1
      rcases key k e' g2 with rfl | ⟨n2, o2⟩
      · rw [List.getElem?_set_self hi'] at e2
        cases e2
        exact absurd e1 (h3 j e o1)
      · rw [List.getElem?_set_ne n2] at e2
        exact A.inj j k e e' a o1 o2 e1 e2
  io := fun j e h => by
    rcases get_set h with ⟨_, q, _⟩ | ⟨ne, q⟩
    · cases q
    · obtain ⟨z, a, g1, g2⟩ := A.io j e q
      exact ⟨z, a, g1, by rw [List.getElem?_set_ne ne]; exact g2⟩
  ioh := fun a e => by
    obtain ⟨d', h⟩ := A.ioh a e
    refine ⟨d', ?_⟩
    rw [List.getElem?_set_ne]
    · exact h
    · intro z
      subst z
      exact hn d' h
/-- a slot is forgotten -/
theorem Agr.forget (A : Agr W Fm Hb ia env σ H) {i : Nat} (hn : ∀ e, env[i]? ≠ some (.io e)) {o : Option V} : Agr W Fm Hb ia (env.set i .un) (σ.set i o) H where
  bs := A.bs
  len := by rw [List.length_set, List.length_set]; exact A.len
  imm := fun j e h => by
    rcases get_set h with ⟨_, q, _⟩ | ⟨ne, q⟩
    · cases q
    · obtain ⟨u, g1, g2⟩ := A.imm j e q
      exact ⟨u, by rw [List.getElem?_set_ne ne]; exact g1, g2⟩
  own := fun j e h => by
    obtain ⟨ne, h⟩ := h.set_ne fun d => ⟨fun z => (nomatch z), fun z => (nomatch z)⟩
    obtain ⟨a, g1, g2⟩ := A.own j e h
    exact ⟨a, by rw [List.getElem?_set_ne ne]; exact g1, g2⟩
  inj := fun j k d d' a h1 h2 e1 e2 => by
    obtain ⟨n1, h1⟩ := h1.set_ne fun d => ⟨fun z => (nomatch z), fun z => (nomatch z)⟩
    obtain ⟨n2, h2⟩ := h2.set_ne fun d => ⟨fun z => (nomatch z), fun z => (nomatch z)⟩
    rw [List.getElem?_set_ne n1] at e1
    rw [List.getElem?_set_ne n2] at e2
    exact A.inj j k d d' a h1 h2 e1 e2
  io := fun j e h => by
    rcases get_set h with ⟨_, q, _⟩ | ⟨ne, q⟩
    · cases q
    · obtain ⟨z, a, g1, g2⟩ := A.io j e q
      exact ⟨z, a, g1, by rw [List.getElem?_set_ne ne]; exact g2⟩
  ioh := fun a e => by
    obtain ⟨d', h⟩ := A.ioh a e
    refine ⟨d', ?_⟩
    rw [List.getElem?_set_ne]
    · exact h
    · intro z
      subst z
      exact hn d' h
theorem set_self {α : Type} : ∀ {l : List α} {i : Nat} {x : α}, l[i]? = some x → l.set i x = l
  | [], _, _, h => by simp at h
  | a :: l, 0, x, h => by cases (show some a = some x from h); rfl
  | a :: l, i + 1, x, h => by
    show a :: l.set i x = a :: l
    rw [set_self (l := l) (by simpa using h)]
/-- an owned slot's word is given up in place: the object is data from now on -/
theorem Agr.give (A : Agr W Fm Hb ia env σ H) {i : Nat} {d : Dt} (h : env[i]? = some (.own d)) :
    ∃ a Hb', σ[i]? = some (some (.ref a)) ∧ Same Hb Hb' ∧ Agr W Fm Hb' ia (env.set i (.imm d)) σ H ∧ RdD W Hb' d (.ref a) := by
  obtain ⟨a, g1, g2, g3, g4⟩ := A.own i d (.inl h)
  obtain ⟨o, ho⟩ := g4.there
  have A1 : Agr W Fm Hb ia (env.set i .un) (σ.set i (some (.ref a))) H := A.forget (fun e z => by rw [h] at z; cases z)
  rw [set_self g1] at A1
  have A2 := A1.freeze g2 g3 ho fun j e oj z => by
    obtain ⟨ne, oj⟩ := oj.set_ne fun d => ⟨fun z => (nomatch z), fun z => (nomatch z)⟩
    exact ne (A.inj i j d e a (.inl h) oj g1 z)
  have r := g4.frozen g2 ho
  have hl : i < env.length := (List.getElem?_eq_some_iff.mp h).1
  have A3 := A2.setImm (i := i) (d := d) (v := .ref a) (by rw [List.length_set]; exact hl) (fun e z => by rw [List.getElem?_set_self hl] at z; cases z) r
  rw [set_self g1, List.set_set] at A3
  exact ⟨a, upd Hb a o, g1, same_lay g2, A3, r⟩
/-- .. or handed on as it is, the slot forgotten -/
theorem Agr.hand (A : Agr W Fm Hb ia env σ H) {i : Nat} {d : Dt} (h : env[i]? = some (.own d)) :
    ∃ a, σ[i]? = some (some (.ref a)) ∧ Hb a = none ∧ Fm a = none ∧ OwnAt W Hb H a d ∧ Agr W Fm Hb ia (env.set i .un) σ H ∧ ∀ j e, Owns (env.set i .un) j e → σ[j]? ≠ some (some (.ref a)) := by
  obtain ⟨a, g1, g2, g3, g4⟩ := A.own i d (.inl h)
  have A1 : Agr W Fm Hb ia (env.set i .un) (σ.set i (some (.ref a))) H := A.forget (fun e z => by rw [h] at z; cases z)
  rw [set_self g1] at A1
  refine ⟨a, g1, g2, g3, g4, A1, fun j e oj z => ?_⟩
  obtain ⟨ne, oj⟩ := oj.set_ne fun d => ⟨fun z => (nomatch z), fun z => (nomatch z)⟩
  exact ne (A.inj i j d e a (.inl h) oj g1 z)
/-- the object of an owned (or lent) slot is changed -/
theorem Agr.write (A : Agr W Fm Hb ia env σ H) {i : Nat} {d d' : Dt} {a : Addr} {o : HO} {s : Slot} (h : Owns env i d) (hs : (env[i]? = some (.own d) ∧ s = .own d') ∨ (env[i]? = some (.io d) ∧ s = .io d'))
    (ha : σ[i]? = some (some (.ref a))) (r : OwnAt W Hb (upd H a o) a d') : Agr W Fm Hb ia (env.set i s) σ (upd H a o) := by
  obtain ⟨a', g1, g2, g3, g4⟩ := A.own i d h
  rw [ha] at g1
  cases g1
  have hl : i < env.length := by
    rcases h with h | h <;> exact (List.getElem?_eq_some_iff.mp h).1
  have key : ∀ j e, Owns (env.set i s) j e → (i = j ∧ e = d') ∨ (i ≠ j ∧ Owns env j e) := fun j e g => by
    rcases g with g | g
    · rcases get_set g with ⟨z, q, _⟩ | ⟨ne, q⟩
      · rcases hs with ⟨_, rfl⟩ | ⟨_, rfl⟩
        · cases q; exact .inl ⟨z, rfl⟩
        · cases q
      · exact .inr ⟨ne, .inl q⟩
    · rcases get_set g with ⟨z, q, _⟩ | ⟨ne, q⟩
      · rcases hs with ⟨_, rfl⟩ | ⟨_, rfl⟩
        · cases q
        · cases q; exact .inl ⟨z, rfl⟩
      · exact .inr ⟨ne, .inr q⟩
  exact {
    bs := A.bs.put g2 g3
    len := by rw [List.length_set]; exact A.len
    imm := fun j e g => by
      rcases get_set g with ⟨_, q, _⟩ | ⟨ne, q⟩
      · rcases hs with ⟨_, rfl⟩ | ⟨_, rfl⟩ <;> cases q
      · exact A.imm j e q
    own := fun j e g => by
      rcases key j e g with ⟨rfl, rfl⟩ | ⟨ne, g⟩
      · exact ⟨a, ha, g2, g3, r⟩
      · obtain ⟨b, k1, k2, k3, k4⟩ := A.own j e g
        have nb : b ≠ a := fun z => ne (A.inj i j d e a h g ha (by rw [← z]; exact k1))
        exact ⟨b, k1, k2, k3, k4.move (Same.refl _) fun u hu => by rw [upd_ne nb]; exact hu⟩
    inj := fun j k e e' b x1 x2 y1 y2 => by
      rcases key j e x1 with ⟨rfl, rfl⟩ | ⟨n1, o1⟩
      · rcases key k e' x2 with ⟨rfl, rfl⟩ | ⟨n2, o2⟩
        · rfl
        · exact A.inj i k d e' b h o2 y1 y2
      · rcases key k e' x2 with ⟨rfl, rfl⟩ | ⟨n2, o2⟩
        · exact A.inj j i e d b o1 h y1 y2
        · exact A.inj j k e e' b o1 o2 y1 y2
    io := fun j e g => by
      rcases get_set g with ⟨rfl, q, _⟩ | ⟨ne, q⟩
      · rcases hs with ⟨_, rfl⟩ | ⟨hs, rfl⟩
        · cases q
        · exact A.io i d hs
      · exact A.io j e q
    ioh := fun b e => by
      obtain ⟨d'', g⟩ := A.ioh b e
      by_cases z : i = 0
      · subst z
        rcases hs with ⟨hs, _⟩ | ⟨hs, rfl⟩
        · rw [hs] at g; cases g
        · exact ⟨d', List.getElem?_set_self hl⟩
      · exact ⟨d'', by rw [List.getElem?_set_ne z]; exact g⟩ }
end
end G


set_option maxRecDepth 100000
set_option maxHeartbeats 2000000
/-! Kern2: the ends of expressions, tests, statements; how they go on; names, constants, operators. -/
namespace G
open PySem PySem.Spec PyProof.Rows L2

abbrev DE := Env' → Res (Val × Env')
abbrev DT := Env' → Res (Bool × Env')
abbrev DA := Env' → Res (List Dt × Env')
/-- how a statement ends -/
inductive Fl where
  | nx | rt (v : Val) | bk | ct
abbrev DS := Env' → Res (Fl × Env')

/-- an exception's class and fields -/
def ErrAt (W : Wd) (Hb H : Hp) (x : Exn) (c : Value) (dx : Option Addr) : Prop :=
  W.mg x.cls = some c ∧ ((x.fs = [] ∧ dx = none) ∨ ∃ d fs, dx = some d ∧ H d = some (.xd fs) ∧ fs.map (·.1) = x.fs.map (·.1) ∧ RdL W Hb (x.fs.map (·.2)) (fs.map (·.2)))

section
variable {β γ : Type}
/-- what is wanted behind an expression, a test, arguments: G of what comes, the slots, the base, the heap -/
def Post (W : Wd) (EX : XK) (Fm Hb : Hp) (ia : Option Addr) (σ : L2.St) (G : β → Env' → Hp → Hp → Prop) : Res (β × Env') → Prop
  | .ok (b, e) => ∀ H' Hb', Same Hb Hb' → Agr W Fm Hb' ia e σ H' → G b e Hb' H'
  | .err x => ∀ c dx H' Hb', Same Hb Hb' → Bse Fm Hb' H' → ErrAt W Hb' H' x c dx → EX c dx H'
  | .bad => False
def FlG (W : Wd) (Fm : Hp) (D : Ends) (f : Fl) (e : Env') (σ : L2.St) (Hb H : Hp) (va : Val → V → Prop) : Prop :=
  match f with
  | .nx => D.nx σ H
  | .bk => D.bk σ H
  | .ct => D.ct σ H
  | .rt val => ∀ v, va val v → D.rt v H
end
/-- how a value stands -/
def VAt (W : Wd) (Fm Hb H : Hp) (e : Env') (σ : L2.St) : Val → V → Prop
  | .imm d, v => RdD W Hb d v
  | .fresh d, v => ∃ p, v = .ref p ∧ Hb p = none ∧ Fm p = none ∧ OwnAt W Hb H p d ∧ ∀ i x, Owns e i x → σ[i]? ≠ some (some (.ref p))
def PostS (W : Wd) (EX : XK) (Fm Hb : Hp) (ia : Option Addr) (D : Ends) : Res (Fl × Env') → Prop
  | .ok (f, e) => ∀ σ' H' Hb', Same Hb Hb' → Agr W Fm Hb' ia e σ' H' → FlG W Fm D f e σ' Hb' H' (VAt W Fm Hb' H' e σ')
  | .err x => ∀ c dx H' Hb', Same Hb Hb' → Bse Fm Hb' H' → ErrAt W Hb' H' x c dx → EX c dx H'
  | .bad => False

abbrev GE (W : Wd) (Fm : Hp) (σ : L2.St) (Q : VK) : Val → Env' → Hp → Hp → Prop := fun val e Hb H => ∀ v, VAt W Fm Hb H e σ val v → Q v H
abbrev GT (Q : Bool → Hp → Prop) : Bool → Env' → Hp → Hp → Prop := fun b _ _ H => Q b H
abbrev GA (W : Wd) (Q : List V → Hp → Prop) : List Dt → Env' → Hp → Hp → Prop := fun ds _ Hb H => ∀ vs, RdL W Hb ds vs → Q vs H

def rdE (W : Wd) (EX : XK) (f : DE) : TE := fun σ H Q => ∃ Fm Hb ia env, Agr W Fm Hb ia env σ H ∧ Post W EX Fm Hb ia σ (GE W Fm σ Q) (f env)
def rdT (W : Wd) (EX : XK) (f : DT) : TT := fun σ H Q => ∃ Fm Hb ia env, Agr W Fm Hb ia env σ H ∧ Post W EX Fm Hb ia σ (GT Q) (f env)
def rdA (W : Wd) (EX : XK) (f : DA) : TA := fun σ H Q => ∃ Fm Hb ia env, Agr W Fm Hb ia env σ H ∧ Post W EX Fm Hb ia σ (GA W Q) (f env)
def rdS (W : Wd) (EX : XK) (f : DS) : TS := fun D σ H => ∃ Fm Hb ia env, Agr W Fm Hb ia env σ H ∧ PostS W EX Fm Hb ia D (f env)

section
variable {W : Wd} {EX : XK} {Fm Hb Hb' H H' : Hp} {ia : Option Addr} {env : Env'} {σ : L2.St} {β γ : Type} {D : Ends}
theorem Post.mono {G : β → Env' → Hp → Hp → Prop} (e : Same Hb Hb') : ∀ {r : Res (β × Env')}, Post W EX Fm Hb ia σ G r → Post W EX Fm Hb' ia σ G r
  | .ok (_, _), h => fun H' Hb'' e' A => h H' Hb'' (e.trans e') A
  | .err _, h => fun c dx H' Hb'' e' => h c dx H' Hb'' (e.trans e')
  | .bad, h => h.elim
theorem PostS.mono (e : Same Hb Hb') : ∀ {r : Res (Fl × Env')}, PostS W EX Fm Hb ia D r → PostS W EX Fm Hb' ia D r
  | .ok (_, _), h => fun σ' H' Hb'' e' A => h σ' H' Hb'' (e.trans e') A
  | .err _, h => fun c dx H' Hb'' e' => h c dx H' Hb'' (e.trans e')
  | .bad, h => h.elim
/-- one thing, then another -/
theorem Post.bind {G : β → Env' → Hp → Hp → Prop} {G' : γ → Env' → Hp → Hp → Prop} {r : Res (β × Env')} {k : β × Env' → Res (γ × Env')} (h : Post W EX Fm Hb ia σ G' (r.bind k))
    (hk : ∀ b e H' Hb', Same Hb Hb' → Agr W Fm Hb' ia e σ H' → Post W EX Fm Hb' ia σ G' (k (b, e)) → G b e Hb' H') : Post W EX Fm Hb ia σ G r := by
  cases r with
  | ok p =>
    obtain ⟨b, e⟩ := p
    exact fun H' Hb' s A => hk b e H' Hb' s A (Post.mono s h)
  | err x => exact h
  | bad => exact h.elim
theorem Post.bindS {G : β → Env' → Hp → Hp → Prop} {r : Res (β × Env')} {k : β × Env' → Res (Fl × Env')} (h : PostS W EX Fm Hb ia D (r.bind k))
    (hk : ∀ b e H' Hb', Same Hb Hb' → Agr W Fm Hb' ia e σ H' → PostS W EX Fm Hb' ia D (k (b, e)) → G b e Hb' H') : Post W EX Fm Hb ia σ G r := by
  cases r with
  | ok p =>
    obtain ⟨b, e⟩ := p
    exact fun H' Hb' s A => hk b e H' Hb' s A (PostS.mono s h)
  | err x => exact h
  | bad => exact h.elim
/-- a value that is used as data -/
theorem VAt.use {val : Val} {v : V} (A : Agr W Fm Hb ia env σ H) (h : VAt W Fm Hb H env σ val v) : ∃ Hb', Same Hb Hb' ∧ Agr W Fm Hb' ia env σ H ∧ RdD W Hb' val.d v := by
  cases val with
  | imm d => exact ⟨Hb, Same.refl _, A, h⟩
  | fresh d =>
    obtain ⟨p, rfl, h1, h2, h3, h4⟩ := h
    obtain ⟨o, ho⟩ := h3.there
    exact ⟨upd Hb p o, same_lay h1, A.freeze h1 h2 ho h4, h3.frozen h1 ho⟩
/-- the same at an expression's end -/
theorem GE.use {Q : VK} {val : Val} (h : ∀ d Hb' v, val.d = d → Same Hb Hb' → Agr W Fm Hb' ia env σ H → RdD W Hb' d v → Q v H) (A : Agr W Fm Hb ia env σ H) : GE W Fm σ Q val env Hb H := fun v hv => by
  obtain ⟨Hb', s, A', r⟩ := hv.use A
  exact h _ Hb' v rfl s A' r
theorem Post.bindV {G' : γ → Env' → Hp → Hp → Prop} {Q : VK} {r : Res (Val × Env')} {k : Val × Env' → Res (γ × Env')} (h : Post W EX Fm Hb ia σ G' (r.bind k))
    (hk : ∀ val e v H' Hb', Same Hb Hb' → Agr W Fm Hb' ia e σ H' → RdD W Hb' val.d v → Post W EX Fm Hb' ia σ G' (k (val, e)) → Q v H') : Post W EX Fm Hb ia σ (GE W Fm σ Q) r :=
  Post.bind h fun val e H' Hb' s A p => GE.use (fun d Hb'' v ed s' A' r => hk val e v H' Hb'' (s.trans s') A' (by rw [ed]; exact r) (Post.mono s' p)) A
theorem Post.bindVS {Q : VK} {r : Res (Val × Env')} {k : Val × Env' → Res (Fl × Env')} (h : PostS W EX Fm Hb ia D (r.bind k))
    (hk : ∀ val e v H' Hb', Same Hb Hb' → Agr W Fm Hb' ia e σ H' → RdD W Hb' val.d v → PostS W EX Fm Hb' ia D (k (val, e)) → Q v H') : Post W EX Fm Hb ia σ (GE W Fm σ Q) r :=
  Post.bindS h fun val e H' Hb' s A p => GE.use (fun d Hb'' v ed s' A' r => hk val e v H' Hb'' (s.trans s') A' (by rw [ed]; exact r) (PostS.mono s' p)) A
/-- ends -/
theorem Post.imm {Q : VK} {d : Dt} {v : V} (h : Post W EX Fm Hb ia σ (GE W Fm σ Q) (.ok (.imm d, env))) (A : Agr W Fm Hb ia env σ H) (r : RdD W Hb d v) : Q v H := h H Hb (Same.refl _) A v r
theorem Post.newT {Q : VK} {ds : List Dt} {vs : List V} (h : Post W EX Fm Hb ia σ (GE W Fm σ Q) (.ok (.imm (.tup ds), env))) (A : Agr W Fm Hb ia env σ H) (r : RdL W Hb ds vs) : ∀ p, H p = none → Q (.ref p) (upd H p (.tup vs)) := fun p hp => by
  have hn := A.bs.hb.free hp
  exact h _ (upd Hb p (.tup vs)) (same_lay hn) (A.lay hp) _ ⟨p, vs, rfl, upd_same, RdL.mono (same_lay hn) _ _ r⟩
theorem Post.newL {Q : VK} {ds : List Dt} {vs : List V} (h : Post W EX Fm Hb ia σ (GE W Fm σ Q) (.ok (.fresh (.lst ds), env))) (A : Agr W Fm Hb ia env σ H) (r : RdL W Hb ds vs) : ∀ p, H p = none → Q (.ref p) (upd H p (.lst vs)) := fun p hp => by
  obtain ⟨h1, h2⟩ := A.bs.free hp
  exact h _ Hb (Same.refl _) (A.put h1 h2 (A.apart hp)) _ ⟨p, rfl, h1, h2, ⟨vs, upd_same, r⟩, A.apart hp⟩
end

/-! ### judgements -/
theorem pe_mono {X : Cx} {e : Expr} {t t' : TE} (h : PE X e t) (w : ∀ σ H Q, t' σ H Q → t σ H Q) : PE X e t' := ⟨fun pins s σ H Q I q => h.run pins s σ H Q I (w σ H Q q)⟩
theorem pt_mono {X : Cx} {e : Expr} {t t' : TT} (h : PT X e t) (w : ∀ σ H Q, t' σ H Q → t σ H Q) : PT X e t' := ⟨fun pins s σ H Q I q => h.run pins s σ H Q I (w σ H Q q)⟩
theorem pw_mono {X : Cx} {e : Expr} {t t' : TT} (h : PW X e t) (w : ∀ σ H Q, t' σ H Q → t σ H Q) : PW X e t' := ⟨fun wh pins s σ H Q I q => h.run wh pins s σ H Q I (w σ H Q q)⟩
theorem pa_mono {X : Cx} {e : List Expr} {t t' : TA} (h : PA X e t) (w : ∀ σ H Q, t' σ H Q → t σ H Q) : PA X e t' := ⟨fun pos pins s σ H Q I q => h.run pos pins s σ H Q I (w σ H Q q)⟩
theorem ps_mono {X : Cx} {e : Stmt} {t t' : TS} (h : PS X e t) (w : ∀ D σ H, t' D σ H → t D σ H) : PS X e t' := ⟨fun pins s σ H D I q => h.run pins s σ H D I (w D σ H q)⟩
theorem pss_mono {X : Cx} {e : List Stmt} {t t' : TS} (h : PSs X e t) (w : ∀ D σ H, t' D σ H → t D σ H) : PSs X e t' := ⟨fun pins s σ H D I q => h.run pins s σ H D I (w D σ H q)⟩
abbrev wd (X : Cx) : Wd := ⟨X.K, X.mg⟩
abbrev SE (X : Cx) (EX : XK) (e : Expr) (f : DE) : Prop := PE X e (rdE (wd X) EX f)
abbrev ST (X : Cx) (EX : XK) (e : Expr) (f : DT) : Prop := PT X e (rdT (wd X) EX f)
abbrev SW (X : Cx) (EX : XK) (e : Expr) (f : DT) : Prop := PW X e (rdT (wd X) EX f)
abbrev SA (X : Cx) (EX : XK) (e : List Expr) (f : DA) : Prop := PA X e (rdA (wd X) EX f)
abbrev SS (X : Cx) (EX : XK) (st : Stmt) (f : DS) : Prop := PS X st (rdS (wd X) EX f)
abbrev SSs (X : Cx) (EX : XK) (sts : List Stmt) (f : DS) : Prop := PSs X sts (rdS (wd X) EX f)

/-! ### names and constants -/
def dC (d : Dt) : DE := fun env => .ok (.imm d, env)
/-- a name that is read: what was owned is data from now on -/
def dVar (i : Nat) : DE := fun env => match env[i]? with
  | some (.imm d) => .ok (.imm d, env)
  | some (.own d) => .ok (.imm d, env.set i (.imm d))
  | _ => .bad
/-- a name that is handed on -/
def dMove (i : Nat) : DE := fun env => match env[i]? with
  | some (.imm d) => .ok (.imm d, env)
  | some (.own d) => .ok (.fresh d, env.set i .un)
  | _ => .bad
/-- a constant's data -/
def flatD : V → Option Dt
  | .non => some .non
  | .bl b => some (.bl b)
  | .int i => some (.int i)
  | .str x => some (.str x)
  | _ => none
theorem flatD_rd {W : Wd} {H : Hp} {v : V} {d : Dt} (h : flatD v = some d) : RdD W H d v := by
  cases v <;> simp only [flatD, Option.some.injEq, reduceCtorEq] at h <;> subst h <;> rfl
section
variable {X : Cx} {EX : XK} {pos : Pos} {e a b : Expr} {fa fb : DE}
theorem se_c {v : V} {d : Dt} (h : PE X e (tC v)) (hd : flatD v = some d) : SE X EX e (dC d) := pe_mono h fun σ H Q ⟨Fm, Hb, ia, env, A, p⟩ => p.imm A (flatD_rd hd)
theorem se_var {i : Nat} (h : PE X e (tVar i)) : SE X EX e (dVar i) := pe_mono h fun σ H Q ⟨Fm, Hb, ia, env, A, p⟩ => by
  unfold dVar at p
  split at p
  · rename_i d hd
    obtain ⟨v, h1, h2⟩ := A.imm i d hd
    exact ⟨v, h1, p.imm A h2⟩
  · rename_i d hd
    obtain ⟨a, Hb', h1, s, A', r⟩ := A.give hd
    exact ⟨.ref a, h1, p H Hb' s A' _ r⟩
  · exact p.elim
theorem se_move {i : Nat} (h : PE X e (tVar i)) : SE X EX e (dMove i) := pe_mono h fun σ H Q ⟨Fm, Hb, ia, env, A, p⟩ => by
  unfold dMove at p
  split at p
  · rename_i d hd
    obtain ⟨v, h1, h2⟩ := A.imm i d hd
    exact ⟨v, h1, p.imm A h2⟩
  · rename_i d hd
    obtain ⟨a, h1, h2, h3, h4, A', h5⟩ := A.hand hd
    exact ⟨.ref a, h1, p H Hb (Same.refl _) A' _ ⟨a, rfl, h2, h3, h4, h5⟩⟩
  · exact p.elim

/-! ### operators -/
def dBin (g : Dt → Dt → Res Val) (fa fb : DE) : DE := fun env => (fa env).bind fun p => (fb p.2).bind fun q => (g p.1.d q.1.d).map fun v => (v, q.2)
def OpS (W : Wd) (r : R2) (g : Dt → Dt → Res Val) : Prop := ∀ EX Fm Hb ia env σ H d1 d2 x y Q, Agr W Fm Hb ia env σ H → RdD W Hb d1 x → RdD W Hb d2 y → Post W EX Fm Hb ia σ (GE W Fm σ Q) ((g d1 d2).map fun v => (v, env)) → r x y H Q
theorem rd_bin {W : Wd} {r : R2} {g : Dt → Dt → Res Val} (hs : OpS W r g) : ∀ σ H Q, rdE W EX (dBin g fa fb) σ H Q → tOp r (rdE W EX fa) (rdE W EX fb) σ H Q := fun σ H Q ⟨Fm, Hb, ia, env, A, p⟩ =>
  ⟨Fm, Hb, ia, env, A, Post.bindV p fun va e1 x H1 Hb1 s1 A1 r1 p1 => ⟨Fm, Hb1, ia, e1, A1, Post.bindV p1 fun vb e2 y H2 Hb2 s2 A2 r2 p2 => hs EX Fm Hb2 ia e2 σ H2 _ _ x y Q A2 (RdD.mono s2 _ _ r1) r2 p2⟩⟩
theorem se_bin {op : Operator} {r : R2} {g : Dt → Dt → Res Val} (ho : OpR X (binaryOp op) r) (hs : OpS (wd X) r g) (ha : SE X EX a fa) (hb : SE X EX b fb) : SE X EX (.BinOp a op b pos) (dBin g fa fb) := pe_mono (pe_op ho ha hb) (rd_bin hs)
theorem se_cmp {op : CmpOp} {r : R2} {g : Dt → Dt → Res Val} (ho : OpR X (compareOp op) r) (hs : OpS (wd X) r g) (ha : SE X EX a fa) (hb : SE X EX b fb) (hm : behindInMarks op b = false) : SE X EX (.Compare a [op] [b] pos) (dBin g fa fb) := pe_mono (pe_cmpR ho ha hb hm) (rd_bin hs)
/-- a truth, as a test -/
def asB : Val × Env' → Res (Bool × Env')
  | (.imm (.bl b), e) => .ok (b, e)
  | _ => .bad
def dTest (f : DE) : DT := fun env => (f env).bind asB
theorem rd_test {W : Wd} : ∀ σ H Q, rdT W EX (dTest fa) σ H Q → tTest (rdE W EX fa) σ H Q := fun σ H Q ⟨Fm, Hb, ia, env, A, p⟩ =>
  ⟨Fm, Hb, ia, env, A, Post.bind p fun val e H1 Hb1 s A1 p1 v hv => by
    unfold asB at p1
    split at p1
    · rename_i b e' q
      cases q
      cases (show v = V.bl b from hv)
      exact ⟨b, rfl, p1 H1 Hb1 (Same.refl _) A1⟩
    · exact p1.elim⟩
theorem st_cmp {op : CmpOp} {r : R2} {g : Dt → Dt → Res Val} (ho : OpR X (compareOp op) r) (hs : OpS (wd X) r g) (ha : SE X EX a fa) (hb : SE X EX b fb) (hm : behindInMarks op b = false) : ST X EX (.Compare a [op] [b] pos) (dTest (dBin g fa fb)) :=
  pt_mono (pt_cmpR ho ha hb hm) fun σ H Q h => by
    obtain ⟨Fm, Hb, ia, env, A, p⟩ := h
    have q := rd_test (W := wd X) σ H Q ⟨Fm, Hb, ia, env, A, p⟩
    exact rd_bin hs σ H _ q
end
end G


set_option maxRecDepth 100000
set_option maxHeartbeats 4000000
/-! Kern3: the operators' tables on data; truth; displays. -/
namespace G
open PySem PySem.Spec PyProof.Rows L2

/-! ### data as the library's data -/
mutual
def dToP : Dt → Option PyData
  | .non => some .none
  | .bl b => some (.bool b)
  | .int i => some (.int i)
  | .str x => some (.str x)
  | .lst ds => (dToPs ds).map .list
  | .tup ds => (dToPs ds).map .tuple
  | .scr _ => none
  | .dct _ _ => none
  | .obj _ _ _ => none
  | .dcf _ _ => none
def dToPs : List Dt → Option (List PyData)
  | [] => some []
  | d :: ds => match dToP d, dToPs ds with
    | some p, some ps => some (p :: ps)
    | _, _ => none
end
mutual
theorem RdD.dp {W : Wd} {H : Hp} : ∀ {d : Dt} {v : V} {p : PyData}, RdD W H d v → dToP d = some p → Dp W.K H v p
  | .non, v, p, h, e => by
    cases (show v = .non from h)
    simp only [dToP, Option.some.injEq] at e
    subst e
    exact .non
  | .bl b, v, p, h, e => by
    cases (show v = .bl b from h)
    simp only [dToP, Option.some.injEq] at e
    subst e
    exact .bl b
  | .int i, v, p, h, e => by
    cases (show v = .int i from h)
    simp only [dToP, Option.some.injEq] at e
    subst e
    exact .int i
  | .str x, v, p, h, e => by
    cases (show v = .str x from h)
    simp only [dToP, Option.some.injEq] at e
    subst e
    exact .str x
  | .lst ds, v, p, h, e => by
    obtain ⟨a, vs, rfl, h2, h3⟩ := h
    simp only [dToP, Option.map_eq_some_iff] at e
    obtain ⟨ps, e1, rfl⟩ := e
    exact .lst (.inl (.inl h2)) (RdL.dp h3 e1)
  | .tup ds, v, p, h, e => by
    obtain ⟨a, vs, rfl, h2, h3⟩ := h
    simp only [dToP, Option.map_eq_some_iff] at e
    obtain ⟨ps, e1, rfl⟩ := e
    exact .tup (sqt_of h2) (RdL.dp h3 e1)
  | .scr _, _, _, _, e => by simp [dToP] at e
  | .dct _ _, _, _, _, e => by simp [dToP] at e
  | .obj _ _ _, _, _, _, e => by simp [dToP] at e
  | .dcf _ _, _, _, _, e => by simp [dToP] at e
theorem RdL.dp {W : Wd} {H : Hp} : ∀ {ds : List Dt} {vs : List V} {ps : List PyData}, RdL W H ds vs → dToPs ds = some ps → DpAll W.K H vs ps
  | [], vs, ps, h, e => by
    cases (show vs = [] from h)
    simp only [dToPs, Option.some.injEq] at e
    subst e
    exact .nil
  | d :: ds, vs, ps, h, e => by
    obtain ⟨v, r, rfl, h2, h3⟩ := h
    simp only [dToPs] at e
    split at e
    · rename_i q qs e1 e2
      simp only [Option.some.injEq] at e
      subst e
      exact .cons (RdD.dp h2 e1) (RdL.dp h3 e2)
    · cases e
end

/-! ### operators on data -/
def vI (i : Int) : Res Val := .ok (.imm (.int i))
def vB (b : Bool) : Res Val := .ok (.imm (.bl b))
def opAdd : Dt → Dt → Res Val
  | .int i, .int j => vI (i + j)
  | .str x, .str y => if x.length + y.length ≤ sizeLine then .ok (.imm (.str (x ++ y))) else .bad
  | .lst xs, .lst ys => if xs.length + ys.length ≤ sizeLine then .ok (.fresh (.lst (xs ++ ys))) else .bad
  | .tup xs, .tup ys => if xs.length + ys.length ≤ sizeLine then .ok (.imm (.tup (xs ++ ys))) else .bad
  | _, _ => .bad
def opSub : Dt → Dt → Res Val
  | .int i, .int j => vI (i - j)
  | _, _ => .bad
def mulOk (i j : Int) : Bool := decide (i.natAbs < 2 ^ 64) || decide (j.natAbs < 2 ^ 64) || decide (Builtin.Int.intBits i + Builtin.Int.intBits j ≤ 134217728)
def opMul : Dt → Dt → Res Val
  | .int i, .int j => if mulOk i j then vI (i * j) else .bad
  | .lst xs, .int k => if k.natAbs < 2 ^ 63 ∧ xs.length * k.toNat ≤ sizeLine then .ok (.fresh (.lst (List.replicate k.toNat xs).flatten)) else .bad
  | _, _ => .bad
def opFDiv : Dt → Dt → Res Val
  | .int i, .int j => if j ≠ 0 ∧ Builtin.divisionGoesByPylong i j = false then vI (i.fdiv j) else .bad
  | _, _ => .bad
def opMod : Dt → Dt → Res Val
  | .int i, .int j => if j ≠ 0 then vI (i.fmod j) else .bad
  | _, _ => .bad
def opPow : Dt → Dt → Res Val
  | .int i, .int j => if 0 ≤ j ∧ j.natAbs ≤ 1000000 ∧ i.natAbs < 2 ^ 64 then vI (i ^ j.toNat) else .bad
  | _, _ => .bad
def opShl : Dt → Dt → Res Val
  | .int i, .int j => if 0 ≤ j ∧ Builtin.Int.intBits i + j.natAbs ≤ 134217728 then vI (i * 2 ^ j.toNat) else .bad
  | _, _ => .bad
def opShr : Dt → Dt → Res Val
  | .int i, .int j => if 0 ≤ j then vI (i / 2 ^ j.toNat) else .bad
  | _, _ => .bad
def opAnd : Dt → Dt → Res Val
  | .int i, .int j => vI (Builtin.bitAnd i j)
  | _, _ => .bad
def eqD (neg : Bool) (d e : Dt) : Res Val := match dToP d, dToP e with
  | some p, some q => if SeqAt.shaped p && SeqAt.shaped q then vB (if neg then !PyData.eqv p q else PyData.eqv p q) else .bad
  | _, _ => .bad
def opLt : Dt → Dt → Res Val
  | .int i, .int j => vB (decide (i < j))
  | _, _ => .bad
def opLe : Dt → Dt → Res Val
  | .int i, .int j => vB (decide (i ≤ j))
  | _, _ => .bad
def opGt : Dt → Dt → Res Val
  | .int i, .int j => vB (decide (j < i))
  | _, _ => .bad
def opGe : Dt → Dt → Res Val
  | .int i, .int j => vB (decide (j ≤ i))
  | _, _ => .bad
def isNon : Dt → Bool
  | .non => true
  | _ => false
def opIs : Dt → Dt → Res Val
  | d, .non => vB (isNon d)
  | _, _ => .bad
def opIsNot : Dt → Dt → Res Val
  | d, .non => vB (!isNon d)
  | _, _ => .bad

section
variable {W : Wd} {H : Hp} {X : Cx}
theorem isNon_rd {d : Dt} {v : V} (h : RdD W H d v) : isNon d = decide (v = .non) := by
  cases d with
  | non => cases (show v = .non from h); rfl
  | bl b => cases (show v = .bl b from h); rfl
  | int b => cases (show v = .int b from h); rfl
  | str b => cases (show v = .str b from h); rfl
  | lst b => obtain ⟨_, _, rfl, _⟩ := h; rfl
  | tup b => obtain ⟨_, _, rfl, _⟩ := h; rfl
  | scr b => obtain ⟨_, rfl, _⟩ := h; rfl
  | dct b c => obtain ⟨_, rfl, _⟩ := h; rfl
  | dcf b c => obtain ⟨_, rfl, _⟩ := h; rfl
  | obj b c d => obtain ⟨_, _, _, _, rfl, _⟩ := h; rfl
/-- two ints, no condition -/
theorem ops_I {g : Int → Int → V} {k : Int → Int → Dt} (hk : ∀ i j W' H', RdD W' H' (k i j) (g i j)) {op : Dt → Dt → Res Val} (h : ∀ i j, op (.int i) (.int j) = .ok (.imm (k i j))) (hb : ∀ d e r, op d e = r → r = .bad ∨ ∃ i j, d = .int i ∧ e = .int j) : OpS W (rI0 g) op := by
  intro EX Fm Hb ia env σ H d1 d2 x y Q A r1 r2 p
  rcases hb d1 d2 _ rfl with e | ⟨i, j, rfl, rfl⟩
  · rw [e] at p
    exact p.elim
  · rw [h] at p
    exact ⟨i, j, r1, r2, Post.imm p A (hk i j W Hb)⟩
theorem ops_IC {C : Int → Int → Prop} {g : Int → Int → V} {k : Int → Int → Dt} (hk : ∀ i j W' H', RdD W' H' (k i j) (g i j)) {op : Dt → Dt → Res Val} (h : ∀ i j r, op (.int i) (.int j) = r → r = .bad ∨ (C i j ∧ r = .ok (.imm (k i j))))
    (hb : ∀ d e r, op d e = r → r = .bad ∨ ∃ i j, d = .int i ∧ e = .int j) : OpS W (rI C g) op := by
  intro EX Fm Hb ia env σ H d1 d2 x y Q A r1 r2 p
  rcases hb d1 d2 _ rfl with e | ⟨i, j, rfl, rfl⟩
  · rw [e] at p
    exact p.elim
  · rcases h i j _ rfl with e | ⟨c, e⟩
    · rw [e] at p
      exact p.elim
    · rw [e] at p
      exact ⟨i, j, r1, r2, c, Post.imm p A (hk i j W Hb)⟩

theorem ints_only {op : Dt → Dt → Res Val} (h : ∀ d e, op d e = .bad ∨ ∃ i j, d = .int i ∧ e = .int j) : ∀ d e r, op d e = r → r = .bad ∨ ∃ i j, d = .int i ∧ e = .int j := fun d e r q => by
  subst q
  exact h d e
theorem onlySub : ∀ d e r, opSub d e = r → r = .bad ∨ ∃ i j, d = .int i ∧ e = .int j := ints_only fun d e => by
  cases d <;> first | (left; rfl) | (cases e <;> first | (left; rfl) | exact .inr ⟨_, _, rfl, rfl⟩)
theorem onlyFDiv : ∀ d e r, opFDiv d e = r → r = .bad ∨ ∃ i j, d = .int i ∧ e = .int j := ints_only fun d e => by
  cases d <;> first | (left; rfl) | (cases e <;> first | (left; rfl) | exact .inr ⟨_, _, rfl, rfl⟩)
theorem onlyMod : ∀ d e r, opMod d e = r → r = .bad ∨ ∃ i j, d = .int i ∧ e = .int j := ints_only fun d e => by
  cases d <;> first | (left; rfl) | (cases e <;> first | (left; rfl) | exact .inr ⟨_, _, rfl, rfl⟩)
theorem onlyPow : ∀ d e r, opPow d e = r → r = .bad ∨ ∃ i j, d = .int i ∧ e = .int j := ints_only fun d e => by
  cases d <;> first | (left; rfl) | (cases e <;> first | (left; rfl) | exact .inr ⟨_, _, rfl, rfl⟩)
theorem onlyShl : ∀ d e r, opShl d e = r → r = .bad ∨ ∃ i j, d = .int i ∧ e = .int j := ints_only fun d e => by
  cases d <;> first | (left; rfl) | (cases e <;> first | (left; rfl) | exact .inr ⟨_, _, rfl, rfl⟩)
theorem onlyShr : ∀ d e r, opShr d e = r → r = .bad ∨ ∃ i j, d = .int i ∧ e = .int j := ints_only fun d e => by
  cases d <;> first | (left; rfl) | (cases e <;> first | (left; rfl) | exact .inr ⟨_, _, rfl, rfl⟩)
theorem onlyAnd : ∀ d e r, opAnd d e = r → r = .bad ∨ ∃ i j, d = .int i ∧ e = .int j := ints_only fun d e => by
  cases d <;> first | (left; rfl) | (cases e <;> first | (left; rfl) | exact .inr ⟨_, _, rfl, rfl⟩)
theorem onlyLt : ∀ d e r, opLt d e = r → r = .bad ∨ ∃ i j, d = .int i ∧ e = .int j := ints_only fun d e => by
  cases d <;> first | (left; rfl) | (cases e <;> first | (left; rfl) | exact .inr ⟨_, _, rfl, rfl⟩)
theorem onlyLe : ∀ d e r, opLe d e = r → r = .bad ∨ ∃ i j, d = .int i ∧ e = .int j := ints_only fun d e => by
  cases d <;> first | (left; rfl) | (cases e <;> first | (left; rfl) | exact .inr ⟨_, _, rfl, rfl⟩)
theorem onlyGt : ∀ d e r, opGt d e = r → r = .bad ∨ ∃ i j, d = .int i ∧ e = .int j := ints_only fun d e => by
  cases d <;> first | (left; rfl) | (cases e <;> first | (left; rfl) | exact .inr ⟨_, _, rfl, rfl⟩)
theorem onlyGe : ∀ d e r, opGe d e = r → r = .bad ∨ ∃ i j, d = .int i ∧ e = .int j := ints_only fun d e => by
  cases d <;> first | (left; rfl) | (cases e <;> first | (left; rfl) | exact .inr ⟨_, _, rfl, rfl⟩)

theorem ops_sub : OpS W (rI0 fun i j => .int (i - j)) opSub := ops_I (k := fun i j => .int (i - j)) (fun _ _ _ _ => rfl) (fun _ _ => rfl) onlySub
theorem ops_and : OpS W (rI0 fun i j => .int (Builtin.bitAnd i j)) opAnd := ops_I (k := fun i j => .int (Builtin.bitAnd i j)) (fun _ _ _ _ => rfl) (fun _ _ => rfl) onlyAnd
theorem ops_lt : OpS W (rI0 fun i j => .bl (decide (i < j))) opLt := ops_I (k := fun i j => .bl (decide (i < j))) (fun _ _ _ _ => rfl) (fun _ _ => rfl) onlyLt
theorem ops_le : OpS W (rI0 fun i j => .bl (decide (i ≤ j))) opLe := ops_I (k := fun i j => .bl (decide (i ≤ j))) (fun _ _ _ _ => rfl) (fun _ _ => rfl) onlyLe
theorem ops_gt : OpS W (rI0 fun i j => .bl (decide (j < i))) opGt := ops_I (k := fun i j => .bl (decide (j < i))) (fun _ _ _ _ => rfl) (fun _ _ => rfl) onlyGt
theorem ops_ge : OpS W (rI0 fun i j => .bl (decide (j ≤ i))) opGe := ops_I (k := fun i j => .bl (decide (j ≤ i))) (fun _ _ _ _ => rfl) (fun _ _ => rfl) onlyGe
theorem ite_bad {c : Prop} [Decidable c] {v r : Res Val} (e : (if c then v else .bad) = r) : r = .bad ∨ (c ∧ r = v) := by
  by_cases h : c
  · rw [if_pos h] at e
    exact .inr ⟨h, e.symm⟩
  · rw [if_neg h] at e
    exact .inl e.symm
theorem ops_mod : OpS W (rI (fun _ j => j ≠ 0) fun i j => .int (i.fmod j)) opMod := ops_IC (k := fun i j => .int (i.fmod j)) (fun _ _ _ _ => rfl) (fun i j _ e => ite_bad (c := j ≠ 0) e) onlyMod
theorem ops_pow : OpS W (rI CPow fun i j => .int (i ^ j.toNat)) opPow := ops_IC (k := fun i j => .int (i ^ j.toNat)) (fun _ _ _ _ => rfl) (fun i j _ e => (ite_bad (c := 0 ≤ j ∧ j.natAbs ≤ 1000000 ∧ i.natAbs < 2 ^ 64) e).imp id fun h => ⟨⟨h.1.1, by omega, h.1.2.2⟩, h.2⟩) onlyPow
theorem ops_shl : OpS W (rI CShl fun i j => .int (i * 2 ^ j.toNat)) opShl := ops_IC (k := fun i j => .int (i * 2 ^ j.toNat)) (fun _ _ _ _ => rfl) (fun i j _ e => (ite_bad (c := 0 ≤ j ∧ Builtin.Int.intBits i + j.natAbs ≤ 134217728) e).imp id fun h => ⟨⟨h.1.1, by omega⟩, h.2⟩) onlyShl
theorem ops_shr : OpS W (rI (fun _ j => 0 ≤ j) fun i j => .int (i / 2 ^ j.toNat)) opShr := ops_IC (k := fun i j => .int (i / 2 ^ j.toNat)) (fun _ _ _ _ => rfl) (fun i j _ e => ite_bad (c := 0 ≤ j) e) onlyShr
def CDivA (i j : Int) : Prop := j ≠ 0 ∧ Builtin.divisionGoesByPylong i j = false
theorem op_fdivA : OpR X (binaryOp .FloorDiv) (rI CDivA fun i j => .int (i.fdiv j)) := opI fun _ _ _ _ _ _ _ hc q => floordiv_int hc.1 q (.inl hc.2)
theorem ops_fdiv : OpS W (rI CDivA fun i j => .int (i.fdiv j)) opFDiv := ops_IC (k := fun i j => .int (i.fdiv j)) (fun _ _ _ _ => rfl) (fun i j _ e => ite_bad (c := j ≠ 0 ∧ Builtin.divisionGoesByPylong i j = false) e) onlyFDiv

/-! several kinds -/
def rAddS : R2 := fun x y H Q => ∃ i j, x = .str i ∧ y = .str j ∧ i.length + j.length ≤ sizeLine ∧ Q (.str (i ++ j)) H
def rAddAll (K : PySem.W.Frag) : R2 := fun x y H Q => (rI0 fun i j => .int (i + j)) x y H Q ∨ (rAddS x y H Q ∨ (rCat x y H Q ∨ rCatA K x y H Q))
theorem op_addAll : OpR X (binaryOp .Add) (rAddAll X.K) := op_add.or (OpR.or (r := rAddS) op_add_str (op_cat.or op_catA))
theorem ops_add : OpS W (rAddAll W.K) opAdd := by
  intro EX Fm Hb ia env σ H d1 d2 x y Q A r1 r2 p
  cases d1 <;> cases d2 <;> first
    | exact p.elim
    | skip
  · rename_i i j
    exact .inl ⟨i, j, r1, r2, Post.imm p A rfl⟩
  · rename_i i j
    simp only [opAdd] at p
    split at p
    · rename_i hz
      exact .inr (.inl ⟨i, j, r1, r2, hz, Post.imm p A rfl⟩)
    · exact p.elim
  · rename_i xs ys
    simp only [opAdd] at p
    split at p
    · rename_i hz
      obtain ⟨a, vs, rfl, ha, la⟩ := r1
      obtain ⟨b, ws, rfl, hb, lb⟩ := r2
      refine .inr (.inr (.inl ⟨a, b, vs, ws, rfl, rfl, A.bs.hb _ _ ha, A.bs.hb _ _ hb, by rw [← la.len, ← lb.len]; exact hz, Post.newL p A (la.append lb)⟩))
    · exact p.elim
  · rename_i xs ys
    simp only [opAdd] at p
    split at p
    · rename_i hz
      obtain ⟨a, vs, rfl, ha, la⟩ := r1
      obtain ⟨b, ws, rfl, hb, lb⟩ := r2
      refine .inr (.inr (.inr ⟨a, b, vs, ws, rfl, rfl, sqt_of (A.bs.hb _ _ ha), sqt_of (A.bs.hb _ _ hb), by rw [← la.len, ← lb.len]; exact hz, fun e => ?_, fun n e => ?_, fun n n' => Post.newT p A (la.append lb)⟩))
      · have e1 : xs = [] := List.length_eq_zero_iff.mp (by rw [la.len, e]; rfl)
        subst e1
        exact Post.imm p A ⟨b, ws, rfl, hb, lb⟩
      · have e1 : ys = [] := List.length_eq_zero_iff.mp (by rw [lb.len, e]; rfl)
        subst e1
        rw [List.append_nil] at p
        exact Post.imm p A ⟨a, vs, rfl, ha, la⟩
    · exact p.elim
theorem RdL.flat_rep {H : Hp} {ds : List Dt} {vs : List V} (h : RdL W H ds vs) : ∀ n : Nat, RdL W H (List.replicate n ds).flatten (List.replicate n vs).flatten
  | 0 => rfl
  | n + 1 => by
    rw [List.replicate_succ, List.replicate_succ, List.flatten_cons, List.flatten_cons]
    exact h.append (RdL.flat_rep h n)
def rMulAll : R2 := fun x y H Q => (rI CMul fun i j => .int (i * j)) x y H Q ∨ ((rI CMulX fun i j => .int (i * j)) x y H Q ∨ rRep x y H Q)
theorem op_mulAll : OpR X (binaryOp .Mult) rMulAll := op_mul.or (op_mulX.or op_rep)
theorem ops_mul : OpS W rMulAll opMul := by
  intro EX Fm Hb ia env σ H d1 d2 x y Q A r1 r2 p
  cases d1 <;> cases d2 <;> first
    | exact p.elim
    | skip
  · rename_i i j
    simp only [opMul] at p
    split at p
    · rename_i hz
      have q := Post.imm p A (v := .int (i * j)) rfl
      unfold mulOk at hz
      simp only [Bool.or_eq_true, decide_eq_true_eq] at hz
      rcases hz with (hz | hz) | hz
      · exact .inl ⟨i, j, r1, r2, .inl (by omega), q⟩
      · exact .inl ⟨i, j, r1, r2, .inr (by omega), q⟩
      · exact .inr (.inl ⟨i, j, r1, r2, by unfold CMulX; omega, q⟩)
    · exact p.elim
  · rename_i xs k
    simp only [opMul] at p
    split at p
    · rename_i hz
      obtain ⟨a, vs, rfl, ha, la⟩ := r1
      exact .inr (.inr ⟨a, k, vs, rfl, r2, A.bs.hb _ _ ha, by omega, by omega, by rw [← la.len]; exact hz.2, Post.newL p A (la.flat_rep _)⟩)
    · exact p.elim
theorem ops_eq : OpS W (rEqD W.K) (eqD false) := by
  intro EX Fm Hb ia env σ H d1 d2 x y Q A r1 r2 p
  unfold eqD at p
  split at p
  · rename_i a b e1 e2
    by_cases c : (SeqAt.shaped a && SeqAt.shaped b) = true
    · rw [if_pos c] at p
      rw [Bool.and_eq_true] at c
      exact ⟨a, b, RdD.dp (RdD.mono A.bs.hb _ _ r1) e1, RdD.dp (RdD.mono A.bs.hb _ _ r2) e2, c.1, c.2, Post.imm p A rfl⟩
    · rw [if_neg c] at p
      exact p.elim
  · exact p.elim
theorem ops_ne : OpS W (rNeD W.K) (eqD true) := by
  intro EX Fm Hb ia env σ H d1 d2 x y Q A r1 r2 p
  unfold eqD at p
  split at p
  · rename_i a b e1 e2
    by_cases c : (SeqAt.shaped a && SeqAt.shaped b) = true
    · rw [if_pos c] at p
      rw [Bool.and_eq_true] at c
      exact ⟨a, b, RdD.dp (RdD.mono A.bs.hb _ _ r1) e1, RdD.dp (RdD.mono A.bs.hb _ _ r2) e2, c.1, c.2, Post.imm p A rfl⟩
    · rw [if_neg c] at p
      exact p.elim
  · exact p.elim
theorem ops_is : OpS W (fun x y H Q => y = .non ∧ Q (.bl (decide (x = .non))) H) opIs := by
  intro EX Fm Hb ia env σ H d1 d2 x y Q A r1 r2 p
  cases d2 <;> first
    | exact p.elim
    | skip
  refine ⟨r2, ?_⟩
  rw [← isNon_rd r1]
  exact Post.imm p A rfl
theorem ops_isNot : OpS W (fun x y H Q => y = .non ∧ Q (.bl (!decide (x = .non))) H) opIsNot := by
  intro EX Fm Hb ia env σ H d1 d2 x y Q A r1 r2 p
  cases d2 <;> first
    | exact p.elim
    | skip
  refine ⟨r2, ?_⟩
  rw [← isNon_rd r1]
  exact Post.imm p A rfl
end
end G


set_option maxRecDepth 100000
set_option maxHeartbeats 4000000
/-! Kern4: and, or, not, conditionals; tests; argument lists, displays; subscripts and slices; calls of built-ins and of defs. -/
namespace G
open PySem PySem.Spec PyProof.Rows L2

/-! ### truths -/
def dAnd (fa fb : DE) : DE := fun env => (fa env).bind fun p => match p.1 with
  | .imm (.bl true) => fb p.2
  | .imm (.bl false) => .ok (.imm (.bl false), p.2)
  | _ => .bad
def dOr (fa fb : DE) : DE := fun env => (fa env).bind fun p => match p.1 with
  | .imm (.bl true) => .ok (.imm (.bl true), p.2)
  | .imm (.bl false) => fb p.2
  | _ => .bad
def dNot (fa : DE) : DE := fun env => (fa env).bind fun p => match p.1 with
  | .imm (.bl b) => .ok (.imm (.bl (!b)), p.2)
  | _ => .bad
def tAndD (fa fb : DT) : DT := fun env => (fa env).bind fun p => if p.1 = true then fb p.2 else .ok (false, p.2)
def tOrD (fa fb : DT) : DT := fun env => (fa env).bind fun p => if p.1 = true then .ok (true, p.2) else fb p.2
def tNotD (fa : DT) : DT := fun env => (fa env).bind fun p => .ok (!p.1, p.2)
def dIf (t : DT) (fa fb : DE) : DE := fun env => (t env).bind fun p => if p.1 = true then fa p.2 else fb p.2
/-- the truth of any data -/
def truD : Dt → Option Bool
  | .non => some false
  | .bl b => some b
  | .int i => some (i != 0)
  | .str x => if x.length ≤ sizeLine then some ((x.length : Int) != 0) else none
  | .lst ds => some (!ds.isEmpty)
  | .tup ds => some (!ds.isEmpty)
  | _ => none
def asTru : Val × Env' → Res (Bool × Env')
  | (v, e) => match truD v.d with
    | some b => .ok (b, e)
    | none => .bad
def dTru (f : DE) : DT := fun env => (f env).bind asTru
section
variable {X : Cx} {EX : XK} {pos : Pos} {e a b c : Expr} {rest' : List Expr} {fa fb : DE} {ta tb : DT}
theorem se_and (ha : SE X EX a fa) (hb : SE X EX (.BoolOp .And (b :: rest') pos) fb) : SE X EX (.BoolOp .And (a :: b :: rest') pos) (dAnd fa fb) := pe_mono (pe_and ha hb) fun σ H Q ⟨Fm, Hb, ia, env, A, p⟩ =>
  ⟨Fm, Hb, ia, env, A, Post.bind p fun val e1 H1 Hb1 s1 A1 p1 v hv => by
    dsimp only at p1
    split at p1
    · cases (show v = V.bl true from hv)
      exact ⟨true, rfl, by rw [if_pos rfl]; exact ⟨Fm, Hb1, ia, e1, A1, p1⟩⟩
    · cases (show v = V.bl false from hv)
      exact ⟨false, rfl, by rw [if_neg Bool.false_ne_true]; exact Post.imm p1 A1 rfl⟩
    · exact p1.elim⟩
theorem se_or (ha : SE X EX a fa) (hb : SE X EX (.BoolOp .Or (b :: rest') pos) fb) : SE X EX (.BoolOp .Or (a :: b :: rest') pos) (dOr fa fb) := pe_mono (pe_or ha hb) fun σ H Q ⟨Fm, Hb, ia, env, A, p⟩ =>
  ⟨Fm, Hb, ia, env, A, Post.bind p fun val e1 H1 Hb1 s1 A1 p1 v hv => by
    dsimp only at p1
    split at p1
    · cases (show v = V.bl true from hv)
      exact ⟨true, rfl, by rw [if_pos rfl]; exact Post.imm p1 A1 rfl⟩
    · cases (show v = V.bl false from hv)
      exact ⟨false, rfl, by rw [if_neg Bool.false_ne_true]; exact ⟨Fm, Hb1, ia, e1, A1, p1⟩⟩
    · exact p1.elim⟩
theorem se_one {op : BoolOp} (ha : SE X EX a fa) : SE X EX (.BoolOp op [a] pos) fa := pe_one ha
theorem se_not (ha : SE X EX a fa) : SE X EX (.UnaryOp .Not a pos) (dNot fa) := pe_mono (pe_not ha) fun σ H Q ⟨Fm, Hb, ia, env, A, p⟩ =>
  ⟨Fm, Hb, ia, env, A, Post.bind p fun val e1 H1 Hb1 s1 A1 p1 v hv => by
    dsimp only at p1
    split at p1
    · rename_i x b
      cases (show v = V.bl b from hv)
      exact ⟨b, rfl, Post.imm p1 A1 rfl⟩
    · exact p1.elim⟩
theorem sw_and1 (ha : ST X EX a ta) : SW X EX (.BoolOp .And [a] pos) ta := pw_and1 ha
theorem sw_or1 (ha : ST X EX a ta) : SW X EX (.BoolOp .Or [a] pos) ta := pw_or1 ha
theorem sw_and (ha : ST X EX a ta) (hb : SW X EX (.BoolOp .And (b :: rest') pos) tb) : SW X EX (.BoolOp .And (a :: b :: rest') pos) (tAndD ta tb) := pw_mono (pw_and ha hb) fun σ H Q ⟨Fm, Hb, ia, env, A, p⟩ =>
  ⟨Fm, Hb, ia, env, A, Post.bind p fun k e1 H1 Hb1 s1 A1 p1 => by
    cases k with
    | true => exact iteT (⟨Fm, Hb1, ia, e1, A1, p1⟩)
    | false => exact iteF (p1 H1 Hb1 (Same.refl _) A1)⟩
theorem sw_or (ha : ST X EX a ta) (hb : SW X EX (.BoolOp .Or (b :: rest') pos) tb) : SW X EX (.BoolOp .Or (a :: b :: rest') pos) (tOrD ta tb) := pw_mono (pw_or ha hb) fun σ H Q ⟨Fm, Hb, ia, env, A, p⟩ =>
  ⟨Fm, Hb, ia, env, A, Post.bind p fun k e1 H1 Hb1 s1 A1 p1 => by
    cases k with
    | true => exact iteT (p1 H1 Hb1 (Same.refl _) A1)
    | false => exact iteF (⟨Fm, Hb1, ia, e1, A1, p1⟩)⟩
theorem st_not (ha : ST X EX a ta) : ST X EX (.UnaryOp .Not a pos) (tNotD ta) := pt_mono (pt_not ha) fun σ H Q ⟨Fm, Hb, ia, env, A, p⟩ =>
  ⟨Fm, Hb, ia, env, A, Post.bind p fun k e1 H1 Hb1 s1 A1 p1 => p1 H1 Hb1 (Same.refl _) A1⟩
theorem se_if (hc : ST X EX c ta) (ha : SE X EX a fa) (hb : SE X EX b fb) : SE X EX (.IfExp c a b pos) (dIf ta fa fb) := pe_mono (pe_ifExp hc ha hb) fun σ H Q ⟨Fm, Hb, ia, env, A, p⟩ =>
  ⟨Fm, Hb, ia, env, A, Post.bind p fun k e1 H1 Hb1 s1 A1 p1 => by
    cases k with
    | true => exact iteT (⟨Fm, Hb1, ia, e1, A1, p1⟩)
    | false => exact iteF (⟨Fm, Hb1, ia, e1, A1, p1⟩)⟩
theorem truV {W : Wd} {H : Hp} {d : Dt} {v : V} {k : Bool} (r : RdD W H d v) (h : truD d = some k) : TruV W.K v H k := by
  cases d with
  | non => cases (show v = .non from r); cases h; rfl
  | bl b => cases (show v = .bl b from r); cases h; rfl
  | int i => cases (show v = .int i from r); cases h; rfl
  | str x =>
    cases (show v = .str x from r)
    simp only [truD] at h
    split at h
    · rename_i hz
      cases h
      exact ⟨hz, rfl⟩
    · cases h
  | lst ds =>
    obtain ⟨a, vs, rfl, h1, h2⟩ := r
    cases h
    refine .inl ⟨vs, .inl (.inl h1), ?_⟩
    cases ds with
    | nil => cases (show vs = [] from h2); rfl
    | cons x y => obtain ⟨_, _, rfl, _⟩ := h2; rfl
  | tup ds =>
    obtain ⟨a, vs, rfl, h1, h2⟩ := r
    cases h
    refine .inr (.inl ⟨vs, sqt_of h1, ?_⟩)
    cases ds with
    | nil => cases (show vs = [] from h2); rfl
    | cons x y => obtain ⟨_, _, rfl, _⟩ := h2; rfl
  | scr _ => cases h
  | dct _ _ => cases h
  | dcf _ _ => cases h
  | obj _ _ _ => cases h
theorem st_tru (ha : SE X EX a fa) (he : ∀ whole, isTrue a X.env whole = (do let v ← whole; standAt a.pos; holding [v] (truthy v))) : ST X EX a (dTru fa) := pt_mono (pt_truth ha he) fun σ H Q ⟨Fm, Hb, ia, env, A, p⟩ =>
  ⟨Fm, Hb, ia, env, A, Post.bindV p fun val e1 v H1 Hb1 s1 A1 r1 p1 => by
    simp only [asTru] at p1
    split at p1
    · rename_i k hk
      have t := truV (H := H1) (RdD.mono A1.bs.hb _ _ r1) hk
      exact ⟨k, t, p1 H1 Hb1 (Same.refl _) A1⟩
    · exact p1.elim⟩
/-- a op1 b op2 c -/
def dChain (g g' : Dt → Dt → Res Val) (fa fb fc : DE) : DE := fun env => (fa env).bind fun p => (fb p.2).bind fun q => match g p.1.d q.1.d with
  | .ok (.imm (.bl true)) => (fc q.2).bind fun r => (g' q.1.d r.1.d).map fun v => (v, r.2)
  | .ok (.imm (.bl false)) => .ok (.imm (.bl false), q.2)
  | _ => .bad
theorem rd_chain {W : Wd} {r r' : R2} {g g' : Dt → Dt → Res Val} {fc : DE} (hs : OpS W r g) (hs' : OpS W r' g') : ∀ σ H Q, rdE W EX (dChain g g' fa fb fc) σ H Q → tChain r r' (rdE W EX fa) (rdE W EX fb) (rdE W EX fc) σ H Q := fun σ H Q ⟨Fm, Hb, ia, env, A, p⟩ =>
  ⟨Fm, Hb, ia, env, A, Post.bindV p fun va e1 x H1 Hb1 s1 A1 r1 p1 => ⟨Fm, Hb1, ia, e1, A1, Post.bindV p1 fun vb e2 y H2 Hb2 s2 A2 r2 p2 => by
    dsimp only at p2
    refine hs EX Fm Hb2 ia e2 σ H2 _ _ x y _ A2 (RdD.mono s2 _ _ r1) r2 ?_
    split at p2
    · rename_i eg
      rw [eg]
      intro H3 Hb3 s3 A3 v hv
      cases (show v = V.bl true from hv)
      exact ⟨true, rfl, iteT ⟨Fm, Hb3, ia, e2, A3, Post.bindV (Post.mono s3 p2) fun vc e4 z H4 Hb4 s4 A4 r4 p4 => hs' EX Fm Hb4 ia e4 σ H4 _ _ y z Q A4 (RdD.mono (s3.trans s4) _ _ r2) r4 p4⟩⟩
    · rename_i eg
      rw [eg]
      intro H3 Hb3 s3 A3 v hv
      cases (show v = V.bl false from hv)
      exact ⟨false, rfl, iteF (p2 H3 Hb3 s3 A3 _ rfl)⟩
    · exact p2.elim⟩⟩
end
end G


set_option maxRecDepth 100000
set_option maxHeartbeats 4000000
/-! Kern5: argument lists, displays, subscripts, slices, built-ins on data. -/
namespace G
open PySem PySem.Spec PyProof.Rows L2

/-! ### arguments and displays -/
def aNil : DA := fun env => .ok ([], env)
def aCons (f : DE) (g : DA) : DA := fun env => (f env).bind fun p => (g p.2).bind fun q => .ok (p.1.d :: q.1, q.2)
def seqD : Dt → Option (List Dt)
  | .lst ds => some ds
  | .tup ds => some ds
  | .scr ns => some (ns.map .int)
  | _ => none
def aStar (f : DE) (g : DA) : DA := fun env => (f env).bind fun p => match seqD p.1.d with
  | some ds => (g p.2).bind fun q => .ok (ds ++ q.1, q.2)
  | none => .bad
def dTup (g : DA) : DE := fun env => (g env).bind fun p => if p.1.length ≤ sizeLine then .ok (.imm (.tup p.1), p.2) else .bad
def dLst (g : DA) : DE := fun env => (g env).bind fun p => if p.1.length ≤ sizeLine then .ok (.fresh (.lst p.1), p.2) else .bad
theorem seqD_rd {W : Wd} {H : Hp} {d : Dt} {v : V} {ds : List Dt} (r : RdD W H d v) (h : seqD d = some ds) : ∃ a vs, v = .ref a ∧ (SqL W.K H a vs ∨ SqT W.K H a vs) ∧ RdL W H ds vs := by
  cases d with
  | lst es =>
    cases h
    obtain ⟨a, vs, rfl, h1, h2⟩ := r
    exact ⟨a, vs, rfl, .inl (.inl (.inl h1)), h2⟩
  | tup es =>
    cases h
    obtain ⟨a, vs, rfl, h1, h2⟩ := r
    exact ⟨a, vs, rfl, .inr (sqt_of h1), h2⟩
  | scr ns =>
    cases h
    obtain ⟨a, rfl, h1⟩ := r
    exact ⟨a, _, rfl, .inl h1, RdL.ofInts ns⟩
  | _ => cases h
section
variable {X : Cx} {EX : XK} {pos p1 : Pos} {e a b c : Expr} {es : List Expr} {f fa fb : DE} {g : DA}
theorem sa_nil : SA X EX [] aNil := pa_mono pa_nil fun σ H Q ⟨Fm, Hb, ia, env, A, p⟩ => p H Hb (Same.refl _) A [] rfl
theorem sa_cons (ha : SE X EX e f) (hr : SA X EX es g) (hs : starEach (e :: es) X.env = (false, eval e X.env) :: starEach es X.env) : SA X EX (e :: es) (aCons f g) := pa_mono (pa_cons ha hr hs) fun σ H Q ⟨Fm, Hb, ia, env, A, p⟩ =>
  ⟨Fm, Hb, ia, env, A, Post.bindV p fun va e1 x H1 Hb1 s1 A1 r1 q1 => ⟨Fm, Hb1, ia, e1, A1, Post.bind q1 fun ds e2 H2 Hb2 s2 A2 q2 vs hv => q2 H2 Hb2 (Same.refl _) A2 (x :: vs) ⟨x, vs, rfl, RdD.mono s2 _ _ r1, hv⟩⟩⟩
theorem sa_star (ha : SE X EX e f) (hr : SA X EX es g) : SA X EX (.Starred e p1 :: es) (aStar f g) := pa_mono (StX.pa_star ha hr) fun σ H Q ⟨Fm, Hb, ia, env, A, p⟩ =>
  ⟨Fm, Hb, ia, env, A, Post.bindV p fun va e1 x H1 Hb1 s1 A1 r1 q1 => by
    dsimp only at q1
    split at q1
    · rename_i ds hd
      obtain ⟨a, vs, rfl, h1, h2⟩ := seqD_rd (RdD.mono A1.bs.hb _ _ r1) hd
      obtain ⟨a', vs', e', h1', h2'⟩ := seqD_rd r1 hd
      cases e'
      refine ⟨a, vs', rfl, ?_, Fm, Hb1, ia, e1, A1, Post.bind q1 fun es e2 H2 Hb2 s2 A2 q2 ws hw => q2 H2 Hb2 (Same.refl _) A2 (vs' ++ ws) ((RdL.mono s2 _ _ h2').append hw)⟩
      rcases h1' with h | h
      · exact .inr (same_l A1.bs.hb h)
      · exact .inl (same_t A1.bs.hb h)
    · exact q1.elim⟩
theorem se_tup {k : Nat} (ha : SA X EX es g) : SE X EX (.Tuple es k pos) (dTup g) := pe_mono (pe_tup ha) fun σ H Q ⟨Fm, Hb, ia, env, A, p⟩ =>
  ⟨Fm, Hb, ia, env, A, Post.bind p fun ds e1 H1 Hb1 s1 A1 q1 vs hv => by
    dsimp only at q1
    split at q1
    · rename_i hz
      exact ⟨by rw [← hv.len]; exact hz, Post.newT q1 A1 hv⟩
    · exact q1.elim⟩
theorem se_lst (ha : SA X EX es g) : SE X EX (.List es pos) (dLst g) := pe_mono (pe_lst ha) fun σ H Q ⟨Fm, Hb, ia, env, A, p⟩ =>
  ⟨Fm, Hb, ia, env, A, Post.bind p fun ds e1 H1 Hb1 s1 A1 q1 vs hv => by
    dsimp only at q1
    split at q1
    · rename_i hz
      exact ⟨by rw [← hv.len]; exact hz, Post.newL q1 A1 hv⟩
    · exact q1.elim⟩

/-! ### subscripts -/
theorem RdL.ixN {α : Type} (xs : List α) (i : Int) : atI xs i = (L2.ixN xs.length i).bind fun j => xs[j]? := rfl
theorem RdL.atI {W : Wd} {H : Hp} {ds : List Dt} {vs : List V} {k : Int} {d : Dt} (h : RdL W H ds vs) (e : L2.atI ds k = some d) : ∃ v, L2.atI vs k = some v ∧ RdD W H d v := by
  unfold L2.atI at e ⊢
  rw [← h.len]
  cases q : L2.ixN ds.length k with
  | none => rw [q] at e; cases e
  | some j =>
    rw [q] at e
    exact h.get (i := j) e
def opIx : Dt → Dt → Res Val
  | .lst ds, .int k => match L2.atI ds k with
    | some d => .ok (.imm d)
    | none => .bad
  | .tup ds, .int k => match L2.atI ds k with
    | some d => .ok (.imm d)
    | none => .bad
  | .str z, .int k => if z.length ≤ sizeLine then match L2.atI z.cps.toList k with
    | some c => .ok (.imm (.str ⟨#[c]⟩))
    | none => .bad else .bad
  | _, _ => .bad
theorem ops_ix {W : Wd} : OpS W (rIx W.K) opIx := by
  intro EX Fm Hb ia env σ H d1 d2 x y Q A r1 r2 p
  cases d1 <;> cases d2 <;> first
    | exact p.elim
    | skip
  · rename_i z k
    simp only [opIx] at p
    split at p
    · rename_i hz
      split at p
      · rename_i c hc
        exact .inr (.inr ⟨z, k, c, r1, r2, hz, hc, Post.imm p A rfl⟩)
      · exact p.elim
    · exact p.elim
  · rename_i ds k
    simp only [opIx] at p
    split at p
    · rename_i d hd
      obtain ⟨a, vs, rfl, h1, h2⟩ := r1
      obtain ⟨v, h3, h4⟩ := h2.atI hd
      exact .inl ⟨a, vs, k, v, rfl, r2, .inl (.inl (A.bs.hb _ _ h1)), h3, Post.imm p A h4⟩
    · exact p.elim
  · rename_i ds k
    simp only [opIx] at p
    split at p
    · rename_i d hd
      obtain ⟨a, vs, rfl, h1, h2⟩ := r1
      obtain ⟨v, h3, h4⟩ := h2.atI hd
      exact .inr (.inl ⟨a, vs, k, v, rfl, r2, sqt_of (A.bs.hb _ _ h1), h3, Post.imm p A h4⟩)
    · exact p.elim
theorem se_ix (ha : SE X EX a fa) (hb : SE X EX b fb) (hs : PlainIx b) : SE X EX (.Subscript a b pos) (dBin opIx fa fb) := pe_mono (pe_ix ix_seq ha hb hs) (rd_bin ops_ix)
/-- what a slot holds, owned or not -/
def slotD : Slot → Option Dt
  | .un => none
  | .imm d => some d
  | .own d => some d
  | .io d => some d
/-- an item of what a name holds, which is not given up -/
def dIxS (i : Nat) (fb : DE) : DE := fun env => if (env[i]?.bind slotD).isNone then .bad else (fb env).bind fun q => match q.2[i]?.bind slotD with
  | some d => (opIx d q.1.d).map fun v => (v, q.2)
  | none => .bad
theorem slot_val {W : Wd} {Fm Hb H : Hp} {ia : Option Addr} {env : Env'} {σ : L2.St} (A : Agr W Fm Hb ia env σ H) {i : Nat} {d : Dt} (h : env[i]?.bind slotD = some d) :
    ∃ v, σ[i]? = some (some v) ∧ (RdD W Hb d v ∨ ∃ a, v = .ref a ∧ OwnAt W Hb H a d) := by
  cases q : env[i]? with
  | none => rw [q] at h; cases h
  | some s =>
    rw [q] at h
    cases s with
    | un => cases h
    | imm d' =>
      cases h
      obtain ⟨v, h1, h2⟩ := A.imm i d q
      exact ⟨v, h1, .inl h2⟩
    | own d' =>
      cases h
      obtain ⟨a, h1, h2, h3, h4⟩ := A.own i d (.inl q)
      exact ⟨_, h1, .inr ⟨a, rfl, h4⟩⟩
    | io d' =>
      cases h
      obtain ⟨a, h1, h2, h3, h4⟩ := A.own i d (.inr q)
      exact ⟨_, h1, .inr ⟨a, rfl, h4⟩⟩
theorem se_ixS {i : Nat} (ha : PE X a (tVar i)) (hb : SE X EX b fb) (hs : PlainIx b) : SE X EX (.Subscript a b pos) (dIxS i fb) := pe_mono (pe_ix ix_seq ha hb hs) fun σ H Q ⟨Fm, Hb, ia, env, A, p⟩ => by
  unfold dIxS at p
  split at p
  · exact p.elim
  · rename_i hn
    obtain ⟨d0, hd0⟩ := Option.isSome_iff_exists.mp (by
      cases q : env[i]?.bind slotD with
      | none => rw [q] at hn; exact absurd rfl hn
      | some d => rfl : (env[i]?.bind slotD).isSome = true)
    obtain ⟨v0, hv0, _⟩ := slot_val A hd0
    refine ⟨v0, hv0, Fm, Hb, ia, env, A, Post.bindV p fun vb e2 y H2 Hb2 s2 A2 r2 p2 => ?_⟩
    dsimp only at p2
    split at p2
    · rename_i d hd
      obtain ⟨v1, hv1, hr⟩ := slot_val A2 hd
      rw [hv0] at hv1
      cases hv1
      rcases hr with hr | ⟨a, rfl, ho⟩
      · exact ops_ix (W := wd X) EX Fm Hb2 ia e2 σ H2 d _ v0 y Q A2 hr r2 p2
      · cases d with
        | lst ds =>
          obtain ⟨vs, h1, h2⟩ := ho
          cases hk : vb.d with
          | int k =>
            rw [hk] at p2 r2
            simp only [opIx] at p2
            split at p2
            · rename_i x hx
              obtain ⟨w, h3, h4⟩ := h2.atI hx
              exact .inl ⟨a, vs, k, w, rfl, r2, .inl (.inl h1), h3, Post.imm p2 A2 h4⟩
            · exact p2.elim
          | _ => rw [hk] at p2; exact p2.elim
        | dct ks ds => exact (show False from by
            unfold opIx at p2
            exact p2).elim
        | _ => exact ho.elim
    · exact p2.elim

/-! ### slices -/
abbrev DO := Env' → Res (Option Int × Env')
abbrev GO (Q : Option Int → Hp → Prop) : Option Int → Env' → Hp → Hp → Prop := fun b _ _ H => Q b H
def rdO (W : Wd) (EX : XK) (f : DO) : TO := fun σ H Q => ∃ Fm Hb ia env, Agr W Fm Hb ia env σ H ∧ Post W EX Fm Hb ia σ (GO Q) (f env)
abbrev SO (X : Cx) (EX : XK) (e : Option Expr) (f : DO) : Prop := PO X e (rdO (wd X) EX f)
theorem po_mono {X : Cx} {e : Option Expr} {t t' : TO} (h : PO X e t) (w : ∀ σ H Q, t' σ H Q → t σ H Q) : PO X e t' := ⟨fun pins s σ H Q I q => h.run pins s σ H Q I (w σ H Q q)⟩
def oNone : DO := fun env => .ok (none, env)
def asI : Val × Env' → Res (Option Int × Env')
  | (.imm (.int i), e) => .ok (some i, e)
  | _ => .bad
def oSome (f : DE) : DO := fun env => (f env).bind asI
theorem so_none : SO X EX none oNone := po_mono po_none fun σ H Q ⟨Fm, Hb, ia, env, A, p⟩ => p H Hb (Same.refl _) A
theorem so_some (ha : SE X EX a fa) : SO X EX (some a) (oSome fa) := po_mono (po_some ha) fun σ H Q ⟨Fm, Hb, ia, env, A, p⟩ =>
  ⟨Fm, Hb, ia, env, A, Post.bind p fun val e1 H1 Hb1 s1 A1 q1 v hv => by
    unfold asI at q1
    split at q1
    · rename_i i e' q
      cases q
      cases (show v = V.int i from hv)
      exact ⟨i, rfl, q1 H1 Hb1 (Same.refl _) A1⟩
    · exact q1.elim⟩
def cutG {α : Type} (xs : List α) (lo hi : Option Int) : List α := (xs.drop (HT.sIx xs.length 0 lo)).take (HT.sIx xs.length xs.length hi - HT.sIx xs.length 0 lo)
theorem RdL.cut {W : Wd} {H : Hp} {ds : List Dt} {vs : List V} (h : RdL W H ds vs) (lo hi : Option Int) : RdL W H (cutG ds lo hi) (cutV vs lo hi) := by
  unfold cutG cutV
  rw [h.len]
  exact (h.drop _).take _
def slD : Dt → Option Int → Option Int → Res Val
  | .lst ds, lo, hi => .ok (.fresh (.lst (cutG ds lo hi)))
  | .scr ns, lo, hi => .ok (.fresh (.lst (cutG (ns.map .int) lo hi)))
  | .tup ds, lo, hi => .ok (.imm (.tup (cutG ds lo hi)))
  | _, _, _ => .bad
def rSlAll (K : PySem.W.Frag) : V → Option Int → Option Int → Hp → VK → Prop := fun x lo hi H Q => rSlL K x lo hi H Q ∨ rSlA K x lo hi H Q
theorem sl_all : SlR X (rSlAll X.K) := sl_list.or sl_tupA
def dSl (fa : DE) (fl fh : DO) : DE := fun env => (fa env).bind fun p => (fl p.2).bind fun q => (fh q.2).bind fun r => (slD p.1.d q.1 r.1).map fun v => (v, r.2)
theorem cut_whole {α : Type} {xs : List α} {lo hi : Option Int} (h : HT.sIx xs.length 0 lo = 0 ∧ HT.sIx xs.length xs.length hi = xs.length) : cutG xs lo hi = xs := by
  unfold cutG
  rw [h.1, h.2, List.drop_zero, Nat.sub_zero, List.take_length]
theorem se_sl {lo hi : Option Expr} {fl fh : DO} (ha : SE X EX a fa) (hl : SO X EX lo fl) (hh : SO X EX hi fh) : SE X EX (.Subscript a (.Slice lo hi none p1) pos) (dSl fa fl fh) := pe_mono (pe_slice sl_all ha hl hh) fun σ H Q ⟨Fm, Hb, ia, env, A, p⟩ =>
  ⟨Fm, Hb, ia, env, A, Post.bindV p fun va e1 x H1 Hb1 s1 A1 r1 q1 => ⟨Fm, Hb1, ia, e1, A1, Post.bind q1 fun l e2 H2 Hb2 s2 A2 q2 => ⟨Fm, Hb2, ia, e2, A2, Post.bind q2 fun u e3 H3 Hb3 s3 A3 q3 => by
    have r3 := RdD.mono (s2.trans s3) _ _ r1
    dsimp only at q3
    generalize va.d = d at q3 r3
    cases d with
    | lst ds =>
      obtain ⟨a, vs, rfl, h1, h2⟩ := r3
      exact .inl ⟨a, vs, rfl, .inl (.inl (A3.bs.hb _ _ h1)), Post.newL q3 A3 (h2.cut l u)⟩
    | scr ns =>
      obtain ⟨a, rfl, h1⟩ := r3
      exact .inl ⟨a, _, rfl, same_l A3.bs.hb h1, Post.newL q3 A3 ((RdL.ofInts ns).cut l u)⟩
    | tup ds =>
      obtain ⟨a, vs, rfl, h1, h2⟩ := r3
      refine .inr ⟨a, vs, rfl, sqt_of (A3.bs.hb _ _ h1), fun w => ?_, fun w => Post.newT q3 A3 (h2.cut l u)⟩
      have e : cutG ds l u = ds := cut_whole (by rw [h2.len]; exact w)
      rw [show slD (.tup ds) l u = .ok (.imm (.tup ds)) by show Res.ok (Val.imm (Dt.tup (cutG ds l u))) = _; rw [e]] at q3
      exact Post.imm q3 A3 ⟨a, vs, rfl, h1, h2⟩
    | _ => exact q3.elim⟩⟩⟩

/-! ### calls of built-ins -/
def CaS (W : Wd) (r : List V → Hp → VK → Prop) (g : List Dt → Res Val) : Prop := ∀ EX Fm Hb ia env σ H ds vs Q, Agr W Fm Hb ia env σ H → RdL W Hb ds vs → Post W EX Fm Hb ia σ (GE W Fm σ Q) ((g ds).map fun v => (v, env)) → r vs H Q
def dCallB (g : List Dt → Res Val) (fa : DA) : DE := fun env => (fa env).bind fun p => (g p.1).map fun v => (v, p.2)
theorem rd_cb {W : Wd} {r : List V → Hp → VK → Prop} {h : List Dt → Res Val} (hs : CaS W r h) : ∀ σ H Q, rdE W EX (dCallB h g) σ H Q → tCB r (rdA W EX g) σ H Q := fun σ H Q ⟨Fm, Hb, ia, env, A, p⟩ =>
  ⟨Fm, Hb, ia, env, A, Post.bind p fun ds e1 H1 Hb1 s1 A1 q1 vs hv => hs EX Fm Hb1 ia e1 σ H1 ds vs Q A1 hv q1⟩
end
end G


set_option maxRecDepth 100000
set_option maxHeartbeats 4000000
/-! Kern6: the built-ins' tables on data. -/
namespace G
open PySem PySem.Spec PyProof.Rows L2

/-! ### sum, max, min of a tuple of ints -/
section
variable {prog : Program} {w : World} {A : Around} {E : Value → Shared → Prop} {s : Shared} {l : Addr} {xs : Array (Int × Tok)}
theorem tup_iter {Q : Value → Shared → Prop} (ht : s.heap.IsTuple l (intItems xs))
    (h : ∀ s2 : Shared, s2 = { s with heap := s.heap.push { cls := .type "tuple_iterator", data := .fields #[.ref l, .int 0 0] } } →
      (s2.heap.IsTupleIter s.heap.objs.size l 0 ∧ s2.heap.IsTuple l (intItems xs)) → (∀ b ∈ [s.heap.objs.size, l], b < s2.heap.objs.size) → l ≠ s.heap.objs.size → Q (.ref s.heap.objs.size) s2) :
    wpAny (model prog w) A (pyIter (.ref l)) Q E s := by
  have lt : l < s.heap.objs.size := by
    obtain ⟨_, e, _⟩ := id ht
    exact Heap.lt_size e
  refine wpAny_pyIter_tuple ht (h _ rfl ⟨⟨_, Heap.get?_push_size _ rfl, rfl, rfl⟩, ht.at fun o e => Heap.get?_push_of_some _ e⟩ (fun b hb => ?_) (Nat.ne_of_lt lt))
  show b < (s.heap.push _).objs.size
  rw [Heap.size_push]
  simp only [List.mem_cons, List.not_mem_nil, or_false] at hb
  rcases hb with rfl | rfl
  · exact Nat.lt_succ_self _
  · exact Nat.lt_succ_of_lt lt
theorem tup_old {h' : Heap} (hk : ∀ b o, b ∉ [s.heap.objs.size] → (s.heap.push { cls := .type "tuple_iterator", data := .fields #[.ref l, .int 0 0] }).get? b = some o → h'.get? b = some o) :
    ∀ b o, s.heap.get? b = some o → h'.get? b = some o := fun b o e =>
  hk b o (fun hm => absurd (List.mem_singleton.mp hm ▸ Heap.lt_size e) (Nat.lt_irrefl _)) (Heap.get?_push_of_some _ e)
theorem tup_sum {Q : Value → Shared → Prop} (hh : A.handled = none) (ht : s.heap.IsTuple l (intItems xs))
    (h : ∀ h' tk t', (∀ b o, s.heap.get? b = some o → h'.get? b = some o) → Q (.int (preSum (numAt xs) xs.size) t') { s with heap := h', toks := tk }) : wpAny (model prog w) A (call (.builtin "sum") [.ref l]) Q E s := by
  refine call_sum_walkG (tup_iter ht fun s2 e st hfp hne => ?_)
  subst e
  refine ⟨_, _, _, _, _, _, numAt xs, rfl, Walks.tuple (A := A.in1) hh _ l hne (intItems xs), st, hfp, (fun _ _ hv => intItems_at hv), fun h' tk t' hk => ?_⟩
  have := h h' tk t' (tup_old hk)
  simpa [intItems] using this
theorem tup_max {Q : Value → Shared → Prop} (hh : A.handled = none) (ht : s.heap.IsTuple l (intItems xs)) (hne : 0 < xs.size)
    (h : ∀ v h' tk, (intItems xs)[argBest (fun i j => decide (numAt xs i > numAt xs j)) (xs.size - 1)]? = some v → (∀ b o, s.heap.get? b = some o → h'.get? b = some o) → Q v { s with heap := h', toks := tk }) :
    wpAny (model prog w) A (call (.builtin "max") [.ref l]) Q E s := by
  refine call_max_walk (tup_iter ht fun s2 e st hfp hn => ?_)
  subst e
  refine ⟨_, _, _, _, _, _, _, rfl, Walks.tuple (A := A.in1) hh _ l hn (intItems xs), st, hfp, by simpa [intItems] using hne, CmpOf.ints_gt (numAt xs) (fun _ _ hv => intItems_at hv), fun v h' tk hP hk => ?_⟩
  exact h v h' tk (by simpa [intItems] using hP) (tup_old hk)
theorem tup_min {Q : Value → Shared → Prop} (hh : A.handled = none) (ht : s.heap.IsTuple l (intItems xs)) (hne : 0 < xs.size)
    (h : ∀ v h' tk, (intItems xs)[argBest (fun i j => decide (numAt xs i < numAt xs j)) (xs.size - 1)]? = some v → (∀ b o, s.heap.get? b = some o → h'.get? b = some o) → Q v { s with heap := h', toks := tk }) :
    wpAny (model prog w) A (call (.builtin "min") [.ref l]) Q E s := by
  refine call_min_walk (tup_iter ht fun s2 e st hfp hn => ?_)
  subst e
  refine ⟨_, _, _, _, _, _, _, rfl, Walks.tuple (A := A.in1) hh _ l hn (intItems xs), st, hfp, by simpa [intItems] using hne, CmpOf.ints_lt (numAt xs) (fun _ _ hv => intItems_at hv), fun v h' tk hP hk => ?_⟩
  exact h v h' tk (by simpa [intItems] using hP) (tup_old hk)
end
section
variable {X : Cx}
def rSumT (K : PySem.W.Frag) : List V → Hp → VK → Prop := fun vs H Q => ∃ (a : Addr) (ns : List Int), vs = [V.ref a] ∧ SqT K H a (ns.map V.int) ∧ Q (.int ns.sum) H
def rBestT (K : PySem.W.Frag) (le : Int → Int → Prop) : List V → Hp → VK → Prop := fun vs H Q => ∃ (a : Addr) (ns : List Int), vs = [V.ref a] ∧ SqT K H a (ns.map V.int) ∧ 0 < ns.length ∧ ∀ m, m ∈ ns → (∀ y, y ∈ ns → le y m) → Q (.int m) H
theorem sumT_ok (hc : X.calm = true) : CallR X (.builtin "sum") (rSumT X.K) := by
  intro pins s σ H xs us Q I r h
  obtain ⟨a, ns, rfl, hS, q⟩ := h
  obtain ⟨u, rfl, rx⟩ := vals1 r
  cases rx
  obtain ⟨its, rv, ht, hz⟩ := I.tuple hS
  have hi := Vals.ints rv
  obtain ⟨zs, e⟩ := hi.allInts.items
  have hn : numsOf (intItems zs).toList = ns := by rw [← e]; exact hi.numsOf
  rw [nums_intItems] at hn
  have ht' : s.heap.IsTuple a (intItems zs) := by rw [← e]; exact ht
  refine tup_sum (I.ok.hd hc) ht' fun h' tk t' hk => ⟨.int ns.sum, H, I.kept (t' := tk) hk, ⟨t', ?_⟩, q⟩
  rw [preSum_eq, List.take_of_length_le (by simp), hn]
theorem maxT_ok (hc : X.calm = true) : CallR X (.builtin "max") (rBestT X.K fun y m => y ≤ m) := by
  intro pins s σ H xs us Q I r h
  obtain ⟨a, ns, rfl, hS, hne, q⟩ := h
  obtain ⟨u, rfl, rx⟩ := vals1 r
  cases rx
  obtain ⟨its, rv, ht, hz⟩ := I.tuple hS
  have hi := Vals.ints rv
  obtain ⟨zs, e⟩ := hi.allInts.items
  have hn : numsOf (intItems zs).toList = ns := by rw [← e]; exact hi.numsOf
  rw [nums_intItems] at hn
  subst hn
  have ht' : s.heap.IsTuple a (intItems zs) := by rw [← e]; exact ht
  have hsz : 0 < zs.size := by simpa using hne
  refine tup_max (I.ok.hd hc) ht' hsz fun v h' tk hv hk => ?_
  obtain ⟨t, rfl⟩ := intItems_at hv
  obtain ⟨b1, b2⟩ := argBest_gt (numAt zs) (zs.size - 1)
  refine ⟨.int _, H, I.kept (t' := tk) hk, ⟨t, rfl⟩, q _ ?_ fun y hy => ?_⟩
  · rw [numAt_eq]
    exact PySem.getD_mem (by rw [List.length_map, Array.length_toList]; omega)
  · obtain ⟨j, hj, rfl⟩ := mem_getD hy
    rw [List.length_map, Array.length_toList] at hj
    rw [← numAt_eq]
    exact b2 j (by omega)
theorem minT_ok (hc : X.calm = true) : CallR X (.builtin "min") (rBestT X.K fun y m => m ≤ y) := by
  intro pins s σ H xs us Q I r h
  obtain ⟨a, ns, rfl, hS, hne, q⟩ := h
  obtain ⟨u, rfl, rx⟩ := vals1 r
  cases rx
  obtain ⟨its, rv, ht, hz⟩ := I.tuple hS
  have hi := Vals.ints rv
  obtain ⟨zs, e⟩ := hi.allInts.items
  have hn : numsOf (intItems zs).toList = ns := by rw [← e]; exact hi.numsOf
  rw [nums_intItems] at hn
  subst hn
  have ht' : s.heap.IsTuple a (intItems zs) := by rw [← e]; exact ht
  have hsz : 0 < zs.size := by simpa using hne
  refine tup_min (I.ok.hd hc) ht' hsz fun v h' tk hv hk => ?_
  obtain ⟨t, rfl⟩ := intItems_at hv
  obtain ⟨b1, b2⟩ := argBest_lt (numAt zs) (zs.size - 1)
  refine ⟨.int _, H, I.kept (t' := tk) hk, ⟨t, rfl⟩, q _ ?_ fun y hy => ?_⟩
  · rw [numAt_eq]
    exact PySem.getD_mem (by rw [List.length_map, Array.length_toList]; omega)
  · obtain ⟨j, hj, rfl⟩ := mem_getD hy
    rw [List.length_map, Array.length_toList] at hj
    rw [← numAt_eq]
    exact b2 j (by omega)
end

/-! ### ints, bools of data -/
def intsD : List Dt → Option (List Int)
  | [] => some []
  | .int i :: ds => (intsD ds).map (i :: ·)
  | _ => none
theorem intsD_map : ∀ {ds : List Dt} {ns : List Int}, intsD ds = some ns → ds = ns.map .int
  | [], ns, e => by cases e; rfl
  | d :: ds, ns, e => by
    cases d <;> simp only [intsD, Option.map_eq_some_iff, reduceCtorEq] at e
    obtain ⟨ms, e1, rfl⟩ := e
    rw [intsD_map e1]
    rfl
@[simp] theorem intsD_ints : ∀ ns : List Int, intsD (ns.map .int) = some ns
  | [] => rfl
  | n :: ns => by
    show (intsD (ns.map .int)).map (n :: ·) = _
    rw [intsD_ints ns]
    rfl
def blsD : List Dt → Option (List Bool)
  | [] => some []
  | .bl i :: ds => (blsD ds).map (i :: ·)
  | _ => none
theorem blsD_map : ∀ {ds : List Dt} {ns : List Bool}, blsD ds = some ns → ds = ns.map .bl
  | [], ns, e => by cases e; rfl
  | d :: ds, ns, e => by
    cases d <;> simp only [blsD, Option.map_eq_some_iff, reduceCtorEq] at e
    obtain ⟨ms, e1, rfl⟩ := e
    rw [blsD_map e1]
    rfl
@[simp] theorem blsD_bls : ∀ ns : List Bool, blsD (ns.map .bl) = some ns
  | [] => rfl
  | n :: ns => by
    show (blsD (ns.map .bl)).map (n :: ·) = _
    rw [blsD_bls ns]
    rfl
theorem RdL.bls {W : Wd} {H : Hp} : ∀ {ns : List Bool} {vs : List V}, RdL W H (ns.map .bl) vs → vs = ns.map V.bl
  | [], _, h => h
  | n :: ns, _, h => by
    obtain ⟨v, r, rfl, h2, h3⟩ := h
    rw [show v = V.bl n from h2, RdL.bls h3]
    rfl
theorem RdL.one {W : Wd} {H : Hp} {d : Dt} {vs : List V} (h : RdL W H [d] vs) : ∃ v, vs = [v] ∧ RdD W H d v := by
  obtain ⟨v, r, rfl, h2, h3⟩ := h
  cases (show r = [] from h3)
  exact ⟨v, rfl, h2⟩
theorem RdL.two {W : Wd} {H : Hp} {d e : Dt} {vs : List V} (h : RdL W H [d, e] vs) : ∃ v w, vs = [v, w] ∧ RdD W H d v ∧ RdD W H e w := by
  obtain ⟨v, r, rfl, h2, h3⟩ := h
  obtain ⟨w, rfl, h4⟩ := RdL.one h3
  exact ⟨v, w, rfl, h2, h4⟩

def bInt : List Dt → Res Val
  | [.int i] => vI i
  | [.bl b] => vI (if b then 1 else 0)
  | _ => .bad
def bBool : List Dt → Res Val
  | [.int i] => vB (i != 0)
  | [.bl b] => vB b
  | _ => .bad
def bAbs : List Dt → Res Val
  | [.int i] => vI (if i < 0 then -i else i)
  | _ => .bad
def lenD : Dt → Option Nat
  | .lst ds => some ds.length
  | .tup ds => some ds.length
  | .scr ns => some ns.length
  | .str x => if x.length ≤ sizeLine then some x.length else none
  | _ => none
def bLen : List Dt → Res Val
  | [d] => match lenD d with
    | some n => vI n
    | none => .bad
  | _ => .bad
def bTuple : List Dt → Res Val
  | [.lst ds] => .ok (.imm (.tup ds))
  | [.tup ds] => .ok (.imm (.tup ds))
  | _ => .bad
def bList : List Dt → Res Val
  | [.lst ds] => .ok (.fresh (.lst ds))
  | [.tup ds] => .ok (.fresh (.lst ds))
  | _ => .bad
def bSum : List Dt → Res Val
  | [.lst ds] => match intsD ds with
    | some ns => vI ns.sum
    | none => .bad
  | [.tup ds] => match intsD ds with
    | some ns => vI ns.sum
    | none => .bad
  | _ => .bad
def bestOf (f : List Int → Option Int) (ns : List Int) : Res Val := match f ns with
  | some m => vI m
  | none => .bad
def bMax : List Dt → Res Val
  | [.lst ds] => match intsD ds with
    | some ns => bestOf List.max? ns
    | none => .bad
  | [.tup ds] => match intsD ds with
    | some ns => bestOf List.max? ns
    | none => .bad
  | [.int i, .int j] => vI (if j > i then j else i)
  | _ => .bad
def bMin : List Dt → Res Val
  | [.lst ds] => match intsD ds with
    | some ns => bestOf List.min? ns
    | none => .bad
  | [.tup ds] => match intsD ds with
    | some ns => bestOf List.min? ns
    | none => .bad
  | [.int i, .int j] => vI (if j < i then j else i)
  | _ => .bad
def bAll : List Dt → Res Val
  | [.lst ds] => match blsD ds with
    | some ns => vB (ns.all id)
    | none => .bad
  | _ => .bad
def bAny : List Dt → Res Val
  | [.lst ds] => match blsD ds with
    | some ns => vB (ns.any id)
    | none => .bad
  | _ => .bad

section
variable {W : Wd} {X : Cx}
theorem cas_int : CaS W (fun xs H Q => (∃ i, xs = [.int i] ∧ Q (.int i) H) ∨ ∃ k, xs = [.bl k] ∧ Q (.int (if k then 1 else 0)) H) bInt := by
  intro EX Fm Hb ia env σ H ds vs Q A r p
  unfold bInt at p
  split at p
  · obtain ⟨v, rfl, h⟩ := r.one
    cases (show v = V.int _ from h)
    exact .inl ⟨_, rfl, Post.imm p A rfl⟩
  · obtain ⟨v, rfl, h⟩ := r.one
    cases (show v = V.bl _ from h)
    exact .inr ⟨_, rfl, Post.imm p A rfl⟩
  · exact p.elim
theorem cas_bool : CaS W (fun xs H Q => (∃ i, xs = [.int i] ∧ Q (.bl (i != 0)) H) ∨ ∃ k, xs = [.bl k] ∧ Q (.bl k) H) bBool := by
  intro EX Fm Hb ia env σ H ds vs Q A r p
  unfold bBool at p
  split at p
  · obtain ⟨v, rfl, h⟩ := r.one
    cases (show v = V.int _ from h)
    exact .inl ⟨_, rfl, Post.imm p A rfl⟩
  · obtain ⟨v, rfl, h⟩ := r.one
    cases (show v = V.bl _ from h)
    exact .inr ⟨_, rfl, Post.imm p A rfl⟩
  · exact p.elim
theorem cas_abs : CaS W (fun xs H Q => ∃ i, xs = [.int i] ∧ Q (.int (if i < 0 then -i else i)) H) bAbs := by
  intro EX Fm Hb ia env σ H ds vs Q A r p
  unfold bAbs at p
  split at p
  · obtain ⟨v, rfl, h⟩ := r.one
    cases (show v = V.int _ from h)
    exact ⟨_, rfl, Post.imm p A rfl⟩
  · exact p.elim
theorem lenD_rd {H : Hp} {d : Dt} {v : V} {n : Nat} (r : RdD W H d v) (h : lenD d = some n) : LenV W.K v H n := by
  cases d with
  | lst ds =>
    cases h
    obtain ⟨a, vs, rfl, h1, h2⟩ := r
    exact .inl ⟨vs, .inl (.inl h1), h2.len⟩
  | tup ds =>
    cases h
    obtain ⟨a, vs, rfl, h1, h2⟩ := r
    exact .inr ⟨vs, sqt_of h1, h2.len⟩
  | scr ns =>
    cases h
    obtain ⟨a, rfl, h1⟩ := r
    exact .inl ⟨_, h1, by rw [List.length_map]⟩
  | str x =>
    cases (show v = V.str x from r)
    simp only [lenD] at h
    split at h
    · rename_i hz
      cases h
      exact ⟨hz, rfl⟩
    · cases h
  | _ => cases h
theorem cas_len : CaS W (fun xs H Q => ∃ x n, xs = [x] ∧ LenV W.K x H n ∧ Q (.int n) H) bLen := by
  intro EX Fm Hb ia env σ H ds vs Q A r p
  unfold bLen at p
  split at p
  · obtain ⟨v, rfl, h⟩ := r.one
    split at p
    · rename_i n hn
      exact ⟨v, n, rfl, lenD_rd (RdD.mono A.bs.hb _ _ h) hn, Post.imm p A rfl⟩
    · exact p.elim
  · exact p.elim
theorem cas_tuple : CaS W (fun xs H Q => ∃ p ys, xs = [.ref p] ∧ ((SqL W.K H p ys ∧ ∀ l, H l = none → Q (.ref l) (upd H l (.tup ys))) ∨ (SqT W.K H p ys ∧ Q (.ref p) H))) bTuple := by
  intro EX Fm Hb ia env σ H ds vs Q A r p
  unfold bTuple at p
  split at p
  · obtain ⟨v, rfl, h⟩ := r.one
    obtain ⟨a, vs, rfl, h1, h2⟩ := h
    exact ⟨a, vs, rfl, .inl ⟨.inl (.inl (A.bs.hb _ _ h1)), Post.newT p A h2⟩⟩
  · obtain ⟨v, rfl, h⟩ := r.one
    obtain ⟨a, vs, rfl, h1, h2⟩ := h
    exact ⟨a, vs, rfl, .inr ⟨sqt_of (A.bs.hb _ _ h1), Post.imm p A ⟨a, vs, rfl, h1, h2⟩⟩⟩
  · exact p.elim
theorem cas_list : CaS W (fun xs H Q => ∃ p ys, xs = [.ref p] ∧ (SqL W.K H p ys ∨ SqT W.K H p ys) ∧ ∀ l, H l = none → Q (.ref l) (upd H l (.lst ys))) bList := by
  intro EX Fm Hb ia env σ H ds vs Q A r p
  unfold bList at p
  split at p
  · obtain ⟨v, rfl, h⟩ := r.one
    obtain ⟨a, vs, rfl, h1, h2⟩ := h
    exact ⟨a, vs, rfl, .inl (.inl (.inl (A.bs.hb _ _ h1))), Post.newL p A h2⟩
  · obtain ⟨v, rfl, h⟩ := r.one
    obtain ⟨a, vs, rfl, h1, h2⟩ := h
    exact ⟨a, vs, rfl, .inr (sqt_of (A.bs.hb _ _ h1)), Post.newL p A h2⟩
  · exact p.elim
def rSumAll (K : PySem.W.Frag) : List V → Hp → VK → Prop := fun vs H Q => rSum K vs H Q ∨ rSumT K vs H Q
theorem sum_all (hc : X.calm = true) : CallR X (.builtin "sum") (rSumAll X.K) := (cr_sum hc).or (sumT_ok hc)
theorem cas_sum : CaS W (rSumAll W.K) bSum := by
  intro EX Fm Hb ia env σ H ds vs Q A r p
  unfold bSum at p
  split at p
  · obtain ⟨v, rfl, h⟩ := r.one
    split at p
    · rename_i ns hn
      obtain ⟨a, vs, rfl, h1, h2⟩ := h
      rw [intsD_map hn] at h2
      obtain rfl := h2.ints
      exact .inl ⟨a, ns, rfl, .inl (.inl (A.bs.hb _ _ h1)), Post.imm p A rfl⟩
    · exact p.elim
  · obtain ⟨v, rfl, h⟩ := r.one
    split at p
    · rename_i ns hn
      obtain ⟨a, vs, rfl, h1, h2⟩ := h
      rw [intsD_map hn] at h2
      obtain rfl := h2.ints
      exact .inr ⟨a, ns, rfl, sqt_of (A.bs.hb _ _ h1), Post.imm p A rfl⟩
    · exact p.elim
  · exact p.elim
def rMaxAll (K : PySem.W.Frag) : List V → Hp → VK → Prop := fun vs H Q => rMax K vs H Q ∨ (rBestT K (fun y m => y ≤ m) vs H Q ∨ (fun xs H Q => ∃ i j, xs = [V.int i, .int j] ∧ Q (.int (if j > i then j else i)) H) vs H Q)
def rMinAll (K : PySem.W.Frag) : List V → Hp → VK → Prop := fun vs H Q => rMin K vs H Q ∨ (rBestT K (fun y m => m ≤ y) vs H Q ∨ (fun xs H Q => ∃ i j, xs = [V.int i, .int j] ∧ Q (.int (if j < i then j else i)) H) vs H Q)
theorem max_all (hc : X.calm = true) : CallR X (.builtin "max") (rMaxAll X.K) := (cr_max hc).or ((maxT_ok hc).or (call_max2 hc))
theorem min_all (hc : X.calm = true) : CallR X (.builtin "min") (rMinAll X.K) := (cr_min hc).or ((minT_ok hc).or (call_min2 hc))
theorem max_pos {ns : List Int} {m : Int} (h : ns.max? = some m) : 0 < ns.length := by
  cases ns with
  | nil => cases h
  | cons a b => exact Nat.succ_pos _
theorem min_pos {ns : List Int} {m : Int} (h : ns.min? = some m) : 0 < ns.length := by
  cases ns with
  | nil => cases h
  | cons a b => exact Nat.succ_pos _
theorem max_is {ns : List Int} {m k : Int} (h : ns.max? = some m) (h1 : k ∈ ns) (h2 : ∀ y ∈ ns, y ≤ k) : k = m := by
  obtain ⟨h3, h4⟩ := List.max?_eq_some_iff.mp h
  have := h4 k h1
  have := h2 m h3
  omega
theorem min_is {ns : List Int} {m k : Int} (h : ns.min? = some m) (h1 : k ∈ ns) (h2 : ∀ y ∈ ns, k ≤ y) : k = m := by
  obtain ⟨h3, h4⟩ := List.min?_eq_some_iff.mp h
  have := h4 k h1
  have := h2 m h3
  omega
theorem cas_max : CaS W (rMaxAll W.K) bMax := by
  intro EX Fm Hb ia env σ H ds vs Q A r p
  unfold bMax at p
  split at p
  · obtain ⟨v, rfl, h⟩ := r.one
    split at p
    · rename_i ns hn
      unfold bestOf at p
      split at p
      · rename_i m hm
        obtain ⟨a, vs, rfl, h1, h2⟩ := h
        rw [intsD_map hn] at h2
        obtain rfl := h2.ints
        exact .inl ⟨a, ns, rfl, .inl (.inl (A.bs.hb _ _ h1)), max_pos hm, fun k k1 k2 => by rw [max_is hm k1 k2]; exact Post.imm p A rfl⟩
      · exact p.elim
    · exact p.elim
  · obtain ⟨v, rfl, h⟩ := r.one
    split at p
    · rename_i ns hn
      unfold bestOf at p
      split at p
      · rename_i m hm
        obtain ⟨a, vs, rfl, h1, h2⟩ := h
        rw [intsD_map hn] at h2
        obtain rfl := h2.ints
        exact .inr (.inl ⟨a, ns, rfl, sqt_of (A.bs.hb _ _ h1), max_pos hm, fun k k1 k2 => by rw [max_is hm k1 k2]; exact Post.imm p A rfl⟩)
      · exact p.elim
    · exact p.elim
  · obtain ⟨v, w, rfl, h1, h2⟩ := r.two
    cases (show v = V.int _ from h1)
    cases (show w = V.int _ from h2)
    exact .inr (.inr ⟨_, _, rfl, Post.imm p A rfl⟩)
  · exact p.elim
theorem cas_min : CaS W (rMinAll W.K) bMin := by
  intro EX Fm Hb ia env σ H ds vs Q A r p
  unfold bMin at p
  split at p
  · obtain ⟨v, rfl, h⟩ := r.one
    split at p
    · rename_i ns hn
      unfold bestOf at p
      split at p
      · rename_i m hm
        obtain ⟨a, vs, rfl, h1, h2⟩ := h
        rw [intsD_map hn] at h2
        obtain rfl := h2.ints
        exact .inl ⟨a, ns, rfl, .inl (.inl (A.bs.hb _ _ h1)), min_pos hm, fun k k1 k2 => by rw [min_is hm k1 k2]; exact Post.imm p A rfl⟩
      · exact p.elim
    · exact p.elim
  · obtain ⟨v, rfl, h⟩ := r.one
    split at p
    · rename_i ns hn
      unfold bestOf at p
      split at p
      · rename_i m hm
        obtain ⟨a, vs, rfl, h1, h2⟩ := h
        rw [intsD_map hn] at h2
        obtain rfl := h2.ints
        exact .inr (.inl ⟨a, ns, rfl, sqt_of (A.bs.hb _ _ h1), min_pos hm, fun k k1 k2 => by rw [min_is hm k1 k2]; exact Post.imm p A rfl⟩)
      · exact p.elim
    · exact p.elim
  · obtain ⟨v, w, rfl, h1, h2⟩ := r.two
    cases (show v = V.int _ from h1)
    cases (show w = V.int _ from h2)
    exact .inr (.inr ⟨_, _, rfl, Post.imm p A rfl⟩)
  · exact p.elim
theorem cas_all : CaS W (rAll W.K) bAll := by
  intro EX Fm Hb ia env σ H ds vs Q A r p
  unfold bAll at p
  split at p
  · obtain ⟨v, rfl, h⟩ := r.one
    split at p
    · rename_i ns hn
      obtain ⟨a, vs, rfl, h1, h2⟩ := h
      rw [blsD_map hn] at h2
      obtain rfl := h2.bls
      exact ⟨a, ns, rfl, .inl (.inl (A.bs.hb _ _ h1)), Post.imm p A rfl⟩
    · exact p.elim
  · exact p.elim
theorem cas_any : CaS W (rAny W.K) bAny := by
  intro EX Fm Hb ia env σ H ds vs Q A r p
  unfold bAny at p
  split at p
  · obtain ⟨v, rfl, h⟩ := r.one
    split at p
    · rename_i ns hn
      obtain ⟨a, vs, rfl, h1, h2⟩ := h
      rw [blsD_map hn] at h2
      obtain rfl := h2.bls
      exact ⟨a, ns, rfl, .inl (.inl (A.bs.hb _ _ h1)), Post.imm p A rfl⟩
    · exact p.elim
  · exact p.elim
end
end G


set_option maxRecDepth 100000
set_option maxHeartbeats 4000000
/-! Kern7: what a def promises on data; how it is called; how its body keeps the promise. -/
namespace G
open PySem PySem.Spec PyProof.Rows L2

abbrev FR := Res (Val × Option Dt)
def ValF (W : Wd) (Fm Hb H : Hp) (io : Option Addr) : Val → V → Prop
  | .imm d, v => RdD W Hb d v
  | .fresh d, v => ∃ p, v = .ref p ∧ Hb p = none ∧ Fm p = none ∧ OwnAt W Hb H p d ∧ io ≠ some p
def OutF (W : Wd) (Hb H : Hp) : Option Addr → Option Dt → Prop
  | none, none => True
  | some a, some d => Hb a = none ∧ OwnAt W Hb H a d
  | _, _ => False
def PostF (W : Wd) (E : XK) (Fm Hb : Hp) (io : Option Addr) (Q : VK) : FR → Prop
  | .ok (val, out) => ∀ v H' Hb', Same Hb Hb' → Bse Fm Hb' H' → ValF W Fm Hb' H' io val v → OutF W Hb' H' io out → Q v H'
  | .err x => ∀ c dx H' Hb', Same Hb Hb' → Bse Fm Hb' H' → ErrAt W Hb' H' x c dx → E c dx H'
  | .bad => False
def ArgF (W : Wd) (Fm Hb H : Hp) (io : Bool) (ds : List Dt) (vs : List V) (ia : Option Addr) : Prop :=
  match io with
  | false => ia = none ∧ RdL W Hb ds vs
  | true => ∃ a d dr vr, ds = d :: dr ∧ vs = .ref a :: vr ∧ ia = some a ∧ Hb a = none ∧ Fm a = none ∧ OwnAt W Hb H a d ∧ RdL W Hb dr vr
def spF (W : Wd) (n : Nat) (io : Bool) (F : List Dt → FR) : Sp := fun vs H Q E => ∃ Fm Hb ds ia, Bse Fm Hb H ∧ vs.length = n ∧ ArgF W Fm Hb H io ds vs ia ∧ PostF W E Fm Hb ia Q (F ds)

/-- as FnOk, where nothing is being shown (repr) around the call; a def may let errors out -/
structure FnG (P : Program) (w : World) (K : PySem.W.Frag) (mg : Str → Option Value) (base : Heap) (k : Nat) (f : Addr) (fd : FuncData) (ps : List Str) (sp : Sp) : Prop where
  len : ∀ vs H Q E, sp vs H Q E → vs.length = ps.length
  run : ∀ (A : Around) (outer : List Env) (s : Shared) (H : Hp) (args : Args) (us : List Value) (vs : List V) (Q : VK) (E : XK), A.guards = some [] → Room k A → Env0 P w K mg base A outer s H →
    BindsTo s fd args (ps.zip us) → Vals vs us → sp vs H Q E → codeAny (model P w) A (.call (.ref f) args) (CR (L2.CX P w) outer P w H s Q E) s
theorem FnG.mono {P : Program} {w : World} {K : PySem.W.Frag} {mg : Str → Option Value} {base : Heap} {j k : Nat} {f : Addr} {fd : FuncData} {ps : List Str} {sp : Sp} (F : FnG P w K mg base j f fd ps sp) (h : j ≤ k) : FnG P w K mg base k f fd ps sp where
  len := F.len
  run := fun A outer s H args us vs Q E hg hr => F.run A outer s H args us vs Q E hg (hr.mono h)

/-- where a parameter's value comes from: a place among the positional values, among the keywords', a default -/
inductive Src where
  | pos (i : Nat) | kw (j : Nat) | cst (j : Nat) (v : V)
def Src.v (vs zs : List V) : Src → V
  | .pos i => (vs[i]?).getD .non
  | .kw j => (zs[j]?).getD .non
  | .cst _ v => v
def Src.d (ds es : List Dt) : Src → Dt
  | .pos i => (ds[i]?).getD .non
  | .kw j => (es[j]?).getD .non
  | .cst _ v => (flatD v).getD .non
def Src.ok (n m : Nat) : Src → Bool
  | .pos i => decide (i < n)
  | .kw j => decide (j < m)
  | .cst _ v => (flatD v).isSome
structure Shape where
  np : Nat
  ks : List Str
  src : List Src
structure ShapeOk (K : PySem.W.Frag) (fd : FuncData) (ps : List Str) (sh : Shape) (g : List Value → List Value → List Value) : Prop where
  to : ∀ (s : Shared) (us ws : List Value), K.In s.heap → us.length = sh.np → ws.length = sh.ks.length → BindsTo s fd ⟨us, sh.ks.zip ws⟩ (ps.zip (g us ws))
  rel : ∀ {vs : List V} {us : List Value} {zs : List V} {ws : List Value}, Vals vs us → Vals zs ws → vs.length = sh.np → zs.length = sh.ks.length → Vals (sh.src.map (Src.v vs zs)) (g us ws)
theorem src_rd {W : Wd} {H : Hp} {ds es : List Dt} {vs zs : List V} (h1 : RdL W H ds vs) (h2 : RdL W H es zs) : ∀ {src : List Src}, (src.all (Src.ok ds.length es.length)) = true → RdL W H (src.map (Src.d ds es)) (src.map (Src.v vs zs))
  | [], _ => rfl
  | x :: src, h => by
    rw [List.all_cons, Bool.and_eq_true] at h
    refine ⟨_, _, rfl, ?_, src_rd h1 h2 h.2⟩
    cases x with
    | pos i =>
      have hi : i < ds.length := of_decide_eq_true h.1
      obtain ⟨v, e1, e2⟩ := h1.get (List.getElem?_eq_getElem hi)
      show RdD W H ((ds[i]?).getD .non) ((vs[i]?).getD .non)
      rw [e1, List.getElem?_eq_getElem hi]
      exact e2
    | kw i =>
      have hi : i < es.length := of_decide_eq_true h.1
      obtain ⟨v, e1, e2⟩ := h2.get (List.getElem?_eq_getElem hi)
      show RdD W H ((es[i]?).getD .non) ((zs[i]?).getD .non)
      rw [e1, List.getElem?_eq_getElem hi]
      exact e2
    | cst j v =>
      obtain ⟨d, e⟩ := Option.isSome_iff_exists.mp (show (flatD v).isSome = true from h.1)
      show RdD W H ((flatD v).getD .non) v
      rw [e]
      exact flatD_rd e

/-! ### calls -/
section
variable {W : Wd} {EX : XK} {Fm Hb H : Hp} {ia : Option Addr} {env : Env'} {σ : L2.St} {Q : VK} {n : Nat} {F : List Dt → FR}
open Classical in
/-- what the callee may not touch: foreign things, and what this body owns (but what slot i lends) -/
noncomputable def lend (Fm H : Hp) (env : Env') (σ : L2.St) (i : Option Nat) : Hp := fun a => if ∃ j d, some j ≠ i ∧ Owns env j d ∧ σ[j]? = some (some (.ref a)) then H a else Fm a
theorem lend_yes {i : Option Nat} {j : Nat} {d : Dt} {a : Addr} (h1 : some j ≠ i) (h2 : Owns env j d) (h3 : σ[j]? = some (some (.ref a))) : lend Fm H env σ i a = H a := if_pos ⟨j, d, h1, h2, h3⟩
theorem lend_cases (i : Option Nat) (a : Addr) : (∃ j d, some j ≠ i ∧ Owns env j d ∧ σ[j]? = some (some (.ref a)) ∧ lend Fm H env σ i a = H a) ∨ ((∀ j d, some j ≠ i → Owns env j d → σ[j]? ≠ some (some (.ref a))) ∧ lend Fm H env σ i a = Fm a) := by
  by_cases h : ∃ j d, some j ≠ i ∧ Owns env j d ∧ σ[j]? = some (some (.ref a))
  · obtain ⟨j, d, h1, h2, h3⟩ := id h
    exact .inl ⟨j, d, h1, h2, h3, if_pos h⟩
  · exact .inr ⟨fun j d h1 h2 h3 => h ⟨j, d, h1, h2, h3⟩, if_neg h⟩
theorem lend_bse (A : Agr W Fm Hb ia env σ H) (i : Option Nat) : Bse (lend Fm H env σ i) Hb H where
  hb := A.bs.hb
  fm := fun a o e => by
    rcases lend_cases (Fm := Fm) (H := H) (env := env) (σ := σ) i a with ⟨_, _, _, _, _, z⟩ | ⟨_, z⟩
    · rw [z] at e
      exact e
    · rw [z] at e
      exact A.bs.fm a o e
  dj := fun a o e => by
    rcases lend_cases (Fm := Fm) (H := H) (env := env) (σ := σ) i a with ⟨j, d, h1, h2, h3, z⟩ | ⟨_, z⟩
    · obtain ⟨b, g1, g2, _⟩ := A.own j d h2
      rw [h3] at g1
      cases g1
      exact g2
    · rw [z] at e
      exact A.bs.dj a o e
  nt := fun a vs e => by
    rcases lend_cases (Fm := Fm) (H := H) (env := env) (σ := σ) i a with ⟨j, d, h1, h2, h3, z⟩ | ⟨_, z⟩
    · obtain ⟨b, g1, _, _, g4⟩ := A.own j d h2
      rw [h3] at g1
      cases g1
      rw [z] at e
      exact g4.ntup vs e
    · rw [z] at e
      exact A.bs.nt a vs e
theorem lend_back (A : Agr W Fm Hb ia env σ H) {i : Option Nat} {Hb' H' : Hp} (b : Bse (lend Fm H env σ i) Hb' H') : Bse Fm Hb' H' where
  hb := b.hb
  fm := fun a o e => b.fm a o (by
    rcases lend_cases (Fm := Fm) (H := H) (env := env) (σ := σ) i a with ⟨j, d, h1, h2, h3, z⟩ | ⟨_, z⟩
    · obtain ⟨b', g1, _, g3, _⟩ := A.own j d h2
      rw [h3] at g1
      cases g1
      rw [g3] at e
      cases e
    · rw [z]
      exact e)
  dj := fun a o e => b.dj a o (by
    rcases lend_cases (Fm := Fm) (H := H) (env := env) (σ := σ) i a with ⟨j, d, h1, h2, h3, z⟩ | ⟨_, z⟩
    · obtain ⟨b', g1, _, g3, _⟩ := A.own j d h2
      rw [h3] at g1
      cases g1
      rw [g3] at e
      cases e
    · rw [z]
      exact e)
  nt := A.bs.nt
theorem lend_own (A : Agr W Fm Hb ia env σ H) {i : Option Nat} {Hb' H' : Hp} (s : Same Hb Hb') (b : Bse (lend Fm H env σ i) Hb' H') {j : Nat} {d : Dt} (hj : some j ≠ i) (h : Owns env j d) :
    ∃ a, σ[j]? = some (some (.ref a)) ∧ Hb' a = none ∧ Fm a = none ∧ OwnAt W Hb' H' a d := by
  obtain ⟨a, g1, g2, g3, g4⟩ := A.own j d h
  have z := lend_yes (Fm := Fm) (H := H) hj h g1
  obtain ⟨o, ho⟩ := g4.there
  exact ⟨a, g1, b.dj a o (by rw [z]; exact ho), g3, g4.move s fun o' ho' => b.fm a o' (by rw [z]; exact ho')⟩
theorem agr_after (A : Agr W Fm Hb ia env σ H) {Hb' H' : Hp} (s : Same Hb Hb') (b : Bse (lend Fm H env σ none) Hb' H') : Agr W Fm Hb' ia env σ H' where
  bs := lend_back A b
  len := A.len
  imm := fun i d e => by
    obtain ⟨v, h1, h2⟩ := A.imm i d e
    exact ⟨v, h1, RdD.mono s _ _ h2⟩
  own := fun i d e => lend_own A s b (fun z => nomatch z) e
  inj := A.inj
  io := A.io
  ioh := A.ioh
theorem lend_fresh {i : Option Nat} {p : Addr} (A : Agr W Fm Hb ia env σ H) (h : lend Fm H env σ i p = none) : Fm p = none ∧ ∀ j d, some j ≠ i → Owns env j d → σ[j]? ≠ some (some (.ref p)) := by
  refine ⟨?_, fun j d hj ho z => ?_⟩
  · rcases lend_cases (Fm := Fm) (H := H) (env := env) (σ := σ) i p with ⟨j, d, h1, h2, h3, z⟩ | ⟨_, z⟩
    · obtain ⟨b', g1, _, g3, _⟩ := A.own j d h2
      rw [h3] at g1
      cases g1
      exact g3
    · rw [z] at h
      exact h
  · obtain ⟨b', g1, _, _, g4⟩ := A.own j d ho
    rw [z] at g1
    cases g1
    obtain ⟨o, ho'⟩ := g4.there
    rw [lend_yes (Fm := Fm) (H := H) hj ho z, ho'] at h
    cases h
/-- the callee's answer, in the caller's words -/
def asRes (env : Env') : FR → Res (Val × Env')
  | .ok (v, none) => .ok (v, env)
  | .ok (_, some _) => .bad
  | .err x => .err x
  | .bad => .bad
theorem call_sp (A : Agr W Fm Hb ia env σ H) {ds : List Dt} {vs : List V} (r : RdL W Hb ds vs) (hn : vs.length = n) (p : Post W EX Fm Hb ia σ (GE W Fm σ Q) (asRes env (F ds))) : spF W n false F vs H Q EX := by
  refine ⟨lend Fm H env σ none, Hb, ds, none, lend_bse A none, hn, ⟨rfl, r⟩, ?_⟩
  cases hF : F ds with
  | ok q =>
    obtain ⟨val, out⟩ := q
    rw [hF] at p
    intro v H' Hb' s b hv ho
    cases out with
    | some d => exact p.elim
    | none =>
      have A' := agr_after A s b
      refine p H' Hb' s A' v ?_
      cases val with
      | imm d => exact hv
      | fresh d =>
        obtain ⟨q, rfl, h1, h2, h3, _⟩ := hv
        obtain ⟨h4, h5⟩ := lend_fresh A h2
        exact ⟨q, rfl, h1, h4, h3, fun i x o => h5 i x (fun z => nomatch z) o⟩
  | err x =>
    rw [hF] at p
    exact fun c dx H' Hb' s b e => p c dx H' Hb' s (lend_back A b) e
  | bad =>
    rw [hF] at p
    exact p.elim
/-- a lent slot -/
def asResIo (env : Env') (i : Nat) (mk : Dt → Slot) : FR → Res (Val × Env')
  | .ok (v, some d) => .ok (v, env.set i (mk d))
  | .ok (_, none) => .bad
  | .err x => .err x
  | .bad => .bad
theorem call_spIo (A : Agr W Fm Hb ia env σ H) {i : Nat} {d : Dt} {a : Addr} {mk : Dt → Slot} (hs : (env[i]? = some (.own d) ∧ mk = Slot.own) ∨ (env[i]? = some (.io d) ∧ mk = Slot.io)) (ha : σ[i]? = some (some (.ref a))) {ds : List Dt} {vs : List V} (r : RdL W Hb ds vs) (hn : vs.length + 1 = n)
    (p : Post W EX Fm Hb ia σ (GE W Fm σ Q) (asResIo env i mk (F (d :: ds)))) : spF W n true F (.ref a :: vs) H Q EX := by
  have hO : Owns env i d := by
    rcases hs with ⟨h, _⟩ | ⟨h, _⟩
    · exact .inl h
    · exact .inr h
  obtain ⟨a', g1, g2, g3, g4⟩ := A.own i d hO
  rw [ha] at g1
  cases g1
  have na : lend Fm H env σ (some i) a = none := by
    rcases lend_cases (Fm := Fm) (H := H) (env := env) (σ := σ) (some i) a with ⟨j, e, h1, h2, h3, z⟩ | ⟨_, z⟩
    · exact absurd (congrArg some (A.inj j i e d a h2 hO h3 ha)) h1
    · rw [z]
      exact g3
  refine ⟨lend Fm H env σ (some i), Hb, d :: ds, some a, lend_bse A (some i), hn, ⟨a, d, ds, vs, rfl, rfl, rfl, g2, na, g4, r⟩, ?_⟩
  cases hF : F (d :: ds) with
  | ok q =>
    obtain ⟨val, out⟩ := q
    rw [hF] at p
    intro v H' Hb' s b hv ho
    cases out with
    | none => exact ho.elim
    | some d' =>
      obtain ⟨o1, o2⟩ := ho
      have hl : i < env.length := by
        rcases hO with h | h <;> exact (List.getElem?_eq_some_iff.mp h).1
      have key : ∀ j e, Owns (env.set i (mk d')) j e → (i = j ∧ e = d') ∨ (i ≠ j ∧ Owns env j e) := fun j e g => by
        rcases g with g | g
        · rcases get_set g with ⟨z, q, _⟩ | ⟨ne, q⟩
          · rcases hs with ⟨_, rfl⟩ | ⟨_, rfl⟩
            · cases q; exact .inl ⟨z, rfl⟩
            · cases q
          · exact .inr ⟨ne, .inl q⟩
        · rcases get_set g with ⟨z, q, _⟩ | ⟨ne, q⟩
          · rcases hs with ⟨_, rfl⟩ | ⟨_, rfl⟩
            · cases q
            · cases q; exact .inl ⟨z, rfl⟩
          · exact .inr ⟨ne, .inr q⟩
      have A' : Agr W Fm Hb' ia (env.set i (mk d')) σ H' := {
        bs := lend_back A b
        len := by rw [List.length_set]; exact A.len
        imm := fun j e g => by
          rcases get_set g with ⟨_, q, _⟩ | ⟨ne, q⟩
          · rcases hs with ⟨_, rfl⟩ | ⟨_, rfl⟩ <;> cases q
          · obtain ⟨v, h1, h2⟩ := A.imm j e q
            exact ⟨v, h1, RdD.mono s _ _ h2⟩
        own := fun j e g => by
          rcases key j e g with ⟨rfl, rfl⟩ | ⟨ne, g⟩
          · exact ⟨a, ha, o1, g3, o2⟩
          · exact lend_own A s b (fun z => ne (Option.some.inj z).symm) g
        inj := fun j k e e' b' x1 x2 y1 y2 => by
          rcases key j e x1 with ⟨rfl, rfl⟩ | ⟨n1, k1⟩
          · rcases key k e' x2 with ⟨rfl, rfl⟩ | ⟨n2, k2⟩
            · rfl
            · exact A.inj i k d e' b' hO k2 y1 y2
          · rcases key k e' x2 with ⟨rfl, rfl⟩ | ⟨n2, k2⟩
            · exact A.inj j i e d b' k1 hO y1 y2
            · exact A.inj j k e e' b' k1 k2 y1 y2
        io := fun j e g => by
          rcases get_set g with ⟨rfl, q, _⟩ | ⟨ne, q⟩
          · rcases hs with ⟨_, rfl⟩ | ⟨hs, rfl⟩
            · cases q
            · exact A.io i d hs
          · exact A.io j e q
        ioh := fun b' e => by
          obtain ⟨d'', g⟩ := A.ioh b' e
          by_cases z : i = 0
          · subst z
            rcases hs with ⟨hs, _⟩ | ⟨hs, rfl⟩
            · rw [hs] at g; cases g
            · exact ⟨d', List.getElem?_set_self hl⟩
          · exact ⟨d'', by rw [List.getElem?_set_ne z]; exact g⟩ }
      refine p H' Hb' s A' v ?_
      cases val with
      | imm d => exact hv
      | fresh e =>
        obtain ⟨q, rfl, h1, h2, h3, h6⟩ := hv
        obtain ⟨h4, h5⟩ := lend_fresh A h2
        refine ⟨q, rfl, h1, h4, h3, fun j x o z => ?_⟩
        rcases key j x o with ⟨rfl, rfl⟩ | ⟨ne, o⟩
        · rw [ha] at z
          cases z
          exact h6 rfl
        · exact h5 j x (fun y => ne (Option.some.inj y).symm) o z
  | err x =>
    rw [hF] at p
    exact fun c dx H' Hb' s b e => p c dx H' Hb' s (lend_back A b) e
  | bad =>
    rw [hF] at p
    exact p.elim
end
end G


set_option maxRecDepth 100000
set_option maxHeartbeats 4000000
/-! Kern8: calls of defs, and what a def's body makes of its promise. -/
namespace G
open PySem PySem.Spec PyProof.Rows L2

/-! ### argument lists without stars -/
def isStar : Expr → Bool
  | .Starred _ _ => true
  | _ => false
theorem star_no {e : Expr} {es : List Expr} {env : Env} (h : isStar e = false) : starEach (e :: es) env = (false, eval e env) :: starEach es env := by
  cases e <;> first
    | rfl
    | cases h
theorem star_none {env : Env} {pos : Pos} : ∀ {es : List Expr}, es.all (fun e => !isStar e) = true → (backTo pos (starEach es env)).any (·.1) = false
  | [], _ => rfl
  | e :: es, h => by
    rw [List.all_cons, Bool.and_eq_true] at h
    rw [star_no (by simpa using h.1)]
    show (false || (backTo pos (starEach es env)).any (·.1)) = false
    rw [star_none h.2]
    rfl
def kwName (k : Keyword) : Str := k.arg.getD Str.empty
def kwsOk (kws : List Keyword) : Bool := kws.all fun k => k.arg.isSome
theorem kw_all {env : Env} {pos : Pos} : ∀ {kws : List Keyword}, kwsOk kws = true → (backToKw pos (keywordEach kws env)).all (·.1.isSome) = true ∧ (backToKw pos (keywordEach kws env)).any (·.1.isNone) = false ∧ (backToKw pos (keywordEach kws env)).filterMap (·.1) = kws.map kwName
  | [], _ => ⟨rfl, rfl, rfl⟩
  | ⟨nm, v, p⟩ :: kws, h => by
    obtain ⟨h1, h2⟩ := (Bool.and_eq_true _ _).mp (show (nm.isSome && kwsOk kws) = true from h)
    obtain ⟨x, rfl⟩ := Option.isSome_iff_exists.mp h1
    obtain ⟨i1, i2, i3⟩ := kw_all (env := env) (pos := pos) h2
    refine ⟨?_, ?_, ?_⟩
    · show (true && (backToKw pos (keywordEach kws env)).all (·.1.isSome)) = true
      rw [i1]
      rfl
    · show (false || (backToKw pos (keywordEach kws env)).any (·.1.isNone)) = false
      rw [i2]
      rfl
    · show x :: (backToKw pos (keywordEach kws env)).filterMap (·.1) = x :: kws.map kwName
      rw [i3]
abbrev SK (X : Cx) (EX : XK) (kws : List Keyword) (f : DA) : Prop := PK X kws (rdA (wd X) EX f)
theorem pk_mono {X : Cx} {e : List Keyword} {t t' : TA} (h : PK X e t) (w : ∀ σ H Q, t' σ H Q → t σ H Q) : PK X e t' := ⟨fun pos pins s σ H Q I q => h.run pos pins s σ H Q I (w σ H Q q)⟩
section
variable {X : Cx} {EX : XK} {pos p kpos : Pos} {e : Expr} {es : List Expr} {kws : List Keyword} {f : DE} {g gk : DA} {nm : Option Str}
theorem sk_nil : SK X EX [] aNil := pk_mono pk_nil fun σ H Q ⟨Fm, Hb, ia, env, A, p⟩ => p H Hb (Same.refl _) A [] rfl
theorem sk_cons (ha : SE X EX e f) (hr : SK X EX kws g) : SK X EX (⟨nm, e, kpos⟩ :: kws) (aCons f g) := pk_mono (pk_cons ha hr) fun σ H Q ⟨Fm, Hb, ia, env, A, p⟩ =>
  ⟨Fm, Hb, ia, env, A, Post.bindV p fun va e1 x H1 Hb1 s1 A1 r1 q1 => ⟨Fm, Hb1, ia, e1, A1, Post.bind q1 fun ds e2 H2 Hb2 s2 A2 q2 vs hv => q2 H2 Hb2 (Same.refl _) A2 (x :: vs) ⟨x, vs, rfl, RdD.mono s2 _ _ r1, hv⟩⟩⟩

/-! ### built-ins by name -/
theorem se_callB {x : Str} {id : String} {r : List V → Hp → VK → Prop} {h : List Dt → Res Val} (hc : CallR X (.builtin id) r) (hs : CaS (wd X) r h) (hg : Gl X x) (hm : X.mg x = none) (hv : bootBuiltins x = some (.builtin id)) (ha : SA X EX (e :: es) g)
    (hn : x ≠ "__name__") (hdb : (x == ("__debug__" : Str)) = false) (hst : (e :: es).all (fun e => !isStar e) = true) : SE X EX (.Call (.Name x p) (e :: es) [] pos) (dCallB h g) := by
  rw [List.all_cons, Bool.and_eq_true] at hst
  exact pe_mono (pe_callB hc hg hm hv ha hn hdb (star_no (by simpa using hst.1)) (star_none hst.2)) (rd_cb hs)
theorem se_callTy {x : Str} {id : String} {r : List V → Hp → VK → Prop} {h : List Dt → Res Val} (hc : CallR X (.type id) r) (hs : CaS (wd X) r h) (hg : Gl X x) (hm : X.mg x = none) (hv : bootBuiltins x = some (.type id)) (ha : SA X EX (e :: es) g)
    (hn : x ≠ "__name__") (hdb : (x == ("__debug__" : Str)) = false) (hst : (e :: es).all (fun e => !isStar e) = true) : SE X EX (.Call (.Name x p) (e :: es) [] pos) (dCallB h g) := by
  rw [List.all_cons, Bool.and_eq_true] at hst
  exact pe_mono (pe_callTy hc hg hm hv ha hn hdb (star_no (by simpa using hst.1)) (star_none hst.2)) (rd_cb hs)

/-! ### defs -/
section
variable {k n : Nat} {a : Addr} {fd : FuncData} {ps : List Str} {sp : Sp} {F : List Dt → FR} {x : Str} {sh : Shape} {gv : List Value → List Value → List Value}
theorem run_g {pins : List (Addr × Obj)} {σ : L2.St} {H : Hp} {s : Shared} {Q : VK} {us ws : List Value} {zs : List V} {kw : List (Str × Value)} (F : FnG X.prog X.w X.K X.mg X.base k a fd ps sp) (hg : X.A.guards = some []) (hr : Room k X.A) (hx : Passes (L2.CX X.prog X.w) X EX)
    (I : Inv X pins σ H s) (hb : BindsTo s fd ⟨us, kw⟩ (ps.zip ws)) (rz : Vals zs ws) (h : sp zs H Q EX) : wpAny (model X.prog X.w) X.A (call (.ref a) us kw) (EP X pins σ Q) X.xe s := by
  refine wpAny_call (codeAny_mono (F.run X.A X.stack s H ⟨us, kw⟩ ws zs Q EX hg hr I.env0 hb rz h) fun res s1 hq => ?_)
  cases res with
  | error e => exact hx pins σ H s e s1 I hq
  | ok fl =>
    cases fl with
    | ret u => exact I.after hq
    | next => exact hq.elim
    | brk => exact hq.elim
    | cont => exact hq.elim
def dCall (F : List Dt → FR) (sh : Shape) (g gk : DA) : DE := fun env => (g env).bind fun p => (gk p.2).bind fun q =>
  if p.1.length = sh.np ∧ q.1.length = sh.ks.length ∧ sh.src.all (Src.ok sh.np sh.ks.length) = true then asRes q.2 (F (sh.src.map (Src.d p.1 q.1))) else .bad
theorem rd_call {W : Wd} {V2 : List V → List V → L2.St → Hp → VK → Prop} (hV : ∀ vs zs σ H Q, vs.length = sh.np → zs.length = sh.ks.length → spF W n false F (sh.src.map (Src.v vs zs)) H Q EX → V2 vs zs σ H Q) (hl : sh.src.length = n) :
    ∀ σ H Q, rdE W EX (dCall F sh g gk) σ H Q → rdA W EX g σ H fun vs H1 => rdA W EX gk σ H1 fun zs H2 => V2 vs zs σ H2 Q := fun σ H Q ⟨Fm, Hb, ia, env, A, p⟩ =>
  ⟨Fm, Hb, ia, env, A, Post.bind p fun ds e1 H1 Hb1 s1 A1 q1 vs hv => ⟨Fm, Hb1, ia, e1, A1, Post.bind q1 fun es e2 H2 Hb2 s2 A2 q2 zs hz => by
    dsimp only at q2
    split at q2
    · rename_i hc
      have r1 := RdL.mono s2 _ _ hv
      refine hV vs zs σ H2 Q (by rw [← hv.len]; exact hc.1) (by rw [← hz.len]; exact hc.2.1) ?_
      exact call_sp A2 (src_rd r1 hz (by rw [hc.1, hc.2.1]; exact hc.2.2)) (by rw [List.length_map]; exact hl) q2
    · exact q2.elim⟩⟩
theorem se_call (Fo : FnG X.prog X.w X.K X.mg X.base k a fd ps (spF (wd X) n false F)) (so : ShapeOk X.K fd ps sh gv) (hl : sh.src.length = n) (hgd : X.A.guards = some []) (hr : Room k X.A) (hx : Passes (L2.CX X.prog X.w) X EX) (hg : Gl X x) (hm : X.mg x = some (.ref a)) (hk : PySem.W.keepIn X.K (.ref a) = true)
    (hdb : (x == ("__debug__" : Str)) = false) (ha : SA X EX es g) (hkw : SK X EX kws gk) (hst : es.all (fun e => !isStar e) = true) (hko : kwsOk kws = true) (hks : kws.map kwName = sh.ks) (hn0 : es = [] → g = aNil) (hk0 : kws = [] → gk = aNil) :
    SE X EX (.Call (.Name x p) es kws pos) (dCall F sh g gk) := by
  refine ⟨fun pins s σ H Q I h => ?_⟩
  have h' := rd_call (W := wd X) (EX := EX) (g := g) (gk := gk) (V2 := fun vs zs σ H Q => vs.length = sh.np ∧ zs.length = sh.ks.length ∧ spF (wd X) n false F (sh.src.map (Src.v vs zs)) H Q EX) (fun vs zs σ H Q a b c => ⟨a, b, c⟩) hl σ H Q h
  refine wpAny_Call_Name_kw (ld_glob I hg hm ?_ hdb)
  obtain ⟨k1, k2, k3⟩ := kw_all (env := X.env) (pos := pos) hko
  have fin : ∀ {vs zs : List V} {us ws : List Value} {H2 : Hp} {s2 : Shared}, Inv X pins σ H2 s2 → Vals vs us → Vals zs ws → (vs.length = sh.np ∧ zs.length = sh.ks.length ∧ spF (wd X) n false F (sh.src.map (Src.v vs zs)) H2 Q EX) →
      wpAny (model X.prog X.w) X.A (call (.ref a) us (sh.ks.zip ws)) (EP X pins σ Q) X.xe s2 := fun {vs zs us ws H2 s2} I2 r1 r2 hq =>
    run_g Fo hgd hr hx I2 (so.to s2 us ws I2.kIn (by rw [← r1.length]; exact hq.1) (by rw [← r2.length]; exact hq.2.1)) (so.rel r1 r2 hq.1 hq.2.1) hq.2.2
  have nil_of : ∀ {σ : L2.St} {H : Hp} {Q : List V → Hp → Prop}, rdA (wd X) EX aNil σ H Q → Q [] H := fun ⟨Fm, Hb, ia, env, A, p⟩ => p _ Hb (Same.refl _) A [] rfl
  cases es with
  | nil =>
    obtain rfl := hn0 rfl
    have h1 := nil_of h'
    cases kws with
    | nil =>
      obtain rfl := hk0 rfl
      have e0 : sh.ks = [] := by rw [← hks]; rfl
      have q := fin (us := []) (ws := []) I .nil .nil (nil_of h1)
      rw [e0] at q
      exact PySem.W.callWith_K0 I.kIn hk q
    | cons kw kws =>
      refine PySem.W.callWith_KW0 (h₀ := X.base) I.ok.mod.kin hk k1 (thn (hkw.run pos pins s σ H _ I h1) fun ws s2 ⟨zs, H2, I2, r2, hq⟩ => ⟨I2.kIn, ?_⟩) (by rw [k2]; rfl)
      rw [k3, hks]
      exact fin (us := []) I2 .nil r2 hq
  | cons e es =>
    rw [List.all_cons, Bool.and_eq_true] at hst
    have he : isStar e = false := by simpa using hst.1
    cases kws with
    | nil =>
      obtain rfl := hk0 rfl
      have e0 : sh.ks = [] := by rw [← hks]; rfl
      refine PySem.W.callWith_K (h₀ := X.base) I.ok.mod.kin hk (thn (ha.run pos pins s σ H _ I h') fun us s1 ⟨vs, H1, I1, r1, hq⟩ => ⟨I1.kIn, ?_⟩) (star_no he) (star_none hst.2)
      have q := fin (ws := []) I1 r1 .nil (nil_of hq)
      rw [e0] at q
      exact q
    | cons kw kws =>
      refine PySem.W.callWith_KW (h₀ := X.base) I.ok.mod.kin hk k1 (thn (ha.run pos pins s σ H _ I h') fun us s1 ⟨vs, H1, I1, r1, hq⟩ => ?_) ?_ (star_no he)
      · refine thn (hkw.run pos pins s1 σ H1 _ I1 hq) fun ws s2 ⟨zs, H2, I2, r2, hq⟩ => ⟨I2.kIn, ?_⟩
        rw [k3, hks]
        exact fin I2 r1 r2 hq
      · rw [k2, star_no he]
        show ((false || (backTo pos (starEach es X.env)).any (·.1)) || false) = false
        rw [star_none hst.2]
        rfl
/-- the first argument is lent -/
def asIo (i : Nat) (env : Env') (n : Nat) (F : List Dt → FR) (ds : List Dt) : Res (Val × Env') := if ds.length + 1 = n then match env[i]? with
  | some (.own d) => asResIo env i Slot.own (F (d :: ds))
  | some (.io d) => asResIo env i Slot.io (F (d :: ds))
  | _ => .bad else .bad
def isOwn : Slot → Bool
  | .own _ => true
  | .io _ => true
  | _ => false
def dCallIo (i n : Nat) (F : List Dt → FR) (g : DA) : DE := fun env => if (env[i]?.map isOwn) = some true then (g env).bind fun p => asIo i p.2 n F p.1 else .bad
theorem se_callIo {i : Nat} {ex : Expr} (Fo : FnG X.prog X.w X.K X.mg X.base k a fd ps (spF (wd X) n true F)) (hb : ∀ (s : Shared) (us : List Value), X.K.In s.heap → us.length = n → BindsTo s fd ⟨us, []⟩ (ps.zip us)) (hgd : X.A.guards = some []) (hr : Room k X.A) (hx : Passes (L2.CX X.prog X.w) X EX) (hg : Gl X x) (hm : X.mg x = some (.ref a))
    (hk : PySem.W.keepIn X.K (.ref a) = true) (hdb : (x == ("__debug__" : Str)) = false) (h0 : PE X ex (tVar i)) (ha : SA X EX es g) (hst : (ex :: es).all (fun e => !isStar e) = true) : SE X EX (.Call (.Name x p) (ex :: es) [] pos) (dCallIo i n F g) := by
  rw [List.all_cons, Bool.and_eq_true] at hst
  have he : isStar ex = false := by simpa using hst.1
  have hA : PA X (ex :: es) (tCons (tVar i) (rdA (wd X) EX g)) := pa_cons h0 ha (star_no he)
  refine ⟨fun pins s σ H Q I h => ?_⟩
  have key : tCons (tVar i) (rdA (wd X) EX g) σ H fun vs H1 => spF (wd X) n true F vs H1 Q EX := by
    obtain ⟨Fm, Hb, ia, env, A, p⟩ := h
    unfold dCallIo at p
    split at p
    · rename_i ho
      obtain ⟨sl, h1, h2⟩ := Option.map_eq_some_iff.mp ho
      obtain ⟨d, hd⟩ : ∃ d, Owns env i d := by
        cases sl with
        | own d => exact ⟨d, .inl h1⟩
        | io d => exact ⟨d, .inr h1⟩
        | un => cases h2
        | imm d => cases h2
      obtain ⟨b, g1, _⟩ := A.own i d hd
      refine ⟨.ref b, g1, Fm, Hb, ia, env, A, Post.bind p fun ds e1 H1 Hb1 s1 A1 q1 vs hv => ?_⟩
      dsimp only [asIo] at q1
      split at q1
      · rename_i hn
        have hn' : vs.length + 1 = n := by rw [← hv.len]; exact hn
        split at q1
        · rename_i d' hd'
          exact call_spIo A1 (.inl ⟨hd', rfl⟩) g1 hv hn' q1
        · rename_i d' hd'
          exact call_spIo A1 (.inr ⟨hd', rfl⟩) g1 hv hn' q1
        · exact q1.elim
      · exact q1.elim
    · exact p.elim
  refine wpAny_Call_Name_kw (ld_glob I hg hm ?_ hdb)
  refine PySem.W.callWith_K (h₀ := X.base) I.ok.mod.kin hk (thn (hA.run pos pins s σ H _ I key) fun us s1 ⟨vs, H1, I1, r1, hq⟩ => ⟨I1.kIn, ?_⟩) (star_no he) (star_none hst.2)
  obtain ⟨_, _, _, _, _, hl, _⟩ := id hq
  exact run_g Fo hgd hr hx I1 (hb s1 us I1.kIn (by rw [← r1.length]; exact hl)) r1 hq
end
end
end G


set_option maxRecDepth 100000
set_option maxHeartbeats 4000000
/-! Kern9: statements, targets, loops. -/
namespace G
open PySem PySem.Spec PyProof.Rows L2

/-! ### targets -/
abbrev DG := Dt → Env' → Res Env'
abbrev DGs := List Dt → Env' → Res Env'
/-- a slot that may be stored to -/
def canSet (env : Env') (i : Nat) : Bool := match env[i]? with
  | none => false
  | some (.io _) => false
  | some _ => true
def gSet (i : Nat) : DG := fun d env => if canSet env i then .ok (env.set i (.imm d)) else .bad
def gsNil : DGs := fun ds env => match ds with
  | [] => .ok env
  | _ :: _ => .bad
def gsCons (g : DG) (h : DGs) : DGs := fun ds env => match ds with
  | [] => .bad
  | d :: r => (g d env).bind fun e => h r e
def gTupD (n : Nat) (h : DGs) : DG := fun d env => match d with
  | .tup ds => if ds.length = n then h ds env else .bad
  | _ => .bad
/-- what is wanted behind a target's store; ts: the slots that it may store to -/
def PostG (W : Wd) (Fm Hb : Hp) (ia : Option Addr) (ts : List Nat) (σ : L2.St) (H : Hp) (Q : L2.St → Hp → Prop) : Res Env' → Prop
  | .ok e => ∀ σ', (∀ vs : List Nat, (∀ t ∈ ts, t ∈ vs) → wipe σ' vs = wipe σ vs) → Agr W Fm Hb ia e σ' H → Q σ' H
  | _ => False
def rdG (W : Wd) (ts : List Nat) (g : DG) : TG := fun x σ H Q => ∃ Fm Hb ia env d, Agr W Fm Hb ia env σ H ∧ RdD W Hb d x ∧ PostG W Fm Hb ia ts σ H Q (g d env)
def rdGs (W : Wd) (ts : List Nat) (g : DGs) : TGs := fun xs σ H Q => ∃ Fm Hb ia env ds, Agr W Fm Hb ia env σ H ∧ RdL W Hb ds xs ∧ PostG W Fm Hb ia ts σ H Q (g ds env)
theorem pg_mono {X : Cx} {e : Expr} {t t' : TG} (h : PG X e t) (w : ∀ x σ H Q, t' x σ H Q → t x σ H Q) : PG X e t' := ⟨fun pins s σ H v u Q I r q => h.run pins s σ H v u Q I r (w v σ H Q q)⟩
theorem pgs_mono {X : Cx} {e : List Expr} {t t' : TGs} (h : PGs X e t) (w : ∀ x σ H Q, t' x σ H Q → t x σ H Q) : PGs X e t' := ⟨fun pins s σ H v u Q I r q => h.run pins s σ H v u Q I r (w v σ H Q q)⟩
abbrev SG (X : Cx) (e : Expr) (ts : List Nat) (g : DG) : Prop := PG X e (rdG (wd X) ts g)
abbrev SGs (X : Cx) (e : List Expr) (ts : List Nat) (g : DGs) : Prop := PGs X e (rdGs (wd X) ts g)
theorem wipe_at {σ : L2.St} {i : Nat} : ∀ {vs : List Nat}, i ∈ vs → ∀ o, (wipe σ vs)[i]? = some o → o = none
  | [], h, _, _ => by cases h
  | v :: vs, h, o, e => by
    unfold wipe at e
    by_cases hv : v = i
    · subst hv
      by_cases hl : v < (wipe σ vs).length
      · rw [List.getElem?_set_self hl] at e
        exact (Option.some.inj e).symm
      · rw [List.getElem?_eq_none (by rw [List.length_set]; omega)] at e
        cases e
    · rw [List.getElem?_set_ne hv] at e
      rcases List.mem_cons.mp h with z | z
      · exact absurd z.symm hv
      · exact wipe_at z o e
theorem wipe_out' {σ : L2.St} {i : Nat} : ∀ {vs : List Nat}, i ∉ vs → (wipe σ vs)[i]? = σ[i]? := wipe_out
theorem wipe_ext {σ σ' : L2.St} {vs : List Nat} (hl : σ'.length = σ.length) (h : ∀ i, i ∉ vs → σ'[i]? = σ[i]?) : wipe σ' vs = wipe σ vs := by
  apply List.ext_getElem?
  intro i
  by_cases hi : i ∈ vs
  · have e1 : (wipe σ' vs).length = (wipe σ vs).length := by rw [wipe_length, wipe_length, hl]
    cases q : (wipe σ vs)[i]? with
    | none => exact List.getElem?_eq_none (by rw [e1]; exact List.getElem?_eq_none_iff.mp q)
    | some o =>
      have z := wipe_at hi o q
      subst z
      have hi' : i < (wipe σ' vs).length := by rw [e1]; exact (List.getElem?_eq_some_iff.mp q).1
      have q' := List.getElem?_eq_getElem hi'
      rw [q']
      rw [wipe_at hi _ q']
  · rw [wipe_out hi, wipe_out hi]
    exact h i hi
theorem wipe_set {σ : L2.St} {i : Nat} {o : Option V} {vs : List Nat} (h : i ∈ vs) : wipe (σ.set i o) vs = wipe σ vs :=
  wipe_ext (by rw [List.length_set]) fun j hj => List.getElem?_set_ne (fun z => hj (by rw [← z]; exact h))
theorem canSet_ok {env : Env'} {i : Nat} (h : canSet env i = true) : i < env.length ∧ ∀ e, env[i]? ≠ some (.io e) := by
  unfold canSet at h
  split at h
  · cases h
  · cases h
  · rename_i s hne hs
    refine ⟨(List.getElem?_eq_some_iff.mp hs).1, fun e q => ?_⟩
    rw [hs] at q
    exact hne e (Option.some.inj q)
section
variable {X : Cx} {EX : XK} {pos : Pos} {e a b c : Expr} {es : List Expr} {fa fb : DE} {ta tb : DT} {ts ts' : List Nat} {g : DG} {h : DGs}
theorem sg_name {i : Nat} (hp : PG X e (gName i)) (hi : i ∈ ts) : SG X e ts (gSet i) := pg_mono hp fun x σ H Q ⟨Fm, Hb, ia, env, d, A, r, p⟩ => by
  unfold gSet at p
  split at p
  · rename_i hc
    obtain ⟨h1, h2⟩ := canSet_ok hc
    exact p _ (fun vs hvs => wipe_set (hvs i hi)) (A.setImm h1 h2 r)
  · exact p.elim
theorem sgs_nil : SGs X [] ts gsNil := pgs_mono pgs_nil fun xs σ H Q ⟨Fm, Hb, ia, env, ds, A, r, p⟩ => by
  cases ds with
  | nil => exact ⟨r, p σ (fun _ _ => rfl) A⟩
  | cons _ _ => exact p.elim
theorem sgs_cons (h1 : SG X e ts g) (h2 : SGs X es ts h) (hs : (assignEach (e :: es) X.env).map (·.2) = assign e X.env :: (assignEach es X.env).map (·.2)) : SGs X (e :: es) ts (gsCons g h) := pgs_mono (pgs_cons h1 h2 hs) fun xs σ H Q ⟨Fm, Hb, ia, env, ds, A, r, p⟩ => by
  cases ds with
  | nil => exact p.elim
  | cons d ds =>
    obtain ⟨v, vr, rfl, r1, r2⟩ := r
    refine ⟨v, vr, rfl, Fm, Hb, ia, env, d, A, r1, ?_⟩
    have p' : PostG (wd X) Fm Hb ia ts σ H Q ((g d env).bind fun e => h ds e) := p
    cases q : g d env with
    | ok e1 =>
      rw [q] at p'
      intro σ1 w1 A1
      refine ⟨Fm, Hb, ia, e1, ds, A1, r2, ?_⟩
      have p2 : PostG (wd X) Fm Hb ia ts σ H Q (h ds e1) := p'
      cases q2 : h ds e1 with
      | ok e2 =>
        rw [q2] at p2
        exact fun σ2 w2 A2 => p2 σ2 (fun vs hvs => (w2 vs hvs).trans (w1 vs hvs)) A2
      | err x => rw [q2] at p2; exact p2.elim
      | bad => rw [q2] at p2; exact p2.elim
    | err x => rw [q] at p'; exact p'.elim
    | bad => rw [q] at p'; exact p'.elim
theorem sg_tup {n k : Nat} (hc : X.calm = true) (h1 : SGs X es ts h) (hn : (assignEach es X.env).length = n) (hst : (assignEach es X.env).findIdx? (·.1) = none) : SG X (.Tuple es k pos) ts (gTupD n h) := pg_mono (pg_tup hc h1 hn hst) fun x σ H Q ⟨Fm, Hb, ia, env, d, A, r, p⟩ => by
  cases d <;> first
    | exact p.elim
    | skip
  rename_i ds
  obtain ⟨a, vs, rfl, r1, r2⟩ := r
  unfold gTupD at p
  dsimp only at p
  split at p
  · rename_i hn'
    exact ⟨a, vs, rfl, sqt_of (A.bs.hb _ _ r1), by rw [← r2.len]; exact hn', Fm, Hb, ia, env, ds, A, r2, p⟩
  · exact p.elim

/-! ### statements -/
def sNext : DS := fun env => .ok (.nx, env)
def sBad : DS := fun _ => .bad
def sBreak : DS := fun env => .ok (.bk, env)
def sCont : DS := fun env => .ok (.ct, env)
def seqK (g : DS) : Fl × Env' → Res (Fl × Env')
  | (.nx, e) => g e
  | (.rt v, e) => .ok (.rt v, e)
  | (.bk, e) => .ok (.bk, e)
  | (.ct, e) => .ok (.ct, e)
def sSeq (f g : DS) : DS := fun env => (f env).bind (seqK g)
def sIf (t : DT) (f g : DS) : DS := fun env => (t env).bind fun p => if p.1 = true then f p.2 else g p.2
def sRet (f : DE) : DS := fun env => (f env).bind fun p => .ok (.rt p.1, p.2)
def sRetN : DS := fun env => .ok (.rt (.imm .non), env)
def sExpr (f : DE) : DS := fun env => (f env).bind fun p => .ok (.nx, p.2)
def setVal (i : Nat) : Val × Env' → Res (Fl × Env')
  | (v, e) => if canSet e i then match v with
    | .imm d => .ok (.nx, e.set i (.imm d))
    | .fresh d => .ok (.nx, e.set i (.own d)) else .bad
def sSet (i : Nat) (f : DE) : DS := fun env => (f env).bind (setVal i)
def gDone : Res Env' → Res (Fl × Env')
  | .ok e => .ok (.nx, e)
  | _ => .bad
def sAsg (g : DG) (f : DE) : DS := fun env => (f env).bind fun p => gDone (g p.1.d p.2)
/-- two names at once -/
def sPar (i j : Nat) (f : DA) : DS := fun env => (f env).bind fun p => match p.1 with
  | [d, d'] => if canSet p.2 i && canSet p.2 j then .ok (.nx, (p.2.set i (.imm d)).set j (.imm d')) else .bad
  | _ => .bad
variable {f f1 f2 : DS} {st : Stmt} {sts : List Stmt}
theorem ss_next (h : PS X st tNext) : SS X EX st sNext := ps_mono h fun D σ H ⟨Fm, Hb, ia, env, A, p⟩ => p σ H Hb (Same.refl _) A
theorem ss_break (h : PS X st tBreak) : SS X EX st sBreak := ps_mono h fun D σ H ⟨Fm, Hb, ia, env, A, p⟩ => p σ H Hb (Same.refl _) A
theorem ss_cont (h : PS X st tCont) : SS X EX st sCont := ps_mono h fun D σ H ⟨Fm, Hb, ia, env, A, p⟩ => p σ H Hb (Same.refl _) A
theorem ss_bad : SS X EX st sBad := ps_mono ps_never fun D σ H ⟨Fm, Hb, ia, env, A, p⟩ => p.elim
theorem sss_nil : SSs X EX [] sNext := pss_mono pss_nil fun D σ H ⟨Fm, Hb, ia, env, A, p⟩ => p σ H Hb (Same.refl _) A
theorem seq_post {W : Wd} {Fm Hb : Hp} {ia : Option Addr} {D : Ends} {r : Res (Fl × Env')} (p : PostS W EX Fm Hb ia D (r.bind (seqK f2))) : PostS W EX Fm Hb ia { D with nx := rdS W EX f2 D } r := by
  cases r with
  | ok q =>
    obtain ⟨fl, e⟩ := q
    cases fl with
    | nx => exact fun σ' H' Hb' s A => ⟨Fm, Hb', ia, e, A, PostS.mono s p⟩
    | rt v => exact fun σ' H' Hb' s A => p σ' H' Hb' s A
    | bk => exact fun σ' H' Hb' s A => p σ' H' Hb' s A
    | ct => exact fun σ' H' Hb' s A => p σ' H' Hb' s A
  | err x => exact p
  | bad => exact p.elim
theorem sss_cons (h1 : SS X EX st f1) (h2 : SSs X EX sts f2) : SSs X EX (st :: sts) (sSeq f1 f2) := pss_mono (pss_cons h1 h2) fun D σ H ⟨Fm, Hb, ia, env, A, p⟩ => ⟨Fm, Hb, ia, env, A, seq_post p⟩
theorem sss_one (h1 : SS X EX st f1) : SSs X EX [st] f1 := pss_one h1
theorem ss_if {p q : List Stmt} (hc : ST X EX c ta) (h1 : SSs X EX p f1) (h2 : SSs X EX q f2) : SS X EX (.If c p q pos) (sIf ta f1 f2) := ps_mono (ps_if hc h1 h2) fun D σ H ⟨Fm, Hb, ia, env, A, p⟩ =>
  ⟨Fm, Hb, ia, env, A, Post.bindS p fun k e1 H1 Hb1 s1 A1 q1 => by
    cases k with
    | true => exact iteT ⟨Fm, Hb1, ia, e1, A1, q1⟩
    | false => exact iteF ⟨Fm, Hb1, ia, e1, A1, q1⟩⟩
theorem ss_ret (ha : SE X EX e fa) : SS X EX (.Return (some e) pos) (sRet fa) := ps_mono (ps_ret ha) fun D σ H ⟨Fm, Hb, ia, env, A, p⟩ =>
  ⟨Fm, Hb, ia, env, A, Post.bindS p fun val e1 H1 Hb1 s1 A1 q1 v hv => q1 σ H1 Hb1 (Same.refl _) A1 v hv⟩
theorem ss_retN : SS X EX (.Return none pos) sRetN := ps_mono ps_retN fun D σ H ⟨Fm, Hb, ia, env, A, p⟩ => p σ H Hb (Same.refl _) A _ rfl
theorem ss_expr (ha : SE X EX e fa) (hs : swapsWith e none pos.line X.env = pure false) : SS X EX (.Expr e pos) (sExpr fa) := ps_mono (ps_expr ha hs) fun D σ H ⟨Fm, Hb, ia, env, A, p⟩ =>
  ⟨Fm, Hb, ia, env, A, Post.bindS p fun val e1 H1 Hb1 s1 A1 q1 v hv => q1 σ H1 Hb1 (Same.refl _) A1⟩
theorem rd_set {W : Wd} {i : Nat} : ∀ D σ H, rdS W EX (sSet i fa) D σ H → tAsg (rdE W EX fa) (gName i) D σ H := fun D σ H ⟨Fm, Hb, ia, env, A, p⟩ =>
  ⟨Fm, Hb, ia, env, A, Post.bindS p fun val e1 H1 Hb1 s1 A1 q1 v hv => by
    unfold setVal at q1
    dsimp only at q1
    split at q1
    · rename_i hc
      obtain ⟨h1, h2⟩ := canSet_ok hc
      cases val with
      | imm d => exact q1 _ H1 Hb1 (Same.refl _) (A1.setImm h1 h2 hv)
      | fresh d =>
        obtain ⟨p, rfl, g1, g2, g3, g4⟩ := hv
        exact q1 _ H1 Hb1 (Same.refl _) (A1.setOwn h1 h2 g1 g2 g3 g4)
    · exact q1.elim⟩
theorem ss_set {i : Nat} (h : PS X st (tAsg (rdE (wd X) EX fa) (gName i))) : SS X EX st (sSet i fa) := ps_mono h rd_set
theorem ss_asg (hg : SG X a ts g) (ha : SE X EX e fa) (hs : swapsWithSole [a] e pos.line X.env = pure false) (hw : swappedStores [a] e X.env = pure none) (h1 : (assignEach [a] X.env).map (·.2) = [assign a X.env]) : SS X EX (.Assign [a] e pos) (sAsg g fa) := ps_mono (ps_asg ha hg hs hw h1) fun D σ H ⟨Fm, Hb, ia, env, A, p⟩ =>
  ⟨Fm, Hb, ia, env, A, Post.bindVS p fun val e1 v H1 Hb1 s1 A1 r1 q1 => ⟨Fm, Hb1, ia, e1, val.d, A1, r1, by
    dsimp only at q1
    cases q : g val.d e1 with
    | ok e2 =>
      rw [q] at q1
      exact fun σ' _ A2 => q1 σ' H1 Hb1 (Same.refl _) A2
    | err x => rw [q] at q1; exact q1.elim
    | bad => rw [q] at q1; exact q1.elim⟩⟩
end
end G


set_option maxRecDepth 100000
set_option maxHeartbeats 4000000
/-! Kern10: stores into lists; two names at once; while, for; what is walked. -/
namespace G
open PySem PySem.Spec PyProof.Rows L2

/-! ### stores into what a name owns -/
def slotWr (i : Nat) (env : Env') (f : Dt → Option Dt) : Res (Fl × Env') := match env[i]? with
  | some (.own d) => match f d with
    | some d' => .ok (.nx, env.set i (.own d'))
    | none => .bad
  | some (.io d) => match f d with
    | some d' => .ok (.nx, env.set i (.io d'))
    | none => .bad
  | _ => .bad
def addD (x : Dt) : Dt → Option Dt
  | .lst ds => if ds.length < sizeLine then some (.lst (ds ++ [x])) else none
  | _ => none
def extD (x : Dt) : Dt → Option Dt
  | .lst ds => match x with
    | .lst es => if ds.length + es.length ≤ sizeLine then some (.lst (ds ++ es)) else none
    | _ => none
  | _ => none
def putD (k x : Dt) : Dt → Option Dt
  | .lst ds => match k with
    | .int n => match L2.ixN ds.length n with
      | some j => some (.lst (ds.set j x))
      | none => none
    | _ => none
  | _ => none
def isLst : Slot → Bool
  | .own (.lst _) => true
  | .io (.lst _) => true
  | _ => false
def sApp (i : Nat) (f : DE) : DS := fun env => if (env[i]?.map isLst) = some true then (f env).bind fun p => slotWr i p.2 (addD p.1.d) else .bad
def sExt (i : Nat) (f : DE) : DS := fun env => if (env[i]?.map isLst) = some true then (f env).bind fun p => slotWr i p.2 (extD p.1.d) else .bad
def sPut (i : Nat) (fb f : DE) : DS := fun env => (f env).bind fun p => if (p.2[i]?.map isLst) = some true then (fb p.2).bind fun q => slotWr i q.2 (putD q.1.d p.1.d) else .bad
section
variable {W : Wd} {EX : XK} {Fm Hb H : Hp} {ia : Option Addr} {env : Env'} {σ : L2.St} {D : Ends}
/-- a list that a name owns -/
theorem lst_at (A : Agr W Fm Hb ia env σ H) {i : Nat} (h : (env[i]?.map isLst) = some true) : ∃ a vs, σ[i]? = some (some (.ref a)) ∧ H a = some (.lst vs) := by
  obtain ⟨s, h1, h2⟩ := Option.map_eq_some_iff.mp h
  cases s with
  | own d =>
    cases d <;> first
      | cases h2
      | skip
    obtain ⟨a, g1, _, _, vs, g2, _⟩ := A.own i _ (.inl h1)
    exact ⟨a, vs, g1, g2⟩
  | io d =>
    cases d <;> first
      | cases h2
      | skip
    obtain ⟨a, g1, _, _, vs, g2, _⟩ := A.own i _ (.inr h1)
    exact ⟨a, vs, g1, g2⟩
  | un => cases h2
  | imm d => cases h2
theorem slot_wr {f : Dt → Option Dt} {i : Nat} (A : Agr W Fm Hb ia env σ H) (p : PostS W EX Fm Hb ia D (slotWr i env f)) :
    ∃ a d d' mk, σ[i]? = some (some (.ref a)) ∧ f d = some d' ∧ OwnAt W Hb H a d ∧ (∀ o, OwnAt W Hb (upd H a o) a d' → Agr W Fm Hb ia (env.set i mk) σ (upd H a o)) ∧ PostS W EX Fm Hb ia D (.ok (.nx, env.set i mk)) := by
  unfold slotWr at p
  split at p
  · rename_i d hd
    cases q : f d with
    | some d' =>
      rw [q] at p
      obtain ⟨a, g1, g2, g3, g4⟩ := A.own i d (.inl hd)
      exact ⟨a, d, d', .own d', g1, q, g4, fun o ho => A.write (d := d) (.inl hd) (.inl ⟨hd, rfl⟩) g1 ho, p⟩
    | none => rw [q] at p; exact p.elim
  · rename_i d hd
    cases q : f d with
    | some d' =>
      rw [q] at p
      obtain ⟨a, g1, g2, g3, g4⟩ := A.own i d (.inr hd)
      exact ⟨a, d, d', .io d', g1, q, g4, fun o ho => A.write (d := d) (.inr hd) (.inr ⟨hd, rfl⟩) g1 ho, p⟩
    | none => rw [q] at p; exact p.elim
  · exact p.elim
end
section
variable {X : Cx} {EX : XK} {pos : Pos} {e a b c : Expr} {es : List Expr} {fa fb : DE} {st : Stmt}
theorem ss_app {i : Nat} (h : PS X st (tDrop (tBM X.K "list" rAppend (tVar i) (tCons (rdE (wd X) EX fa) tNil)))) : SS X EX st (sApp i fa) := ps_mono h fun D σ H ⟨Fm, Hb, ia, env, A, p⟩ => by
  unfold sApp at p
  split at p
  · rename_i ho
    obtain ⟨a, vs, g1, g2⟩ := lst_at A ho
    refine ⟨.ref a, g1, .inl ⟨rfl, vs, .inl (.inl g2)⟩, Fm, Hb, ia, env, A, Post.bindVS p fun val e1 v H1 Hb1 s1 A1 r1 q1 => ?_⟩
    obtain ⟨a', d, d', mk, k1, k2, k3, k4, k5⟩ := slot_wr A1 q1
    rw [g1] at k1
    cases k1
    cases d <;> first
      | cases k2
      | skip
    rename_i ds
    simp only [addD] at k2
    split at k2
    · rename_i hz
      cases k2
      obtain ⟨ws, w1, w2⟩ := k3
      refine ⟨a, ws, v, rfl, rfl, w1, by rw [← w2.len]; exact hz, ?_⟩
      exact k5 σ _ Hb1 (Same.refl _) (k4 _ ⟨_, upd_same, w2.append ⟨v, [], rfl, r1, rfl⟩⟩)
    · cases k2
  · exact p.elim
theorem ss_ext {i : Nat} (h : PS X st (tDrop (tBM X.K "list" rExtend (tVar i) (tCons (rdE (wd X) EX fa) tNil)))) : SS X EX st (sExt i fa) := ps_mono h fun D σ H ⟨Fm, Hb, ia, env, A, p⟩ => by
  unfold sExt at p
  split at p
  · rename_i ho
    obtain ⟨a, vs, g1, g2⟩ := lst_at A ho
    refine ⟨.ref a, g1, .inl ⟨rfl, vs, .inl (.inl g2)⟩, Fm, Hb, ia, env, A, Post.bindVS p fun val e1 v H1 Hb1 s1 A1 r1 q1 => ?_⟩
    obtain ⟨a', d, d', mk, k1, k2, k3, k4, k5⟩ := slot_wr A1 q1
    rw [g1] at k1
    cases k1
    cases d <;> first
      | cases k2
      | skip
    rename_i ds
    dsimp only at k2 r1
    generalize val.d = x at k2 r1
    cases x <;> first
      | cases k2
      | skip
    rename_i es
    simp only [extD] at k2
    split at k2
    · rename_i hz
      cases k2
      obtain ⟨ws, w1, w2⟩ := k3
      obtain ⟨b, zs, rfl, z1, z2⟩ := r1
      refine ⟨a, b, ws, zs, rfl, rfl, w1, A1.bs.hb _ _ z1, by rw [← w2.len, ← z2.len]; exact hz, ?_⟩
      exact k5 σ _ Hb1 (Same.refl _) (k4 _ ⟨_, upd_same, w2.append z2⟩)
    · cases k2
  · exact p.elim
theorem ss_put {i : Nat} (h : PS X st (tAsg (rdE (wd X) EX fa) (gSub (tVar i) (rdE (wd X) EX fb) rSetL))) : SS X EX st (sPut i fb fa) := ps_mono h fun D σ H ⟨Fm, Hb, ia, env, A, p⟩ =>
  ⟨Fm, Hb, ia, env, A, Post.bindVS p fun val e1 v H1 Hb1 s1 A1 r1 q1 => by
    dsimp only at q1
    split at q1
    · rename_i ho
      obtain ⟨a, vs, g1, g2⟩ := lst_at A1 ho
      refine ⟨.ref a, g1, Fm, Hb1, ia, e1, A1, Post.bindVS q1 fun vk e2 k H2 Hb2 s2 A2 r2 q2 => ?_⟩
      obtain ⟨a', d, d', mk, k1, k2, k3, k4, k5⟩ := slot_wr A2 q2
      rw [g1] at k1
      cases k1
      cases d <;> first
        | cases k2
        | skip
      rename_i ds
      dsimp only at k2 r2
      generalize vk.d = x at k2 r2
      cases x <;> first
        | cases k2
        | skip
      rename_i n
      simp only [putD] at k2
      split at k2
      · rename_i j hj
        cases k2
        obtain ⟨ws, w1, w2⟩ := k3
        refine ⟨a, ws, n, j, rfl, r2, w1, by rw [← w2.len]; exact hj, ?_⟩
        exact k5 σ _ Hb2 (Same.refl _) (k4 _ ⟨_, upd_same, w2.set (RdD.mono s2 _ _ r1) j⟩)
      · cases k2
    · exact q1.elim⟩
theorem ss_par {i j : Nat} {g : DA} (hij : i ≠ j) (h : PS X st (tPar i j (rdA (wd X) EX g))) : SS X EX st (sPar i j g) := ps_mono h fun D σ H ⟨Fm, Hb, ia, env, A, p⟩ =>
  ⟨Fm, Hb, ia, env, A, Post.bindS p fun ds e1 H1 Hb1 s1 A1 q1 vs hv => by
    dsimp only at q1
    split at q1
    · rename_i d d'
      split at q1
      · rename_i hc
        rw [Bool.and_eq_true] at hc
        obtain ⟨v, w, rfl, r1, r2⟩ := hv.two
        obtain ⟨c1, c2⟩ := canSet_ok hc.1
        obtain ⟨c3, c4⟩ := canSet_ok hc.2
        refine ⟨v, w, rfl, ?_⟩
        exact q1 _ H1 Hb1 (Same.refl _) ((A1.setImm c1 c2 r1).setImm (by rw [List.length_set]; exact c3) (fun x => by rw [List.getElem?_set_ne hij]; exact c4 x) r2)
      · exact q1.elim
    · exact q1.elim⟩
/-- x op= e -/
def sAug (i : Nat) (g : Dt → Dt → Res Val) (f : DE) : DS := fun env => match env[i]? with
  | some (.imm d) => (f env).bind fun p => if canSet p.2 i then match g d p.1.d with
    | .ok (.imm r) => .ok (.nx, p.2.set i (.imm r))
    | _ => .bad else .bad
  | _ => .bad
theorem ss_augI {i : Nat} {f : Int → Int → Int} {g : Dt → Dt → Res Val} (hg : ∀ x y r, g x y = .ok r → ∃ a b, x = .int a ∧ y = .int b ∧ r = .imm (.int (f a b))) (h : PS X st (tAug i (rdE (wd X) EX fa) (ipI f))) : SS X EX st (sAug i g fa) := ps_mono h fun D σ H ⟨Fm, Hb, ia, env, A, p⟩ => by
  unfold sAug at p
  split at p
  · rename_i d hd
    obtain ⟨x, h1, h2⟩ := A.imm i d hd
    refine ⟨x, h1, Fm, Hb, ia, env, A, Post.bindVS p fun val e1 v H1 Hb1 s1 A1 r1 q1 => ?_⟩
    dsimp only at q1
    split at q1
    · rename_i hc
      obtain ⟨c1, c2⟩ := canSet_ok hc
      split at q1
      · rename_i r hr
        obtain ⟨a, b, rfl, e2, e3⟩ := hg _ _ _ hr
        cases e3
        rw [e2] at r1
        exact ⟨a, b, h2, r1, q1 _ H1 Hb1 (Same.refl _) (A1.setImm c1 c2 rfl)⟩
      · exact q1.elim
    · exact q1.elim
  · exact p.elim

/-! ### while -/
def sWhile (t : DT) (f : DS) : Nat → DS
  | 0 => fun _ => .bad
  | n + 1 => fun env => (t env).bind fun p => if p.1 = true then (f p.2).bind fun q => match q.1 with
    | .nx => sWhile t f n q.2
    | .ct => sWhile t f n q.2
    | .bk => .ok (.nx, q.2)
    | .rt v => .ok (.rt v, q.2) else .ok (.nx, p.2)
variable {t : DT} {f : DS} {body : List Stmt}
theorem loop_post {W : Wd} {Fm Hb : Hp} {ia : Option Addr} {D : Ends} {N : L2.St → Hp → Prop} {k : Env' → Res (Fl × Env')} {r : Res (Fl × Env')} (p : PostS W EX Fm Hb ia D (r.bind fun q => match q.1 with
    | .nx => k q.2
    | .ct => k q.2
    | .bk => .ok (.nx, q.2)
    | .rt v => .ok (.rt v, q.2)))
    (h : ∀ e σ' H' Hb', Same Hb Hb' → Agr W Fm Hb' ia e σ' H' → PostS W EX Fm Hb' ia D (k e) → N σ' H') : PostS W EX Fm Hb ia { D with nx := N, ct := N, bk := D.nx } r := by
  cases r with
  | ok q =>
    obtain ⟨fl, e⟩ := q
    cases fl with
    | nx => exact fun σ' H' Hb' s A => h e σ' H' Hb' s A (PostS.mono s p)
    | rt v => exact fun σ' H' Hb' s A => p σ' H' Hb' s A
    | bk => exact fun σ' H' Hb' s A => p σ' H' Hb' s A
    | ct => exact fun σ' H' Hb' s A => h e σ' H' Hb' s A (PostS.mono s p)
  | err x => exact p
  | bad => exact p.elim
theorem ss_while {n : Nat} (hp : PassesOwn (model X.prog X.w) X.A X.env X.xe) (hc : ST X EX c t) (hb : SSs X EX body f) : SS X EX (.While c body [] pos) (sWhile t f n) := ps_mono (ps_while hp hc hb) fun D σ H ⟨Fm, Hb, ia, env, A, p⟩ =>
  ⟨fun m σ' H' => ∃ Hb' e, Agr (wd X) Fm Hb' ia e σ' H' ∧ PostS (wd X) EX Fm Hb' ia D (sWhile t f m e), ⟨n, Hb, env, A, p⟩, fun m σ1 H1 ⟨Hb1, e1, A1, p1⟩ => by
    cases m with
    | zero => exact p1.elim
    | succ m =>
      refine ⟨Fm, Hb1, ia, e1, A1, Post.bindS p1 fun k e2 H2 Hb2 s2 A2 q2 => ?_⟩
      cases k with
      | true =>
        refine iteT ⟨fun σ' H' => ∃ Hb' e, Agr (wd X) Fm Hb' ia e σ' H' ∧ PostS (wd X) EX Fm Hb' ia D (sWhile t f m e), fun σ' H' h => ⟨m, Nat.lt_succ_self _, h⟩, Fm, Hb2, ia, e2, A2, ?_⟩
        exact loop_post q2 fun e σ' H' Hb' s A p => ⟨Hb', e, A, p⟩
      | false => exact iteF (q2 σ1 H2 Hb2 (Same.refl _) A2)⟩

/-! ### what is walked -/
/-- the base may grow by tuples that stand -/
def Gro (Hb H Hb1 : Hp) : Prop := Same Hb Hb1 ∧ ∀ a o, Hb1 a = some o → Hb a = some o ∨ ((∃ vs, o = .tup vs) ∧ H a = some o)
theorem Gro.refl {Hb H : Hp} : Gro Hb H Hb := ⟨Same.refl _, fun _ _ h => .inl h⟩
theorem Gro.agr {W : Wd} {Fm Hb H Hb1 : Hp} {ia : Option Addr} {env : Env'} {σ : L2.St} (g : Gro Hb H Hb1) (A : Agr W Fm Hb ia env σ H) : Agr W Fm Hb1 ia env σ H where
  bs := {
    hb := fun a o e => by
      rcases g.2 a o e with h | ⟨_, h⟩
      · exact A.bs.hb a o h
      · exact h
    fm := A.bs.fm
    dj := fun a o e => by
      cases q : Hb1 a with
      | none => rfl
      | some o' =>
        rcases g.2 a o' q with h | ⟨⟨vs, rfl⟩, h⟩
        · rw [A.bs.dj a o e] at h
          cases h
        · rw [A.bs.fm a o e] at h
          cases h
          exact absurd e (A.bs.nt a vs)
    nt := A.bs.nt }
  len := A.len
  imm := fun i d e => by
    obtain ⟨v, h1, h2⟩ := A.imm i d e
    exact ⟨v, h1, RdD.mono g.1 _ _ h2⟩
  own := fun i d e => by
    obtain ⟨a, h1, h2, h3, h4⟩ := A.own i d e
    refine ⟨a, h1, ?_, h3, h4.move g.1 fun _ h => h⟩
    cases q : Hb1 a with
    | none => rfl
    | some o =>
      rcases g.2 a o q with h | ⟨⟨vs, rfl⟩, h⟩
      · rw [h2] at h
        cases h
      · exact absurd h (h4.ntup vs)
  inj := A.inj
  io := A.io
  ioh := A.ioh
/-- the i-th turn gives d: the heap stays, or a new tuple is laid; tuples that stood may come to light -/
def Yl (W : Wd) (Hb H : Hp) (d : Dt) (x : V) (H' : Hp) : Prop := ∃ Hb1, Gro Hb H Hb1 ∧ ((H' = H ∧ RdD W Hb1 d x) ∨ ∃ T vs es, x = .ref T ∧ H T = none ∧ H' = upd H T (.tup vs) ∧ d = .tup es ∧ RdL W Hb1 es vs)
theorem Yl.stay {W : Wd} {Hb H : Hp} {d : Dt} {x : V} (r : RdD W Hb d x) : Yl W Hb H d x H := ⟨Hb, Gro.refl, .inl ⟨rfl, r⟩⟩
theorem Yl.laid {W : Wd} {Hb H : Hp} {T : Addr} {vs : List V} {es : List Dt} (h : H T = none) (r : RdL W Hb es vs) : Yl W Hb H (.tup es) (.ref T) (upd H T (.tup vs)) := ⟨Hb, Gro.refl, .inr ⟨T, vs, es, rfl, h, rfl, rfl, r⟩⟩
structure Yields (W : Wd) (Fm Hb0 : Hp) (J : It) (ds : List Dt) : Prop where
  go : ∀ i Hb H, i < ds.length → Same Hb0 Hb → Bse Fm Hb H → J.go i H
  stop : ∀ Hb H, Same Hb0 Hb → Bse Fm Hb H → J.stop ds.length H
  yld : ∀ i d Hb H x H', ds[i]? = some d → Same Hb0 Hb → Bse Fm Hb H → J.yld i H x H' → Yl W Hb H d x H'
/-- iter walks the data that it tells -/
def SI (X : Cx) (EX : XK) (tg iter : Expr) (it : DA) : Prop := ∃ wi, PI X tg iter wi ∧ ∀ Fm Hb ia σ env H (R : It → Hp → Prop), Agr (wd X) Fm Hb ia env σ H →
  Post (wd X) EX Fm Hb ia σ (fun ds e Hb1 H1 => ∀ J, Yields (wd X) Fm Hb1 J ds → R J H1) (it env) → wi σ H R
theorem Yl.agr {W : Wd} {Fm Hb H H' : Hp} {ia : Option Addr} {env : Env'} {σ : L2.St} {d : Dt} {x : V} (y : Yl W Hb H d x H') (A : Agr W Fm Hb ia env σ H) : ∃ Hb', Same Hb Hb' ∧ Agr W Fm Hb' ia env σ H' ∧ RdD W Hb' d x := by
  obtain ⟨Hb1, g, y⟩ := y
  have A := g.agr A
  rcases y with ⟨rfl, r⟩ | ⟨T, vs, es, rfl, hT, rfl, rfl, r⟩
  · exact ⟨Hb1, g.1, A, r⟩
  · have hn := A.bs.hb.free hT
    exact ⟨upd Hb1 T (.tup vs), g.1.trans (same_lay hn), A.lay hT, T, vs, rfl, upd_same, RdL.mono (same_lay hn) _ _ r⟩
def sLoop (g : DG) (f : DS) : List Dt → DS
  | [] => fun env => .ok (.nx, env)
  | d :: ds => fun env => match g d env with
    | .ok e => (f e).bind fun q => match q.1 with
      | .nx => sLoop g f ds q.2
      | .ct => sLoop g f ds q.2
      | .bk => .ok (.nx, q.2)
      | .rt v => .ok (.rt v, q.2)
    | _ => .bad
def sFor (it : DA) (g : DG) (f : DS) : DS := fun env => (it env).bind fun p => sLoop g f p.1 p.2
theorem ss_for {tg iter : Expr} {it : DA} {g : DG} {ts : List Nat} (hp : PassesOwn (model X.prog X.w) X.A X.env X.xe) (hc : X.calm = true) (hi : SI X EX tg iter it) (hg : SG X tg ts g) (hb : SSs X EX body f) (hs : ∀ x, foldedSetIterable iter X.env x = pure x) : SS X EX (.For tg iter body [] pos) (sFor it g f) := by
  obtain ⟨wi, h1, h2⟩ := hi
  refine ps_mono (ps_for hp hc h1 hg hb hs) fun D σ H ⟨Fm, Hb, ia, env, A, p⟩ => ?_
  refine h2 Fm Hb ia σ env H _ A (Post.bindS p fun ds e1 H1 Hb1 s1 A1 q1 J y => ?_)
  dsimp only at q1
  refine ⟨fun i m σ' H' => m = ds.length - i ∧ i ≤ ds.length ∧ ∃ Hb' e, Same Hb1 Hb' ∧ Agr (wd X) Fm Hb' ia e σ' H' ∧ PostS (wd X) EX Fm Hb' ia D (sLoop g f (ds.drop i) e), ⟨ds.length, rfl, Nat.zero_le _, Hb1, e1, Same.refl _, A1, q1⟩, ?_⟩
  rintro i m σ2 H2 ⟨rfl, hi, Hb2, e2, s2, A2, p2⟩
  by_cases hlt : i < ds.length
  · right
    have hd : ds.drop i = ds[i] :: ds.drop (i + 1) := List.drop_eq_getElem_cons hlt
    refine ⟨y.go i Hb2 H2 hlt s2 A2.bs, fun σ' H' => ∃ Hb' e, Same Hb1 Hb' ∧ Agr (wd X) Fm Hb' ia e σ' H' ∧ PostS (wd X) EX Fm Hb' ia D (sLoop g f (ds.drop (i + 1)) e), ?_, ?_⟩
    · rintro σ' H' ⟨Hb', e, x1, x2, x3⟩
      exact ⟨ds.length - (i + 1), by omega, rfl, by omega, Hb', e, x1, x2, x3⟩
    · intro x H3 hy
      obtain ⟨Hb3, s3, A3, r3⟩ := (y.yld i ds[i] Hb2 H2 x H3 (List.getElem?_eq_getElem hlt) s2 A2.bs hy).agr A2
      rw [hd] at p2
      have p3 := PostS.mono s3 p2
      refine ⟨Fm, Hb3, ia, e2, ds[i], A3, r3, ?_⟩
      unfold sLoop at p3
      cases q : g ds[i] e2 with
      | ok e3 =>
        rw [q] at p3
        intro σ3 _ A4
        refine ⟨Fm, Hb3, ia, e3, A4, loop_post p3 fun e σ' H' Hb' s A p => ⟨Hb', e, (s2.trans s3).trans s, A, p⟩⟩
      | err z => rw [q] at p3; exact p3.elim
      | bad => rw [q] at p3; exact p3.elim
  · left
    have e : i = ds.length := by omega
    subst e
    rw [List.drop_length] at p2
    exact ⟨y.stop Hb2 H2 s2 A2.bs, p2 σ2 H2 Hb2 (Same.refl _) A2⟩
end
end G


set_option maxRecDepth 100000
set_option maxHeartbeats 4000000
/-! Kern11: what is walked (lists, tuples, ranges); list comprehensions. -/
namespace G
open PySem PySem.Spec PyProof.Rows L2

/-! ### walks -/
theorem yields_l {W : Wd} {Fm Hb : Hp} {a : Addr} {vs : List V} {ds : List Dt} (h : SqL W.K Hb a vs) (r : RdL W Hb ds vs) : Yields W Fm Hb (Itl W.K a) ds where
  go := fun i Hb' H hi s b => by
    obtain ⟨v, h1, _⟩ := r.get (List.getElem?_eq_getElem hi)
    exact ⟨vs, v, same_l b.hb (same_l s h), h1⟩
  stop := fun Hb' H s b => ⟨vs, same_l b.hb (same_l s h), by rw [← r.len]; exact Nat.le_refl _⟩
  yld := fun i d Hb' H x H' hd s b y => by
    obtain ⟨e, y⟩ := y
    obtain ⟨v, h1, h2⟩ := r.get hd
    have := y vs (same_l b.hb (same_l s h))
    rw [h1] at this
    cases this
    subst e
    exact Yl.stay (RdD.mono s _ _ h2)
theorem yields_t {W : Wd} {Fm Hb : Hp} {a : Addr} {vs : List V} {ds : List Dt} (h : SqT W.K Hb a vs) (r : RdL W Hb ds vs) : Yields W Fm Hb (Itt W.K a) ds where
  go := fun i Hb' H hi s b => by
    obtain ⟨v, h1, _⟩ := r.get (List.getElem?_eq_getElem hi)
    exact ⟨vs, v, same_t b.hb (same_t s h), h1⟩
  stop := fun Hb' H s b => ⟨vs, same_t b.hb (same_t s h), by rw [← r.len]; exact Nat.le_refl _⟩
  yld := fun i d Hb' H x H' hd s b y => by
    obtain ⟨e, y⟩ := y
    obtain ⟨v, h1, h2⟩ := r.get hd
    have := y vs (same_t b.hb (same_t s h))
    rw [h1] at this
    cases this
    subst e
    exact Yl.stay (RdD.mono s _ _ h2)
def rngD (lo : Int) (n : Nat) : List Dt := (List.range n).map fun i => .int (lo + (i : Nat))
theorem rngD_len (lo : Int) (n : Nat) : (rngD lo n).length = n := by
  unfold rngD
  rw [List.length_map, List.length_range]
theorem yields_r {W : Wd} {Fm Hb : Hp} (lo : Int) (n : Nat) : Yields W Fm Hb (Itr lo n) (rngD lo n) where
  go := fun i Hb' H hi s b => by rw [rngD_len] at hi; exact hi
  stop := fun Hb' H s b => by rw [rngD_len]; exact Nat.le_refl _
  yld := fun i d Hb' H x H' hd s b y => by
    obtain ⟨e, e'⟩ := y
    subst e
    refine Yl.stay ?_
    unfold rngD at hd
    rw [List.getElem?_map] at hd
    obtain ⟨j, hj, rfl⟩ := Option.map_eq_some_iff.mp hd
    obtain ⟨hl, e2⟩ := List.getElem?_eq_some_iff.mp hj
    rw [List.getElem_range] at e2
    subst e2
    exact e'
theorem pi_either {X : Cx} {tg e : Expr} {w1 w2 : TI} (h1 : PI X tg e w1) (h2 : PI X tg e w2) : PI X tg e (fun σ H R => w1 σ H R ∨ w2 σ H R) := ⟨fun pins s σ H R I h => by
  rcases h with h | h
  · exact h1.run pins s σ H R I h
  · exact h2.run pins s σ H R I h⟩
def itSeq (f : DE) : DA := fun env => (f env).bind fun p => match seqD p.1.d with
  | some ds => .ok (ds, p.2)
  | none => .bad
def int62 (j : Int) : Bool := decide (j.natAbs < 2 ^ 62)
theorem int62_le {j : Int} (h : int62 j = true) : -(2 ^ 62) ≤ j ∧ j < 2 ^ 62 := by
  have := of_decide_eq_true h
  omega
def itRng1 (g : DA) : DA := fun env => (g env).bind fun p => match p.1 with
  | [.int j] => if int62 j = true then .ok (rngD 0 j.toNat, p.2) else .bad
  | _ => .bad
def itRng2 (g : DA) : DA := fun env => (g env).bind fun p => match p.1 with
  | [.int i, .int j] => if int62 i = true ∧ int62 j = true then .ok (rngD i (j - i).toNat, p.2) else .bad
  | _ => .bad
section
variable {X : Cx} {EX : XK} {pos p1 : Pos} {tg e a b c l : Expr} {es : List Expr} {f fa fb : DE} {g : DA}
theorem si_seq (hl : SE X EX l f) : SI X EX tg l (itSeq f) := by
  refine ⟨_, pi_either (pi_list hl) (pi_tup hl), fun Fm Hb ia σ env H R A p => ?_⟩
  unfold itSeq at p
  cases q : f env with
  | err x =>
    rw [q] at p
    exact .inl ⟨Fm, Hb, ia, env, A, by rw [q]; exact p⟩
  | bad => rw [q] at p; exact p.elim
  | ok r =>
    obtain ⟨val, e1⟩ := r
    rw [q, Res.bind_ok] at p
    dsimp only at p
    have tup : ∀ es, val.d = .tup es → iTup X.K (rdE (wd X) EX f) σ H R := fun es hd => by
      rw [hd] at p
      refine ⟨Fm, Hb, ia, env, A, ?_⟩
      rw [q]
      refine fun H1 Hb1 s1 A1 => GE.use (fun d Hb2 v ed s2 A2 r2 => ?_) A1
      subst ed
      rw [hd] at r2
      obtain ⟨a, vs, rfl, h1, h2⟩ := r2
      exact ⟨a, rfl, ⟨vs, sqt_of (A2.bs.hb _ _ h1)⟩, p H1 Hb2 (s1.trans s2) A2 _ (yields_t (W := wd X) (sqt_of h1) h2)⟩
    have lst : ∀ ds, seqD val.d = some ds → (∀ es, val.d ≠ .tup es) → iList X.K (rdE (wd X) EX f) σ H R := fun ds hd hn => by
      rw [hd] at p
      refine ⟨Fm, Hb, ia, env, A, ?_⟩
      rw [q]
      refine fun H1 Hb1 s1 A1 => GE.use (fun d Hb2 v ed s2 A2 r2 => ?_) A1
      subst ed
      have r3 : ∃ a vs, v = .ref a ∧ SqL X.K Hb2 a vs ∧ RdL (wd X) Hb2 ds vs := by
        generalize val.d = d at hd hn r2
        cases d with
        | lst es =>
          cases hd
          obtain ⟨a, vs, rfl, h1, h2⟩ := r2
          exact ⟨a, vs, rfl, .inl (.inl h1), h2⟩
        | scr ns =>
          cases hd
          obtain ⟨a, rfl, h1⟩ := r2
          exact ⟨a, _, rfl, h1, RdL.ofInts ns⟩
        | tup es => exact absurd rfl (hn es)
        | _ => cases hd
      obtain ⟨a, vs, rfl, h1, h2⟩ := r3
      exact ⟨a, rfl, ⟨vs, same_l A2.bs.hb h1⟩, p H1 Hb2 (s1.trans s2) A2 _ (yields_l (W := wd X) h1 h2)⟩
    cases hd : seqD val.d with
    | none => rw [hd] at p; exact p.elim
    | some ds =>
      cases hk : val.d with
      | tup es => exact .inr (tup es hk)
      | _ => exact .inl (lst ds hd fun es z => by rw [hk] at z; cases z)
theorem si_rng1 (hg : Gl X "range") (hm : X.mg "range" = none) (ha : SA X EX [a] g) (hs : isStar a = false) : SI X EX tg (.Call (.Name "range" p1) [a] [] pos) (itRng1 g) := by
  refine ⟨_, pi_range1 hg hm ha (star_no hs), fun Fm Hb ia σ env H R A p => ?_⟩
  refine ⟨Fm, Hb, ia, env, A, Post.bind p fun ds e1 H1 Hb1 s1 A1 q1 vs hv => ?_⟩
  dsimp only at q1
  split at q1
  · rename_i j
    split at q1
    · rename_i hj
      have hj := int62_le hj
      obtain ⟨v, r, rfl, h1, h2⟩ := hv
      cases (show v = V.int j from h1)
      cases (show r = [] from h2)
      exact ⟨j, rfl, hj.1, hj.2, q1 H1 Hb1 (Same.refl _) A1 _ (yields_r 0 j.toNat)⟩
    · exact q1.elim
  · exact q1.elim
theorem si_rng2 (hg : Gl X "range") (hm : X.mg "range" = none) (ha : SA X EX [a, b] g) (hs : isStar a = false) (hs2 : isStar b = false) : SI X EX tg (.Call (.Name "range" p1) [a, b] [] pos) (itRng2 g) := by
  refine ⟨_, pi_range2 hg hm ha (by rw [star_no hs, star_no hs2]; rfl) (star_no hs2), fun Fm Hb ia σ env H R A p => ?_⟩
  refine ⟨Fm, Hb, ia, env, A, Post.bind p fun ds e1 H1 Hb1 s1 A1 q1 vs hv => ?_⟩
  dsimp only at q1
  split at q1
  · rename_i i j
    split at q1
    · rename_i hj
      have h1 := int62_le hj.1
      have h2 := int62_le hj.2
      obtain ⟨v, w, rfl, r1, r2⟩ := hv.two
      cases (show v = V.int i from r1)
      cases (show w = V.int j from r2)
      exact ⟨i, j, rfl, ⟨h1.1, h1.2, h2.1, h2.2⟩, q1 H1 Hb1 (Same.refl _) A1 _ (yields_r i (j - i).toNat)⟩
    · exact q1.elim
  · exact q1.elim
end

/-! ### list comprehensions -/
def Res.hard {α : Type} : Res α → Res α
  | .err _ => .bad
  | r => r
def wipeE (env : Env') : List Nat → Env'
  | [] => env
  | v :: vs => (wipeE env vs).set v .un
def backE (e0 e : Env') : List Nat → Env'
  | [] => e
  | v :: vs => (backE e0 e vs).set v (e0[v]?.getD .un)
def lcOk (env : Env') (vs : List Nat) : Bool := vs.all fun v => match env[v]? with
  | some .un => true
  | some (.imm _) => true
  | _ => false
def lcTurn (vs : List Nat) (g : DG) (t : DT) (f : DE) (d : Dt) (env : Env') : Res (Option Dt × Env') := ((g d env).bind t).hard.bind fun p =>
  if p.1 = true then (f p.2).hard.bind fun q => .ok (some q.1.d, wipeE q.2 vs) else .ok (none, wipeE p.2 vs)
def lcLoop (vs : List Nat) (g : DG) (t : DT) (f : DE) : List Dt → DA
  | [] => fun env => .ok ([], env)
  | d :: ds => fun env => (lcTurn vs g t f d env).bind fun p => (lcLoop vs g t f ds p.2).bind fun q => .ok (p.1.toList ++ q.1, q.2)
def dLc (vs : List Nat) (it : DA) (g : DG) (t : DT) (f : DE) : DE := fun env => (it env).bind fun p =>
  if lcOk p.2 vs = true ∧ p.1.length ≤ sizeLine then (lcLoop vs g t f p.1 (wipeE p.2 vs)).hard.bind fun q => .ok (.fresh (.lst q.1), backE p.2 q.2 vs) else .bad
def dYes : DT := fun env => .ok (true, env)

theorem wipeE_len (env : Env') : ∀ vs, (wipeE env vs).length = env.length
  | [] => rfl
  | v :: vs => by unfold wipeE; rw [List.length_set, wipeE_len env vs]
theorem backE_len (e0 e : Env') : ∀ vs, (backE e0 e vs).length = e.length
  | [] => rfl
  | v :: vs => by unfold backE; rw [List.length_set, backE_len e0 e vs]
theorem backE_out {e0 e : Env'} {i : Nat} : ∀ {vs : List Nat}, i ∉ vs → (backE e0 e vs)[i]? = e[i]?
  | [], _ => rfl
  | v :: vs, h => by
    unfold backE
    rw [List.getElem?_set_ne fun z => h (by rw [z]; exact List.mem_cons_self)]
    exact backE_out fun z => h (List.mem_cons_of_mem _ z)
theorem backE_in {e0 e : Env'} {i : Nat} {s : Slot} : ∀ {vs : List Nat}, i ∈ vs → (backE e0 e vs)[i]? = some s → s = e0[i]?.getD .un
  | [], h, _ => by cases h
  | v :: vs, h, q => by
    unfold backE at q
    by_cases hv : v = i
    · subst hv
      rcases get_set q with ⟨_, e, _⟩ | ⟨ne, _⟩
      · exact e
      · exact absurd rfl ne
    · rw [List.getElem?_set_ne hv] at q
      rcases List.mem_cons.mp h with z | z
      · exact absurd z.symm hv
      · exact backE_in z q
theorem lcOk_at {env : Env'} {vs : List Nat} (h : lcOk env vs = true) {i : Nat} (hi : i ∈ vs) : env[i]? = some .un ∨ ∃ d, env[i]? = some (.imm d) := by
  have h' := List.all_eq_true.mp h i hi
  revert h'
  cases q : env[i]? with
  | none => intro h'; cases h'
  | some s =>
    cases s with
    | un => intro _; exact .inl rfl
    | imm d => intro _; exact .inr ⟨d, rfl⟩
    | own d => intro h'; cases h'
    | io d => intro h'; cases h'
section
variable {W : Wd} {Fm Hb Hb' H H' : Hp} {ia : Option Addr} {env env' : Env'} {σ : L2.St} {vs : List Nat} {D : Addr} {o o' : HO}
theorem Agr.wipeAll (A : Agr W Fm Hb ia env σ H) : ∀ {vs : List Nat}, (∀ a, ia = some a → 0 ∉ vs) → Agr W Fm Hb ia (wipeE env vs) (wipe σ vs) H
  | [], _ => A
  | v :: vs, h => by
    have A' := Agr.wipeAll A (vs := vs) fun a e z => h a e (List.mem_cons_of_mem _ z)
    exact A'.forget fun e z => by
      obtain ⟨h0, a, ha, _⟩ := A'.io v e z
      exact h a ha (by rw [h0]; exact List.mem_cons_self)
theorem Agr.alien (A : Agr W Fm Hb ia env σ H) (nt : ∀ vs, o ≠ .tup vs) (h1 : Hb D = none) (ho : H D = some o) (h2 : ∀ i d, Owns env i d → σ[i]? ≠ some (some (.ref D))) : Agr W (upd Fm D o) Hb ia env σ H where
  bs := ⟨A.bs.hb, fun a u e => by
    by_cases ha : a = D
    · subst ha
      rw [upd_same] at e
      rw [← e]
      exact ho
    · rw [upd_ne ha] at e
      exact A.bs.fm a u e, fun a u e => by
    by_cases ha : a = D
    · rw [ha]; exact h1
    · rw [upd_ne ha] at e
      exact A.bs.dj a u e, fun a vs e => by
    by_cases ha : a = D
    · subst ha
      rw [upd_same] at e
      exact nt vs (Option.some.inj e)
    · rw [upd_ne ha] at e
      exact A.bs.nt a vs e⟩
  len := A.len
  imm := A.imm
  own := fun i d e => by
    obtain ⟨a, g1, g2, g3, g4⟩ := A.own i d e
    exact ⟨a, g1, g2, by rw [upd_ne fun z => h2 i d e (by rw [← z]; exact g1)]; exact g3, g4⟩
  inj := A.inj
  io := A.io
  ioh := A.ioh
theorem Bse.unalien (b : Bse (upd Fm D o) Hb H) (h : Fm D = none) : Bse Fm Hb H := ⟨b.hb, fun a u e => b.fm a u (by rw [upd_ne (ne_of_none e h)]; exact e), fun a u e => b.dj a u (by rw [upd_ne (ne_of_none e h)]; exact e), fun a vs e => b.nt a vs (by rw [upd_ne (ne_of_none e h)]; exact e)⟩
theorem upd_none {a : Addr} (h : (upd Fm D o) a = none) : a ≠ D ∧ Fm a = none := by
  by_cases ha : a = D
  · rw [ha, upd_same] at h; cases h
  · rw [upd_ne ha] at h; exact ⟨ha, h⟩
theorem Agr.unalien (A : Agr W (upd Fm D o) Hb ia env σ H) (h : Fm D = none) : Agr W Fm Hb ia env σ H where
  bs := A.bs.unalien h
  len := A.len
  imm := A.imm
  own := fun i d e => by
    obtain ⟨a, g1, g2, g3, g4⟩ := A.own i d e
    exact ⟨a, g1, g2, (upd_none g3).2, g4⟩
  inj := A.inj
  io := A.io
  ioh := A.ioh
theorem Agr.alienSet (A : Agr W (upd Fm D o) Hb ia env σ H) (nt : ∀ vs, o' ≠ .tup vs) (h : Fm D = none) : Agr W (upd Fm D o') Hb ia env σ (upd H D o') where
  bs := by
    have hb := A.bs.dj D o upd_same
    refine ⟨fun a u e => ?_, fun a u e => ?_, fun a u e => ?_, fun a vs e => ?_⟩
    · rw [upd_ne (ne_of_none e hb)]; exact A.bs.hb a u e
    · by_cases ha : a = D
      · subst ha; rw [upd_same] at e ⊢; exact e
      · rw [upd_ne ha] at e ⊢
        exact A.bs.fm a u (by rw [upd_ne ha]; exact e)
    · by_cases ha : a = D
      · rw [ha]; exact hb
      · rw [upd_ne ha] at e
        exact A.bs.dj a u (by rw [upd_ne ha]; exact e)
    · by_cases ha : a = D
      · subst ha
        rw [upd_same] at e
        exact nt vs (Option.some.inj e)
      · rw [upd_ne ha] at e
        exact A.bs.nt a vs (by rw [upd_ne ha]; exact e)
  len := A.len
  imm := A.imm
  own := fun i d e => by
    obtain ⟨a, g1, g2, g3, g4⟩ := A.own i d e
    obtain ⟨ne, g3⟩ := upd_none g3
    exact ⟨a, g1, g2, by rw [upd_ne ne]; exact g3, g4.move (Same.refl _) fun u e => by rw [upd_ne ne]; exact e⟩
  inj := A.inj
  io := A.io
  ioh := A.ioh
theorem Agr.back (A : Agr W Fm Hb ia env σ H) (s : Same Hb Hb') (B : Agr W Fm Hb' ia env' (wipe σ vs) H') (h : lcOk env vs = true) : Agr W Fm Hb' ia (backE env env' vs) σ H' := by
  have key : ∀ i sl, (backE env env' vs)[i]? = some sl → (i ∈ vs ∧ (sl = .un ∨ ∃ d, sl = .imm d ∧ env[i]? = some (.imm d))) ∨ (i ∉ vs ∧ env'[i]? = some sl ∧ (wipe σ vs)[i]? = σ[i]?) := fun i sl q => by
    by_cases hi : i ∈ vs
    · have e := backE_in hi q
      rcases lcOk_at h hi with z | ⟨d, z⟩
      · rw [z] at e; exact .inl ⟨hi, .inl e⟩
      · rw [z] at e; exact .inl ⟨hi, .inr ⟨d, e, z⟩⟩
    · rw [backE_out hi] at q
      exact .inr ⟨hi, q, wipe_out hi⟩
  have keyO : ∀ i d, Owns (backE env env' vs) i d → i ∉ vs ∧ Owns env' i d ∧ (wipe σ vs)[i]? = σ[i]? := fun i d q => by
    rcases q with q | q
    · rcases key i _ q with ⟨_, z | ⟨_, z, _⟩⟩ | ⟨z1, z2, z3⟩
      · cases z
      · cases z
      · exact ⟨z1, .inl z2, z3⟩
    · rcases key i _ q with ⟨_, z | ⟨_, z, _⟩⟩ | ⟨z1, z2, z3⟩
      · cases z
      · cases z
      · exact ⟨z1, .inr z2, z3⟩
  exact {
    bs := B.bs
    len := by rw [backE_len, B.len, wipe_length]
    imm := fun i d q => by
      rcases key i _ q with ⟨_, z | ⟨d', z, y⟩⟩ | ⟨z1, z2, z3⟩
      · cases z
      · cases z
        obtain ⟨v, h1, h2⟩ := A.imm i d y
        exact ⟨v, h1, RdD.mono s _ _ h2⟩
      · rw [← z3]
        exact B.imm i d z2
    own := fun i d q => by
      obtain ⟨z1, z2, z3⟩ := keyO i d q
      rw [← z3]
      exact B.own i d z2
    inj := fun i j d d' a q1 q2 e1 e2 => by
      obtain ⟨_, z2, z3⟩ := keyO i d q1
      obtain ⟨_, y2, y3⟩ := keyO j d' q2
      exact B.inj i j d d' a z2 y2 (by rw [z3]; exact e1) (by rw [y3]; exact e2)
    io := fun i d q => by
      rcases key i _ q with ⟨_, z | ⟨_, z, _⟩⟩ | ⟨z1, z2, z3⟩
      · cases z
      · cases z
      · rw [← z3]; exact B.io i d z2
    ioh := fun a e => by
      obtain ⟨d, q⟩ := B.ioh a e
      refine ⟨d, ?_⟩
      have h0 : 0 ∉ vs := fun z => by
        obtain ⟨d', q'⟩ := A.ioh a e
        rcases lcOk_at h z with y | ⟨_, y⟩
        · rw [q'] at y; cases y
        · rw [q'] at y; cases y
      rw [backE_out h0]
      exact q }
theorem wipe_twice (σ : L2.St) (vs : List Nat) : wipe (wipe σ vs) vs = wipe σ vs := wipe_ext (wipe_length _ _) fun i hi => wipe_out hi
end
abbrev EN : XK := fun _ _ _ => False
theorem hard_ok {α : Type} {r : Res α} {x : α} (h : r.hard = .ok x) : r = .ok x := by
  cases r with
  | ok y => exact h
  | err _ => cases h
  | bad => cases h
theorem bind_okE {α β : Type} {r : Res α} {k : α → Res β} {y : β} (h : r.bind k = .ok y) : ∃ x, r = .ok x ∧ k x = .ok y := by
  cases r with
  | ok x => exact ⟨x, rfl, h⟩
  | err _ => cases h
  | bad => cases h
theorem rd_lc {W : Wd} {EX : XK} {wi : TI} {it : DA} {vs : List Nat} {g : DG} {t : DT} {f : DE}
    (hi : ∀ Fm Hb ia σ env H (R : It → Hp → Prop), Agr W Fm Hb ia env σ H → Post W EX Fm Hb ia σ (fun ds e Hb1 H1 => ∀ J, Yields W Fm Hb1 J ds → R J H1) (it env) → wi σ H R) :
    ∀ σ H Q, rdE W EX (dLc vs it g t f) σ H Q → tLc wi (rdG W vs g) (rdT W EN t) (rdE W EN f) vs σ H Q := fun σ H Q ⟨Fm, Hb, ia, env, A, p⟩ => by
  refine hi Fm Hb ia σ env H _ A (Post.bind p fun ds e H1 Hb1 s1 A1 q1 J y D hD => ?_)
  dsimp only at q1
  split at q1
  · rename_i hc
    obtain ⟨hok, hz⟩ := hc
    cases hL : (lcLoop vs g t f ds (wipeE e vs)).hard with
    | err x => rw [hL] at q1; cases hq : lcLoop vs g t f ds (wipeE e vs) <;> rw [hq] at hL <;> cases hL
    | bad => rw [hL] at q1; exact q1.elim
    | ok r =>
      obtain ⟨all, ef⟩ := r
      rw [hL, Res.bind_ok] at q1
      have hL := hard_ok hL
      obtain ⟨hDb, hDf⟩ := A1.bs.free hD
      have h0 : ∀ a, ia = some a → 0 ∉ vs := fun a ea z => by
        obtain ⟨d', q'⟩ := A1.ioh a ea
        rcases lcOk_at hok z with y | ⟨_, y⟩
        · rw [q'] at y; cases y
        · rw [q'] at y; cases y
      have B0 := A1.wipeAll h0
      have B1 := Agr.alien (o := .lst []) (B0.put hDb hDf (B0.apart hD) (o := .lst [])) (fun vs e => by cases e) hDb upd_same (B0.apart hD)
      refine ⟨fun i m H' => m = ds.length - i ∧ i ≤ ds.length ∧ ∃ Hb' ew acc av rest, Same Hb1 Hb' ∧ Agr W (upd Fm D (.lst av)) Hb' ia ew (wipe σ vs) H' ∧ RdL W Hb' acc av ∧ av.length ≤ i ∧ lcLoop vs g t f (ds.drop i) ew = .ok (rest, ef) ∧ acc ++ rest = all,
        ⟨ds.length, rfl, Nat.zero_le _, Hb1, wipeE e vs, [], [], all, Same.refl _, B1, rfl, Nat.zero_le _, hL, rfl⟩, ?_⟩
      rintro i m H2 ⟨rfl, hi, Hb2, ew, acc, av, rest, s2, A2, ra, hl, hlo, hall⟩
      by_cases hlt : i < ds.length
      · refine .inr ⟨y.go i Hb2 H2 hlt s2 (A2.bs.unalien hDf), fun H' => ∃ Hb' ew acc av rest, Same Hb1 Hb' ∧ Agr W (upd Fm D (.lst av)) Hb' ia ew (wipe σ vs) H' ∧ RdL W Hb' acc av ∧ av.length ≤ i + 1 ∧ lcLoop vs g t f (ds.drop (i + 1)) ew = .ok (rest, ef) ∧ acc ++ rest = all, ?_, ?_⟩
        · rintro H' ⟨Hb', ew', acc', av', rest', x1, x2, x3, x4, x5, x6⟩
          exact ⟨ds.length - (i + 1), by omega, rfl, by omega, Hb', ew', acc', av', rest', x1, x2, x3, x4, x5, x6⟩
        · intro x H3 hy
          obtain ⟨Hb3, s3, A3, r3⟩ := (y.yld i ds[i] Hb2 H2 x H3 (List.getElem?_eq_getElem hlt) s2 (A2.bs.unalien hDf) hy).agr A2
          rw [show ds.drop i = ds[i] :: ds.drop (i + 1) from List.drop_eq_getElem_cons hlt] at hlo
          unfold lcLoop at hlo
          obtain ⟨⟨od, e4⟩, ht, hlo⟩ := bind_okE hlo
          obtain ⟨⟨rest', e5⟩, hr, hlo⟩ := bind_okE hlo
          cases hlo
          unfold lcTurn at ht
          obtain ⟨⟨bb, e6⟩, hgt, ht⟩ := bind_okE ht
          obtain ⟨e7, hg, htt⟩ := bind_okE (hard_ok hgt)
          refine ⟨_, Hb3, ia, ew, ds[i], A3, r3, ?_⟩
          rw [hg]
          intro σ4 w4 A4
          have w4' : wipe σ4 vs = wipe σ vs := (w4 vs fun _ h => h).trans (wipe_twice σ vs)
          refine ⟨w4', _, Hb3, ia, e7, A4, ?_⟩
          rw [htt]
          intro H5 Hb5 s5 A5
          cases bb with
          | false =>
            cases ht
            have A6 := A5.wipeAll h0
            rw [w4'] at A6
            exact ⟨Hb5, _, acc, av, rest', (s2.trans s3).trans s5, A6, RdL.mono (s3.trans s5) _ _ ra, by omega, hr, hall⟩
          | true =>
            obtain ⟨⟨val, e8⟩, hf, ht⟩ := bind_okE ht
            cases ht
            have hf := hard_ok hf
            refine ⟨_, Hb5, ia, e6, A5, ?_⟩
            rw [hf]
            refine fun H6 Hb6 s6 A6 => GE.use (fun dd Hb7 v ed s7 A7 r7 => ?_) A6
            have hD7 : H6 D = some (.lst av) := A7.bs.fm D _ upd_same
            refine ⟨av, hD7, by omega, ?_⟩
            have A8 := (Agr.alienSet (o' := .lst (av ++ [v])) A7 (fun vs e => by cases e) hDf).wipeAll h0
            rw [w4'] at A8
            refine ⟨Hb7, _, acc ++ [dd], _, rest', (((s2.trans s3).trans s5).trans s6).trans s7, A8, (RdL.mono (((s3.trans s5).trans s6).trans s7) _ _ ra).append ⟨v, [], rfl, r7, rfl⟩, by rw [List.length_append]; simp; omega, hr, ?_⟩
            rw [← hall, List.append_assoc, ← ed]
            rfl
      · have e' : i = ds.length := by omega
        subst e'
        rw [List.drop_length] at hlo
        cases hlo
        rw [List.append_nil] at hall
        subst hall
        have A3 := A2.unalien hDf
        refine .inl ⟨y.stop Hb2 H2 s2 A3.bs, ?_⟩
        have A4 := A1.back s2 A3 hok
        refine q1 H2 Hb2 s2 A4 _ ⟨D, rfl, A2.bs.dj D _ upd_same, hDf, ⟨av, A2.bs.fm D _ upd_same, ra⟩, fun i d ho hz => ?_⟩
        by_cases hiv : i ∈ vs
        · rcases ho with q | q
          · have e := backE_in hiv q
            rcases lcOk_at hok hiv with z | ⟨_, z⟩ <;> rw [z] at e <;> cases e
          · have e := backE_in hiv q
            rcases lcOk_at hok hiv with z | ⟨_, z⟩ <;> rw [z] at e <;> cases e
        · have ho' : Owns ef i d := by
            rcases ho with q | q
            · exact .inl (by rw [backE_out hiv] at q; exact q)
            · exact .inr (by rw [backE_out hiv] at q; exact q)
          obtain ⟨a, g1, g2, g3, g4⟩ := A2.own i d ho'
          rw [wipe_out hiv, hz] at g1
          cases g1
          exact (upd_none g3).1 rfl
  · exact q1.elim
section
variable {X : Cx} {EX : XK} {pos spos py : Pos} {elt tg iter : Expr} {ifs : List Expr} {scope : Scope} {own : List (Str × Nat)} {it : DA} {g : DG} {t : DT} {f : DE}
/-- a clause's tests, in the block -/
def SPt (X : Cx) (ifs : List Expr) (t : DT) : Prop := PTs X ifs (rdT (wd X) EN t)
theorem spt_nil : SPt X [] dYes := ⟨fun pins s σ H Q I ⟨Fm, Hb, ia, env, A, p⟩ => pts_nil.run pins s σ H Q I (p H Hb (Same.refl _) A)⟩
theorem spt_one {c : Expr} (h : ST X EN c t) : SPt X [c] t := pts_one h
theorem se_lc (hc : X.calm = true) (hN : X.N.Nodup) (hi : SI X EX tg iter it) (ok : BlkOk X.N X.env.scope scope own)
    (hg : ∀ (s : Shared) (H : Hp) (C : Addr) (cl : List (Str × Addr)) (fp : List Addr), SG (X.blk s H scope (compEnvC scope cl C X.env) fp) tg (own.map (fun p : Str × Nat => p.2)) g) (ht : ∀ (s : Shared) (H : Hp) (C : Addr) (cl : List (Str × Addr)) (fp : List Addr), SPt (X.blk s H scope (compEnvC scope cl C X.env) fp) ifs t)
    (he : ∀ (s : Shared) (H : Hp) (C : Addr) (cl : List (Str × Addr)) (fp : List Addr), SE (X.blk s H scope (compEnvC scope cl C X.env) fp) EN elt f) (hs : ∀ x, foldedSetIterable iter X.env x = pure x) :
    SE X EX (.ListComp elt [⟨tg, iter, ifs, 0⟩] scope pos) (dLc (own.map (fun p : Str × Nat => p.2)) it g t f) := by
  obtain ⟨wi, h1, h2⟩ := hi
  exact pe_mono (pe_lc (own := own) (g := rdG (wd X) (own.map (fun p : Str × Nat => p.2)) g) (tt := rdT (wd X) EN t) (te := rdE (wd X) EN f) hc hN h1 ok hg ht he hs) (rd_lc h2)
theorem ss_setLc {i : Nat} {y : Str} (hc : X.calm = true) (hN : X.N.Nodup) (hy : X.N[i]? = some y) (hyl : X.env.scope.names.lookup y = some .local)
    (hsw : swapsWith (.ListComp elt [⟨tg, iter, ifs, 0⟩] scope pos) (some (.Name y py)) spos.line X.env = pure true) (hi : SI X EX tg iter it) (ok : BlkOk X.N X.env.scope scope own)
    (hg : ∀ (s : Shared) (H : Hp) (C : Addr) (cl : List (Str × Addr)) (fp : List Addr), SG (X.blk s H scope (compEnvC scope cl C X.env) fp) tg (own.map (fun p : Str × Nat => p.2)) g) (ht : ∀ (s : Shared) (H : Hp) (C : Addr) (cl : List (Str × Addr)) (fp : List Addr), SPt (X.blk s H scope (compEnvC scope cl C X.env) fp) ifs t)
    (he : ∀ (s : Shared) (H : Hp) (C : Addr) (cl : List (Str × Addr)) (fp : List Addr), SE (X.blk s H scope (compEnvC scope cl C X.env) fp) EN elt f) (hs : ∀ x, foldedSetIterable iter X.env x = pure x) :
    SS X EX (.Assign [.Name y py] (.ListComp elt [⟨tg, iter, ifs, 0⟩] scope pos) spos) (sSet i (dLc (own.map (fun p : Str × Nat => p.2)) it g t f)) := by
  obtain ⟨wi, h1, h2⟩ := hi
  exact ps_mono (ps_setLc (own := own) (g := rdG (wd X) (own.map (fun p : Str × Nat => p.2)) g) (tt := rdT (wd X) EN t) (te := rdE (wd X) EN f) hc hN hy hyl hsw h1 ok hg ht he hs) fun D σ H h => rd_lc (W := wd X) h2 σ H _ (rd_set (W := wd X) D σ H h)
end
end G


set_option maxRecDepth 100000
set_option maxHeartbeats 4000000
/-! Kern12: a def's promise from its body; the law's head. -/
namespace G
open PySem PySem.Spec PyProof.Rows L2

def env0 (io : Bool) (n : Nat) (ds : List Dt) : Env' := match io, ds with
  | true, d :: r => .io d :: (r.map Slot.imm ++ List.replicate (n - (r.length + 1)) .un)
  | _, ds => ds.map Slot.imm ++ List.replicate (n - ds.length) .un
def outOf (io : Bool) (e : Env') : Option Dt := match io with
  | false => none
  | true => match (e[0]? : Option Slot) with
    | some (Slot.io d) => some d
    | _ => none
def runF (io : Bool) (n : Nat) (f : DS) (ds : List Dt) : FR := match f (env0 io n ds) with
  | .ok (.rt v, e) => .ok (v, outOf io e)
  | .ok (.nx, e) => .ok (.imm .non, outOf io e)
  | .err x => .err x
  | _ => .bad
section
variable {W : Wd} {Fm Hb H : Hp} {ia : Option Addr} {ds : List Dt} {vs : List V} {N : List Str}
theorem start_get {i : Nat} : (L2.start N vs)[i]? = if i < vs.length then (vs[i]?).map some else if i < vs.length + (N.length - vs.length) then some none else none := by
  unfold L2.start
  split
  · rename_i h
    rw [List.getElem?_append_left (by simpa using h), List.getElem?_map]
  · rename_i h
    rw [List.getElem?_append_right (by simpa using h), List.length_map, List.getElem?_replicate]
    by_cases h2 : i < vs.length + (N.length - vs.length)
    · rw [if_pos h2, if_pos (by omega)]
    · rw [if_neg h2, if_neg (by omega)]
theorem env0_imm {n i : Nat} {s : Slot} (h : (ds.map Slot.imm ++ List.replicate (n - ds.length) Slot.un)[i]? = some s) : s = .un ∨ ∃ d, s = .imm d ∧ ds[i]? = some d := by
  by_cases hi : i < ds.length
  · rw [List.getElem?_append_left (by simpa using hi), List.getElem?_map] at h
    obtain ⟨d, h1, rfl⟩ := Option.map_eq_some_iff.mp h
    exact .inr ⟨d, rfl, h1⟩
  · rw [List.getElem?_append_right (by simpa using hi), List.getElem?_replicate] at h
    split at h
    · exact .inl (Option.some.inj h).symm
    · cases h
theorem agr_start (b : Bse Fm Hb H) (hn : vs.length ≤ N.length) {io : Bool} (h : ArgF W Fm Hb H io ds vs ia) : Agr W Fm Hb ia (env0 io N.length ds) (L2.start N vs) H := by
  have hls : (L2.start N vs).length = N.length := by
    unfold L2.start
    rw [List.length_append, List.length_map, List.length_replicate]
    omega
  cases io with
  | false =>
    obtain ⟨rfl, r⟩ := h
    have hl := r.len
    have e0 : env0 false N.length ds = ds.map Slot.imm ++ List.replicate (N.length - ds.length) .un := by unfold env0; rfl
    rw [e0]
    have no : ∀ i d, ¬ Owns (ds.map Slot.imm ++ List.replicate (N.length - ds.length) Slot.un) i d := fun i d o => by
      rcases o with o | o
      · rcases env0_imm o with z | ⟨_, z, _⟩ <;> cases z
      · rcases env0_imm o with z | ⟨_, z, _⟩ <;> cases z
    exact {
      bs := b
      len := by rw [hls, List.length_append, List.length_map, List.length_replicate]; omega
      imm := fun i d e => by
        rcases env0_imm e with z | ⟨d', z, g⟩
        · cases z
        · cases z
          obtain ⟨v, g1, g2⟩ := r.get g
          have hi : i < vs.length := (List.getElem?_eq_some_iff.mp g1).1
          exact ⟨v, by rw [start_get, if_pos hi, g1]; rfl, g2⟩
      own := fun i d o => (no i d o).elim
      inj := fun i j d d' a o => (no i d o).elim
      io := fun i d e => (no i d (.inr e)).elim
      ioh := fun a e => by cases e }
  | true =>
    obtain ⟨a, d, dr, vr, rfl, rfl, rfl, h1, h2, h3, r⟩ := h
    have hl := r.len
    have e0 : env0 true N.length (d :: dr) = .io d :: (dr.map Slot.imm ++ List.replicate (N.length - (dr.length + 1)) .un) := by unfold env0; rfl
    rw [e0]
    have tl : ∀ i s, (Slot.io d :: (dr.map Slot.imm ++ List.replicate (N.length - (dr.length + 1)) Slot.un))[i]? = some s → (i = 0 ∧ s = .io d) ∨ (∃ j, i = j + 1 ∧ (s = .un ∨ ∃ d', s = .imm d' ∧ dr[j]? = some d')) := fun i s e => by
      cases i with
      | zero => exact .inl ⟨rfl, (Option.some.inj e).symm⟩
      | succ j =>
        refine .inr ⟨j, rfl, ?_⟩
        have e' : (dr.map Slot.imm ++ List.replicate ((N.length - 1) - dr.length) Slot.un)[j]? = some s := by
          rw [show N.length - 1 - dr.length = N.length - (dr.length + 1) by omega]
          simpa using e
        exact env0_imm e'
    have ow : ∀ i d', Owns (Slot.io d :: (dr.map Slot.imm ++ List.replicate (N.length - (dr.length + 1)) Slot.un)) i d' → i = 0 ∧ d' = d := fun i d' o => by
      rcases o with o | o
      · rcases tl i _ o with ⟨_, z⟩ | ⟨_, _, z | ⟨_, z, _⟩⟩ <;> cases z
      · rcases tl i _ o with ⟨z0, z⟩ | ⟨_, _, z | ⟨_, z, _⟩⟩
        · cases z; exact ⟨z0, rfl⟩
        · cases z
        · cases z
    have s0 : (L2.start N (.ref a :: vr))[0]? = some (some (.ref a)) := by rw [start_get, if_pos (by simp)]; rfl
    exact {
      bs := b
      len := by
        have := hn
        rw [List.length_cons] at this
        rw [hls, List.length_cons, List.length_append, List.length_map, List.length_replicate]; omega
      imm := fun i d' e => by
        rcases tl i _ e with ⟨_, z⟩ | ⟨j, rfl, z | ⟨d'', z, g⟩⟩
        · cases z
        · cases z
        · cases z
          obtain ⟨v, g1, g2⟩ := r.get g
          have hi : j < vr.length := (List.getElem?_eq_some_iff.mp g1).1
          exact ⟨v, by rw [start_get, if_pos (by rw [List.length_cons]; omega), List.getElem?_cons_succ, g1]; rfl, g2⟩
      own := fun i d' o => by
        obtain ⟨rfl, rfl⟩ := ow i d' o
        exact ⟨a, s0, h1, h2, h3⟩
      inj := fun i j d1 d2 b o1 o2 _ _ => by rw [(ow i d1 o1).1, (ow j d2 o2).1]
      io := fun i d' e => by
        obtain ⟨rfl, rfl⟩ := ow i d' (.inr e)
        exact ⟨rfl, a, rfl, s0⟩
      ioh := fun b e => ⟨d, rfl⟩ }
/-- the body's end is the call's end -/
theorem end_ok {E : XK} {Q : VK} {io : Bool} {f : DS} {n : Nat} (h : ArgF W Fm Hb H io ds vs ia) (p : PostF W E Fm Hb ia Q (runF io n f ds)) : PostS W E Fm Hb ia { nx := fun _ H' => Q .non H', rt := Q } (f (env0 io n ds)) := by
  have hio : (io = false ∧ ia = none) ∨ (io = true ∧ ∃ a, ia = some a) := by
    cases io with
    | false => exact .inl ⟨rfl, h.1⟩
    | true =>
      obtain ⟨a, _, _, _, _, _, e, _⟩ := h
      exact .inr ⟨rfl, a, e⟩
  have out : ∀ {σ' : L2.St} {H' Hb' : Hp} {e : Env'}, Agr W Fm Hb' ia e σ' H' → OutF W Hb' H' ia (outOf io e) := fun {σ' H' Hb' e} A => by
    rcases hio with ⟨rfl, rfl⟩ | ⟨rfl, a, rfl⟩
    · trivial
    · obtain ⟨d, q⟩ := A.ioh a rfl
      obtain ⟨_, a', e1, e2⟩ := A.io 0 d q
      cases e1
      obtain ⟨b, g1, g2, g3, g4⟩ := A.own 0 d (.inr q)
      rw [e2] at g1
      cases g1
      have eo : outOf true e = some d := by unfold outOf; dsimp only; rw [q]
      rw [eo]
      exact ⟨g2, g4⟩
  unfold runF at p
  cases q : f (env0 io n ds) with
  | err x => rw [q] at p; exact p
  | bad => rw [q] at p; exact p.elim
  | ok r =>
    obtain ⟨fl, e⟩ := r
    rw [q] at p
    cases fl with
    | nx => exact fun σ' H' Hb' s A => p .non H' Hb' s A.bs rfl (out A)
    | bk => exact p.elim
    | ct => exact p.elim
    | rt val =>
      refine fun σ' H' Hb' s A v hv => p v H' Hb' s A.bs ?_ (out A)
      cases val with
      | imm d => exact hv
      | fresh d =>
        obtain ⟨z, rfl, h1, h2, h3, h4⟩ := hv
        refine ⟨z, rfl, h1, h2, h3, fun ei => ?_⟩
        obtain ⟨d', q'⟩ := A.ioh z ei
        obtain ⟨_, a', e1, e2⟩ := A.io 0 d' q'
        rw [ei] at e1
        cases e1
        exact h4 0 d' (.inr q') e2
end

/-- a def by its body -/
theorem fn_body {P : Program} {w : World} {K : PySem.W.Frag} {mg : Str → Option Value} {base : Heap} {k : Nat} {f : Addr} {name qual : Str} {params : Arguments} {body : List Stmt} {scope : Scope} {dV kV doc pm cdv ct oc : Value} {an od : Option Addr} {osl : Array (Option Value)} {N ps : List Str} {io : Bool} {fb : DS}
    (lk : K.lookup f = some ⟨oc, od, .func (PySem.W.fnOf name qual params body scope dV kV doc pm an cdv ct), osl⟩) (hcd : PySem.W.codeIn K cdv qual = true) (S : FnScope N ps scope)
    (hbody : ∀ (A : Around) (outer : List Env) (s : Shared) (H : Hp) (E : XK), A.guards = some [] → Room k (A.deeper (envOfC qual scope s.heap.objs.size f cdv)) → SSs (cxOf (L2.CX P w) P w K mg base N qual scope f cdv A outer s H E) E body fb) :
    FnG P w K mg base (k + 1) f (PySem.W.fnOf name qual params body scope dV kV doc pm an cdv ct) ps (spF ⟨K, mg⟩ ps.length io (runF io N.length fb)) where
  len := fun vs H Q E ⟨_, _, _, _, _, hl, _⟩ => hl
  run := fun A outer s H args us vs Q E hg hr e0 hb r hsp => by
    obtain ⟨Fm, Hb, ds, ia, bs, hl, ha, hp⟩ := hsp
    have inK : K.In s.heap := e0.mod.kin.keeps fun b o e => (e0.bs b o e).1
    have nolim : s.heap.NoLimit := e0.mod.nolimit.keeps fun b o e => (e0.bs b o e).1
    refine codeAny_call_function hr.depth (inK _ _ lk) rfl S.co S.gen rfl (PySem.W.codeRec_of inK hcd) (hb _ _ _ _ ?_)
    refine wpAny_newFunctionEnv_cells S.kind (fun z hz => ?_) fun env he s1 x => ?_
    · obtain ⟨n, v⟩ := z
      rcases S.par n (List.of_mem_zip hz).1 with q | q
      · exact .inl q
      · exact .inr ⟨q, PySem.W.cellsFrom_some _ _ _ (.inl q)⟩
    · subst he
      refine ⟨nolim.keeps x.toInCall.keep, codeAny_func ?_⟩
      have hpl : ps.length ≤ N.length := by
        have := congrArg List.length S.pre
        rw [List.length_take] at this
        omega
      have ht := hbody A outer s H E hg (hr.deeper _)
      have J0 := inv_start (CX := L2.CX P w) (P := P) (w := w) (N := N) (outer := outer) (E := E) S hr.hd e0 hl r x
      refine wpAny_mono (ht.run [] s1 (L2.start N vs) H { nx := fun _ H' => Q .non H', rt := Q } J0 ⟨Fm, Hb, ia, env0 io N.length ds, agr_start bs (by omega) ha, end_ok ha hp⟩) (fun fl s' hs => ?_) fun e s' hs => hs
      cases fl with
      | ret u =>
        obtain ⟨v, σ', H', J, rv, q⟩ := hs
        exact ⟨v, H', J.os, J.bare, J.base, J.hok, rv, q⟩
      | next =>
        obtain ⟨σ', H', J, q⟩ := hs
        exact ⟨V.non, H', J.os, J.bare, J.base, J.hok, rfl, q⟩
      | brk =>
        obtain ⟨_, _, _, q⟩ := hs
        exact q.elim
      | cont =>
        obtain ⟨_, _, _, q⟩ := hs
        exact q.elim

/-! ### the law's head -/
/-- the law's def runs on the heap behind the top -/
theorem law_at {P : Program} {w : World} {K : PySem.W.Frag} {mg mb : Str → Option Value} {k : Nat} {fa a : Addr} {fd : FuncData} {x : Str} {sp : Sp} {sh : Shared} {us : List Value} {ns : List Int}
    (inK : K.In sh.heap) (hmain : sh.heap.Ns mainGlobals mg) (hbi : sh.heap.Ns builtinsNs mb) (hboot : ∀ y : Str, y ≠ "__name__" → mb y = bootBuiltins y) (nolim : sh.heap.NoLimit) (hgen : sh.gens = #[])
    (hscr : sh.heap.get? a = some { cls := .type "list", data := .seq us.toArray }) (hi : IntsAre us ns) (hlen : ns.length ≤ sizeLine) (room : Room k callerA)
    (nodig : sh.heap.NoDigits) (F : ∀ b : Heap, K.In b → b.Ns mainGlobals mg → b.NoDigits → FnG P w K mg b k fa fd [x] sp) (bnd : ∀ (t : Shared) (u : Value), BindsTo t fd ⟨[u], []⟩ [(x, u)])
    (hs : ∀ H : Hp, Only H → SqL K H a (ns.map V.int) → sp [.ref a] H (fun v _ => v = .bl true) fun _ _ _ => False) :
    codeAny (model P w) callerA (.call (.ref fa) ⟨[.ref a], []⟩) (fun r t => r = .ok (.ret (.bool true)) ∧ OldK sh.heap t.heap ∧ t.os = sh.os ∧ AllBare t.gens) sh := by
  have vals := vals_ints hi
  have hln := hi.length
  -- H tracks at most the script
  have go : ∀ H : Hp, Only H → SqL K H a (ns.map V.int) → HOk P w H sh.heap → (∀ b, H b ≠ none → b = a) → (H a ≠ none → K.lookup a = none) →
      codeAny (model P w) callerA (.call (.ref fa) ⟨[.ref a], []⟩) (fun r t => r = .ok (.ret (.bool true)) ∧ OldK sh.heap t.heap ∧ t.os = sh.os ∧ AllBare t.gens) sh := by
    intro H only scr hokH onlyA notK
    have notDict : ∀ {b : Addr} {o : Obj} {es : Array DictEntry} {ep : Nat}, sh.heap.get? b = some o → o.data = .dict es ep → H b = none := fun {b o es ep} e d => by
      cases q : H b with
      | none => rfl
      | some u =>
        obtain rfl : b = a := onlyA b (by rw [q]; simp)
        rw [hscr] at e
        cases e
        exact nomatch (show Data.seq us.toArray _ = Data.dict es ep from d)
    have ns' : ∀ {b : Addr} {m : Str → Option Value}, sh.heap.Ns b m → (hidT sh.heap H).Ns b m := fun {b m} ⟨o, es, ep, e, d, r⟩ => ⟨o, es, ep, hidT_get e (notDict e d), d, r⟩
    have inB : K.In (hidT sh.heap H) := fun b o e => hidT_get (inK b o e) (by
      cases q : H b with
      | none => rfl
      | some u =>
        obtain rfl : b = a := onlyA b (by rw [q]; simp)
        rw [notK (by rw [q]; simp)] at e
        cases e)
    obtain ⟨mc, l1, l2⟩ := nolim
    have env : Env0 P w K mg (hidT sh.heap H) callerA [] sh H := ⟨rfl, ⟨inB, ns' hmain, ⟨mb, ns' hbi, hboot⟩, mc, ns' l1, l2⟩, fun b o e => of_hidT e, Nat.le_of_eq (hidT_size _ _), trivial, fun b hb => (nomatch (show b ∈ ([] : List Addr) from hb)), hokH, .of_eq hgen⟩
    refine codeAny_mono ((F _ inB (ns' hmain) (let ⟨mk, d1, d2⟩ := nodig; ⟨mk, ns' d1, d2⟩)).run callerA [] sh H ⟨[.ref a], []⟩ [.ref a] [.ref a] _ _ rfl room env (bnd sh (.ref a)) (.cons rfl .nil) (hs H only scr)) fun r t h => ?_
    cases r with
    | error e =>
      obtain ⟨_, _, _, _, _, _, _, _, _, _, _, _, no⟩ := h
      exact no.elim
    | ok fl =>
      cases fl with
      | next => exact h.elim
      | brk => exact h.elim
      | cont => exact h.elim
      | ret u =>
        obtain ⟨v, H', os, bare, un, hok', rl, q⟩ := h
        obtain rfl : v = .bl true := q
        obtain rfl : u = Value.bool true := rl
        refine ⟨rfl, OldK.of_keep fun b o e => ?_, os, bare⟩
        rcases only b with z | ⟨ob, xs, z⟩
        · exact un.keep b o e z (fun y => nomatch (show b ∈ ([] : List Addr) from y)) (by simp)
        · obtain ⟨e1, _⟩ := hokH b _ z
          obtain ⟨e2, _⟩ := hok' b _ (un.frzs b ob _ z)
          rw [e] at e1
          cases e1
          exact e2
  cases hk : K.lookup a with
  | some o =>
    have e := inK a o hk
    rw [hscr] at e
    cases e
    exact go (fun _ => none) (fun _ => .inl rfl) (.inr ⟨_, us.toArray, _, hk, rfl, rfl, rfl, by rw [List.size_toArray, hln]; exact hlen, by simpa using vals⟩) (fun b u z => nomatch (show (none : Option HO) = some u from z)) (fun b z => absurd rfl z) fun z => absurd rfl z
  | none =>
    have at' : ∀ b u, (fun b => if b = a then some (HO.frz { cls := .type "list", data := .seq us.toArray } (.lst (ns.map V.int))) else none : Hp) b = some u → b = a ∧ u = HO.frz { cls := .type "list", data := .seq us.toArray } (.lst (ns.map V.int)) := fun b u z => by
      by_cases hb : b = a
      · exact ⟨hb, Option.some.inj (z.symm.trans (if_pos hb))⟩
      · exact nomatch z.symm.trans (if_neg hb)
    refine go (fun b => if b = a then some (.frz { cls := .type "list", data := .seq us.toArray } (.lst (ns.map V.int))) else none) (fun b => ?_) (.inl (.inr ⟨{ cls := .type "list", data := .seq us.toArray }, if_pos rfl⟩)) (fun b u z => ?_) (fun b z => ?_) fun _ => hk
    · by_cases hb : b = a
      · exact .inr ⟨_, _, if_pos hb⟩
      · exact .inl (if_neg hb)
    · obtain ⟨rfl, rfl⟩ := at' b u z
      exact ⟨hscr, by rw [List.length_map]; exact hlen, us, _, vals, hscr⟩
    · by_cases hb : b = a
      · exact hb
      · exact absurd (if_neg hb) z
/-- what is wanted of the law's data function -/
def LawTrue (F : List Dt → FR) (n : Nat) : Prop := ∀ ns : List Int, ns.length ≤ n → ∃ val, F [.scr ns] = .ok (val, none) ∧ val = .imm (.bl true)
theorem walk_G {l : PySem.W.OpenLaw} {n k : Nat} {q : Program} {loose : List Str} {XP : (Str → Option Value) → Heap → Prop} {YP : World → Heap → Prop} {d : DefRec} {K : Params → PySem.W.Frag} {F : List Dt → FR} {x : Str}
    (hn : l.most = some n) (hn2 : n ≤ sizeLine) (hdf : d.params.defaults = []) (room : Room k callerA) (hY : ∀ (w : World) (h : Heap), YP w h → (K w.params).In h)
    (Fo : ∀ (w : World) (mg : Str → Option Value) (fa : Addr) (h : Heap), (K w.params).In h → h.Ns mainGlobals mg → mg d.name = some (.ref fa) →
      ∃ fd : FuncData, (∀ (s : Shared) (u : Value), BindsTo s fd ⟨[u], []⟩ [(x, u)]) ∧ ∀ base : Heap, (K w.params).In base → base.Ns mainGlobals mg → base.NoDigits → FnG l.prog w (K w.params) mg base k fa fd [x] (spF ⟨K w.params, mg⟩ 1 false F))
    (hF : LawTrue F n) : PySem.W.WalkO q loose XP YP l.row.toRowW d [] (fun f vs => PySem.call f vs) := by
  refine Att.attach_call hn hdf fun w s₀ s₁ mg mb fa o pm cd doc a vs ns G Y ho hd hcd hmg hobj hints hlen hg => ?_
  have inK := hY w _ Y
  obtain ⟨fd, hb, hFo⟩ := Fo w mg fa _ inK G.T.g hmg
  refine law_at inK G.T.g G.T.b G.T.builtins G.T.nolimit hg hobj hints (Nat.le_trans hlen hn2) room G.T.nodigits hFo hb fun H only scr => ?_
  obtain ⟨val, hv, rfl⟩ := hF ns hlen
  refine ⟨fun _ => none, H, [.scr ns], none, ⟨Same.refl _, fun _ _ e => (nomatch e), fun _ _ e => (nomatch e), fun _ _ e => (nomatch e)⟩, rfl, ⟨rfl, _, _, rfl, ⟨a, rfl, scr⟩, rfl⟩, ?_⟩
  rw [hv]
  exact fun v H' Hb' s b hv _ => hv
end G


set_option maxRecDepth 100000
set_option maxHeartbeats 4000000
/-! Kern13: repr of data, its ints of up to 3880 digits. -/
namespace G
open PySem PySem.Spec PyProof.Rows L2

/-! ### what may be shown, and how long it grows -/
mutual
def okP : PyData → Bool
  | .none => true
  | .bool _ => true
  | .int i => decide (i.natAbs < 2 ^ 12900)
  | .str _ => true
  | .list xs => okPs xs
  | .tuple xs => okPs xs
  | .dict _ => false
def okPs : List PyData → Bool
  | [] => true
  | x :: xs => okP x && okPs xs
end
mutual
def wtP : PyData → Nat
  | .none => 5
  | .bool _ => 5
  | .int _ => 12901
  | .str x => (reprText x).length
  | .list xs => 2 + wtPs xs
  | .tuple xs => 3 + wtPs xs
  | .dict _ => 0
def wtPs : List PyData → Nat
  | [] => 0
  | x :: xs => (wtP x + 2) + wtPs xs
end
theorem text_len : ∀ (ts : List Str) (k : Nat) (acc : Str), (textFrom k acc ts).length ≤ acc.length + (ts.map fun t => t.length + 2).sum
  | [], k, acc => Nat.le_refl _
  | t :: r, k, acc => by
    have h := text_len r (k + 1) (acc ++ (if k > 0 then ", " else "" : String) ++ t)
    have e : (acc ++ Str.ofString (if k > 0 then ", " else "" : String) ++ t).length ≤ acc.length + 2 + t.length := by
      rw [strLen_append, strLen_append]
      have : (Str.ofString (if k > 0 then ", " else "" : String)).length ≤ 2 := by split <;> decide
      omega
    show (textFrom (k + 1) (acc ++ (if k > 0 then ", " else "" : String) ++ t) r).length ≤ _
    rw [List.map_cons, List.sum_cons]
    omega
theorem piled_sum : ∀ ts : List Str, piled ts = (ts.map fun t => t.length + 2).sum
  | [] => rfl
  | t :: r => by
    rw [List.map_cons, List.sum_cons, ← piled_sum r]
    simp [piled]
mutual
theorem shown_le : ∀ d : PyData, okP d = true → d.shown.length ≤ wtP d
  | .none, _ => by simp only [PyData.shown, wtP]; decide
  | .bool b, _ => by cases b <;> (simp only [PyData.shown, wtP]; decide)
  | .int i, h => by
    have h' : i.natAbs < 2 ^ 12900 := of_decide_eq_true h
    have hl : i.natAbs.log2 < 12900 := by
      by_cases h0 : i.natAbs = 0
      · rw [h0]; decide
      · exact (Nat.log2_lt h0).mpr h'
    have e := int_text_length_le (k := 12900) (by decide) hl
    simp only [PyData.shown, wtP]
    rw [PySem.ofString_length]
    exact e
  | .str x, _ => by simp only [PyData.shown, wtP]; exact Nat.le_refl _
  | .list xs, h => by
    have e := showns_le xs h
    have t := text_len (PyData.shownAll xs) 0 "["
    simp only [PyData.shown, wtP]
    show (textFrom 0 "[" (PyData.shownAll xs) ++ Str.ofString "]").length ≤ _
    rw [strLen_append]
    have e1 : (Str.ofString "[").length = 1 := by decide
    have e2 : (Str.ofString "]").length = 1 := by decide
    omega
  | .tuple xs, h => by
    have e := showns_le xs h
    rw [← piled_sum] at e
    simp only [PyData.shown, wtP]
    unfold tupleText
    rw [strLen_append, strLen_append]
    have e1 : (Str.ofString "(").length = 1 := by decide
    have e2 : (Str.ofString (if (PyData.shownAll xs).length == 1 then ",)" else ")")).length ≤ 2 := by split <;> decide
    have e3 : (Str.join ", " (PyData.shownAll xs)).length ≤ piled (PyData.shownAll xs) := by
      by_cases hn : PyData.shownAll xs = []
      · rw [hn]; decide
      · have := join_length_add _ hn
        omega
    omega
  | .dict _, h => by cases h
theorem showns_le : ∀ ds : List PyData, okPs ds = true → ((PyData.shownAll ds).map fun t => t.length + 2).sum ≤ wtPs ds
  | [], _ => by simp [PyData.shownAll, wtPs]
  | x :: xs, h => by
    obtain ⟨h1, h2⟩ := (Bool.and_eq_true _ _).mp (show (okP x && okPs xs) = true from h)
    have e1 := shown_le x h1
    have e2 := showns_le xs h2
    simp only [PyData.shownAll, wtPs, List.map_cons, List.sum_cons]
    omega
end

/-! ### the interpreter's own code for it -/
section
variable {prog : Program} {w : World}
theorem lt_digits {i : Int} (h : i.natAbs < 2 ^ 12900) : i.natAbs < 10 ^ 4300 := Nat.lt_of_lt_of_le h pow_lo
theorem int_shown {A : Around} {E : Value → Shared → Prop} {s : Shared} {i : Int} {t : Tok} {Q : Value → Shared → Prop} (hn : s.heap.NoDigits) (hi : i.natAbs < 10 ^ 4300) (h : Q (.str (toString i) s.toks) { s with toks := s.toks + 1 }) :
    wpAny (model prog w) A (call (.builtin "int.__repr__") [.int i t]) Q E s := by
  refine wpAny_call (codeAny_call_builtin F.slot_int_repr.plain F.entry_int_repr (F.slot_int_repr.check _ _ _ _ _ _ _ _ (typeIs_int s i t) (F.args_int_repr_1 _) ?_))
  unfold Builtin.«int.__repr__»
  show wpAny _ _ (do let r ← Builtin.overDigitLimit? i; _) _ _ s
  refine wpAny_bind (overDigitLimit_any hn (fun hlt => ?_) fun hge => absurd hi (Nat.not_lt.mpr hge))
  exact wpAny_bind (wpAny_mkStr (wpAny_pure h) (int_text_fits10 hlt))
theorem obj_int_shown {A : Around} {E : Value → Shared → Prop} {s : Shared} {i : Int} {t : Tok} {Q : Value → Shared → Prop} (hn : s.heap.NoDigits) (hi : i.natAbs < 10 ^ 4300) (h : Q (.str (toString i) s.toks) { s with toks := s.toks + 1 }) :
    wpAny (model prog w) A (pyReprObj (.int i t)) Q E s := by
  have hv : [Value.int i t].any Value.onHeap = false := rfl
  unfold pyReprObj
  simp only [cRoomFor, hv, Bool.false_eq_true, if_false, pure_bind]
  refine wpAny_bind (wpAny_specialOf (name := Str.ofString "__repr__") (typeIs_int s i t) F.slot_int_repr.lookup ?_)
  refine wpAny_bind (m := callSpecialIfBound? (.int i t) (Str.ofString "__repr__")) (wpAny_callSpecialIfBound?_slot (name := Str.ofString "__repr__") (typeIs_int s i t) F.slot_int_repr (int_shown hn hi ?_))
  exact wpAny_bind (wpAny_isInstance (T := "str") (b := true) rfl isSubtype_str_str (wpAny_pure h))
theorem ks_int {h₀ : Heap} {as : List Addr} {d : Nat} {i : Int} {t : Tok} (hn : h₀.NoDigits) (hi : i.natAbs < 10 ^ 4300) : ReprK prog w as h₀ d (.int i t) (toString i) := fun b hb A g E s Q _ _ _ hk hQ => by
  rw [pyReprUnder_leaf (v := .int i t) (by omega) fun _ e => nomatch e]
  unfold pyRepr
  exact wpAny_bind (obj_int_shown (hn.keeps hk) hi (wpAny_pure (hQ s.heap _ fun _ _ e => e)))
variable {h₀ : Heap}
mutual
theorem ks_of (hn : h₀.NoDigits) : ∀ {v : Value} {d : PyData} {as : List Addr}, Reads h₀ v d as → okP d = true → d.shown.length ≤ sizeLine → ∃ bs, ReadAtMost h₀ d.depth bs ∧ ReprK prog w bs h₀ d.depth v d.shown
  | _, _, _, .none, _, _ => ⟨[], (fun _ h => nomatch h), .of_is (by rw [PyData.shown]; exact ReprIs.none) _ _ _⟩
  | _, _, _, .bool b, _, _ => ⟨[], (fun _ h => nomatch h), .of_is (by rw [PyData.shown]; exact ReprIs.bool b) _ _ _⟩
  | _, _, _, .int i t, h, _ => ⟨[], (fun _ h => nomatch h), by rw [PyData.shown]; exact ks_int hn (lt_digits (of_decide_eq_true h))⟩
  | _, _, _, .str x t, _, z => ⟨[], (fun _ h => nomatch h), .of_is (by rw [PyData.shown] at z ⊢; exact ReprIs.str x t z) _ _ _⟩
  | _, _, _, .list (a := a) (vs := us) (xs := xs) e1 e2 e3 e4, h, z => by
    rw [PyData.shown] at z
    have r : Reads h₀ (.ref a) (.list xs) _ := .list e1 e2 e3 e4
    obtain ⟨bs, rb, ks⟩ := kss_of hn e4 h fun t ht => Nat.le_trans (listText_mem_le ht) z
    have hd : (PyData.list xs).depth = PyData.depthAll xs + 1 := by rw [PyData.depth] <;> omega
    have na : a ∉ bs := not_mem_of_deeper r (by rw [hd]; exact Nat.lt_succ_self _) rb
    refine ⟨a :: bs, rb.cons r (by rw [hd]; exact Nat.le_succ _), ?_⟩
    rw [PyData.shown, hd]
    obtain ⟨l⟩ := us
    cases l with
    | nil =>
      have e4' : ReadsAll h₀ [] xs _ := e4
      cases e4'
      rw [PyData.shownAll, listText_nil]
      exact .listEmpty e1 e2 e3
    | cons y l => exact .list e1 e2 e3 na (by simpa using ks.length_eq) fun i y e => ks.item i y (by simpa using e)
  | _, _, _, .tuple (a := a) (xs := xs) e1 e2 e3 e4, h, z => by
    rw [PyData.shown] at z
    have r : Reads h₀ (.ref a) (.tuple xs) _ := .tuple e1 e2 e3 e4
    obtain ⟨bs, rb, ks⟩ := kss_of hn e4 h fun t ht => Nat.le_trans (tupleText_mem_le ht) z
    have hd : (PyData.tuple xs).depth = PyData.depthAll xs + 1 := by rw [PyData.depth] <;> omega
    have na : a ∉ bs := not_mem_of_deeper r (by rw [hd]; exact Nat.lt_succ_self _) rb
    refine ⟨a :: bs, rb.cons r (by rw [hd]; exact Nat.le_succ _), ?_⟩
    rw [PyData.shown, hd]
    exact .tuple e1 e2 e3 na ks
  | _, _, _, .dict _ _ _ _ _, h, _ => nomatch h
theorem kss_of (hn : h₀.NoDigits) : ∀ {vs : List Value} {ds : List PyData} {as : List Addr}, ReadsAll h₀ vs ds as → okPs ds = true → (∀ t ∈ PyData.shownAll ds, t.length ≤ sizeLine) → ∃ bs, ReadAtMost h₀ (PyData.depthAll ds) bs ∧ ReprAllK prog w bs h₀ (PyData.depthAll ds) vs (PyData.shownAll ds)
  | _, _, _, .nil, _, _ => ⟨[], (fun _ h => nomatch h), .nil⟩
  | _, _, _, .cons (d := d) (ds := ds) r rs, h, z => by
    obtain ⟨h1, h2⟩ := (Bool.and_eq_true _ _).mp (show (okP d && okPs ds) = true from h)
    have es : PyData.shownAll (d :: ds) = d.shown :: PyData.shownAll ds := by rw [PyData.shownAll]
    have ed : PyData.depthAll (d :: ds) = max d.depth (PyData.depthAll ds) := by rw [PyData.depthAll]
    rw [es] at z ⊢
    rw [ed]
    obtain ⟨b1, g1, k1⟩ := ks_of hn r h1 (z _ List.mem_cons_self)
    obtain ⟨b2, g2, k2⟩ := kss_of hn rs h2 fun t ht => z t (List.mem_cons_of_mem _ ht)
    exact ⟨b1 ++ b2, (g1.mono (Nat.le_max_left _ _)).append (g2.mono (Nat.le_max_right _ _)), .cons ((k1.more fun b hb => List.mem_append_left _ hb).level_le (Nat.le_max_left _ _)) (k2.more_le (fun b hb => List.mem_append_right _ hb) (Nat.le_max_right _ _))⟩
end
end

/-! ### the call -/
def reprOk (p : PyData) : Bool := okP p && decide (wtP p ≤ sizeLine) && decide (p.depth ≤ 100)
def rRepr (K : PySem.W.Frag) : List V → Hp → VK → Prop := fun vs H Q => ∃ x p, vs = [x] ∧ Dp K H x p ∧ reprOk p = true ∧ Q (.str p.shown) H
theorem cr_repr {X : Cx} (hg : X.A.guards = some []) (hu : X.A.units + 150 < cLine) (hn : X.base.NoDigits) : CallR X (.builtin "repr") (rRepr X.K) := by
  intro pins s σ H xs us Q I rv h
  obtain ⟨x, p, rfl, hd, hp, q⟩ := h
  obtain ⟨u, rfl, ru⟩ := vals1 rv
  obtain ⟨as, r⟩ := Dp.reads I p x u hd ru
  unfold reprOk at hp
  rw [Bool.and_eq_true, Bool.and_eq_true, decide_eq_true_eq, decide_eq_true_eq] at hp
  obtain ⟨⟨h1, h2⟩, h3⟩ := hp
  have hz : p.shown.length ≤ sizeLine := Nat.le_trans (shown_le p h1) h2
  have hns : s.heap.NoDigits := hn.keeps I.bk
  have fin : ∀ h' v tk, (∀ b o, s.heap.get? b = some o → h'.get? b = some o) → EP X pins σ Q (.str p.shown v) { s with heap := h', toks := tk } := fun h' v tk hk => ⟨.str p.shown, H, I.kept hk, ⟨v, rfl⟩, q⟩
  have fin2 : ∀ v tk, EP X pins σ Q (.str p.shown v) { s with toks := tk } := fun v tk => fin s.heap v tk fun _ _ e => e
  have hu1 : X.A.units + 1 < cLine := by omega
  cases r with
  | none => exact PySem.P.repr_of_none (by rw [PyData.shown] at fin2; exact fin2 _ _)
  | bool b => exact PySem.P.repr_of_bool (by rw [PyData.shown] at fin2; exact fin2 _ _)
  | str y t => exact PySem.P.repr_of_str (by rw [PyData.shown] at fin2; exact fin2 _ _) (by rw [PyData.shown] at hz; exact hz)
  | int i t => exact call_repr_slot hu1 (typeIs_int s i t) F.slot_int_repr.toG (int_shown hns (lt_digits (of_decide_eq_true h1)) ⟨_, _, rfl, by rw [PyData.shown] at fin2; exact fin2 _ _⟩)
  | @list a o vs n xs as e1 e2 e3 e4 =>
    have r : Reads s.heap (.ref a) (.list xs) _ := .list e1 e2 e3 e4
    have ed : (PyData.list xs).depth = PyData.depthAll xs + 1 := by rw [PyData.depth] <;> omega
    rw [PyData.shown] at hz
    obtain ⟨bs, rb, ks⟩ := kss_of (prog := X.prog) (w := X.w) hns e4 h1 fun t ht => Nat.le_trans (listText_mem_le ht) hz
    have na : a ∉ bs := not_mem_of_deeper r (by rw [ed]; exact Nat.lt_succ_self _) rb
    refine call_repr_slot hu1 ⟨o, e1, e2⟩ F.slot_list_repr.toG ?_
    rw [PyData.shown] at fin
    obtain ⟨l⟩ := vs
    cases l with
    | nil =>
      have e4' : ReadsAll s.heap [] xs _ := e4
      cases e4'
      rw [PyData.shownAll, listText_nil] at fin
      exact call_list_repr_empty ⟨o, e1, e2⟩ e1 e3 ⟨_, _, rfl, fin s.heap _ _ fun _ _ e => e⟩
    | cons y l =>
      exact call_list_reprK e1 e2 e3 na (by simpa using ks.length_eq) (fun i y e => ks.item i y (by simpa using e)) (A := X.A.in1) (g := []) hg (fun b _ => Clear.nil b) (by show X.A.units + 1 + _ < _; omega) (fun _ _ e => e) (fun h' v tk hk => ⟨_, _, rfl, fin h' v tk hk⟩) hz
  | @tuple a o vs n xs as e1 e2 e3 e4 =>
    have r : Reads s.heap (.ref a) (.tuple xs) _ := .tuple e1 e2 e3 e4
    have ed : (PyData.tuple xs).depth = PyData.depthAll xs + 1 := by rw [PyData.depth] <;> omega
    rw [PyData.shown] at hz
    obtain ⟨bs, rb, ks⟩ := kss_of (prog := X.prog) (w := X.w) hns e4 h1 fun t ht => Nat.le_trans (tupleText_mem_le ht) hz
    have na : a ∉ bs := not_mem_of_deeper r (by rw [ed]; exact Nat.lt_succ_self _) rb
    rw [PyData.shown] at fin
    exact call_repr_slot hu1 ⟨o, e1, e2⟩ F.slot_tuple_repr (call_tuple_reprK e1 e2 e3 na ks (A := X.A.in1) (g := []) hg (fun b _ => Clear.nil b) (by show X.A.units + 1 + _ < _; omega) (fun _ _ e => e) (fun h' v tk hk => ⟨_, _, rfl, fin h' v tk hk⟩) hz)
  | dict _ _ _ _ _ => cases h1
def bRepr : List Dt → Res Val
  | [d] => match dToP d with
    | some p => if reprOk p = true then .ok (.imm (.str p.shown)) else .bad
    | none => .bad
  | _ => .bad
theorem cas_repr {W : Wd} : CaS W (rRepr W.K) bRepr := by
  intro EX Fm Hb ia env σ H ds vs Q A r p
  unfold bRepr at p
  split at p
  · rename_i d
    split at p
    · rename_i q hq
      split at p
      · rename_i hok
        obtain ⟨v, rfl, h1⟩ := r.one
        exact ⟨v, q, rfl, (RdD.mono A.bs.hb _ _ h1).dp hq, hok, Post.imm p A rfl⟩
      · exact p.elim
    · exact p.elim
  · exact p.elim
end G


set_option maxRecDepth 100000
set_option maxHeartbeats 4000000
/-! Kern14: what a def of the text needs: its arguments' shape, its body; isinstance; names of the module. -/
namespace G
open PySem PySem.Spec PyProof.Rows L2

section
variable {X : Cx} {EX : XK} {pos p p1 p2 p3 tpos : Pos} {e a b c : Expr} {f fa fb fc : DE}
/-! ### small things -/
def opNeg : Dt → Res Val
  | .int i => vI (-i)
  | _ => .bad
def dUn (g : Dt → Res Val) (f : DE) : DE := fun env => (f env).bind fun p => (g p.1.d).map fun v => (v, p.2)
theorem se_neg (ha : SE X EX a f) : SE X EX (.UnaryOp .USub a pos) (dUn opNeg f) := pe_mono (pe_un un_neg ha) fun σ H Q ⟨Fm, Hb, ia, env, A, p⟩ =>
  ⟨Fm, Hb, ia, env, A, Post.bindV p fun va e1 x H1 Hb1 s1 A1 r1 q1 => by
    dsimp only at q1
    generalize va.d = d at q1 r1
    cases d <;> first
      | exact q1.elim
      | skip
    rename_i i
    exact ⟨i, r1, Post.imm q1 A1 rfl⟩⟩
theorem se_chain {op op' : CmpOp} {r r' : R2} {g g' : Dt → Dt → Res Val} (ho : OpR X (compareOp op) r) (ho' : OpR X (compareOp op') r') (hs : OpS (wd X) r g) (hs' : OpS (wd X) r' g') (ha : SE X EX a fa) (hb : SE X EX b fb) (hc : SE X EX c fc) (hm : lastMarks [op, op'] [b, c] = false) :
    SE X EX (.Compare a [op, op'] [b, c] pos) (dChain g g' fa fb fc) := pe_mono (pe_chain ho ho' ha hb hc hm) (rd_chain hs hs')
theorem st_chain {op op' : CmpOp} {r r' : R2} {g g' : Dt → Dt → Res Val} (ho : OpR X (compareOp op) r) (ho' : OpR X (compareOp op') r') (hs : OpS (wd X) r g) (hs' : OpS (wd X) r' g') (ha : SE X EX a fa) (hb : SE X EX b fb) (hc : SE X EX c fc) (hm : lastMarks [op, op'] [b, c] = false) :
    ST X EX (.Compare a [op, op'] [b, c] pos) (dTest (dChain g g' fa fb fc)) := pt_mono (pt_chain ho ho' ha hb hc hm) fun σ H Q h => by
  have q := rd_test (W := wd X) σ H Q h
  exact rd_chain hs hs' σ H _ q
theorem se_int {i : Int} {j} : SE X EX (.Constant (.int i) j pos) (dC (.int i)) := se_c pe_int rfl
theorem se_bl {i : Bool} {j} : SE X EX (.Constant (.bool i) j pos) (dC (.bl i)) := se_c pe_bl rfl
theorem se_non {j} : SE X EX (.Constant .none j pos) (dC .non) := se_c pe_non rfl
theorem se_str {x : Str} {j} : SE X EX (.Constant (.str x) j pos) (dC (.str x)) := se_c pe_str rfl
theorem se_glob {x : Str} {v : V} {u : Value} {d : Dt} (hg : Gl X x) (hm : X.mg x = some u) (r : RelV v u) (hd : flatD v = some d) (hb : (x == ("__debug__" : Str)) = false) : SE X EX (.Name x pos) (dC d) := se_c (pe_glob hg hm r hb) hd

/-! ### isinstance -/
def tyS : Dt → Option String
  | .non => some "NoneType"
  | .bl _ => some "bool"
  | .int _ => some "int"
  | .str _ => some "str"
  | .lst _ => some "list"
  | .scr _ => some "list"
  | .tup _ => some "tuple"
  | .dct _ _ => some "dict"
  | .dcf _ _ => none
  | .obj _ _ _ => none
theorem tyS_rd {W : Wd} {H : Hp} {d : Dt} {v : V} {t : String} (r : RdD W H d v) (h : tyS d = some t) : TyX W.K H v (.type t) := by
  cases d with
  | non => cases h; cases (show v = .non from r); exact .base .non
  | bl b => cases h; cases (show v = .bl b from r); exact .base (.bl b)
  | int i => cases h; cases (show v = .int i from r); exact .base (.int i)
  | str x => cases h; cases (show v = .str x from r); exact .base (.str x)
  | lst ds =>
    cases h
    obtain ⟨a, vs, rfl, h1, _⟩ := r
    exact .base (.lst h1)
  | scr ns =>
    cases h
    obtain ⟨a, rfl, h1⟩ := r
    rcases h1 with (h1 | ⟨o, h1⟩) | ⟨o, us, n, h1, h2, _⟩
    · exact .base (.lst h1)
    · exact .base (.frz h1)
    · exact .kList h1 h2
  | tup ds =>
    cases h
    obtain ⟨a, vs, rfl, h1, _⟩ := r
    exact .base (.tup h1)
  | dct ks ds =>
    cases h
    obtain ⟨a, rfl, kk, vs, h1, _⟩ := r
    exact .base (.dT h1)
  | dcf _ _ => cases h
  | obj _ _ _ => cases h
def isiD (T : String) (d : Dt) : Res Val := match (tyS d).bind fun t => kitB t T with
  | some b => vB b
  | none => .bad
def isiD2 (T U : String) (d : Dt) : Res Val := match (tyS d).bind fun t => kitB t T, (tyS d).bind fun t => kitB t U with
  | some b, some c => vB (b || c)
  | _, _ => .bad
theorem isi_of {T : String} {d : Dt} {b : Bool} (h : ((tyS d).bind fun t => kitB t T) = some b) : ∃ t, tyS d = some t ∧ kitB t T = some b := Option.bind_eq_some_iff.mp h
theorem se_isi {x y : Str} {T : String} (hg : Gl X x) (hm : X.mg x = none) (hv : bootBuiltins x = some (.builtin "isinstance")) (hn : x ≠ "__name__") (hdb : (x == ("__debug__" : Str)) = false)
    (hg2 : Gl X y) (hm2 : X.mg y = none) (hv2 : bootBuiltins y = some (.type T)) (hn2 : y ≠ "__name__") (hdb2 : (y == ("__debug__" : Str)) = false) (ha : SE X EX a f) (hst : isStar a = false) :
    SE X EX (.Call (.Name x p) [a, .Name y p1] [] pos) (dUn (isiD T) f) := by
  have hA : PA X [a, .Name y p1] (tCons (rdE (wd X) EX f) (tCons (tC (.ty T)) tNil)) := pa_cons ha (pa_cons (pe_bltn hg2 hm2 hv2 rfl hn2 hdb2) pa_nil (star_no rfl)) (star_no hst)
  refine pe_mono (pe_callB call_isi hg hm hv hA hn hdb (star_no hst) (star_none rfl)) fun σ H Q ⟨Fm, Hb, ia, env, A, p⟩ => ?_
  refine ⟨Fm, Hb, ia, env, A, Post.bindV p fun va e1 v H1 Hb1 s1 A1 r1 q1 => ?_⟩
  dsimp only [isiD] at q1
  split at q1
  · rename_i b hb
    obtain ⟨t, h1, h2⟩ := isi_of hb
    exact ⟨v, .ty T, .type t, .type T, b, rfl, .ty T, tyS_rd (RdD.mono A1.bs.hb _ _ r1) h1, kit_ty h2, Post.imm q1 A1 rfl⟩
  · exact q1.elim
theorem se_isi2 {x y z : Str} {T U : String} {kk : Nat} (hg : Gl X x) (hm : X.mg x = none) (hv : bootBuiltins x = some (.builtin "isinstance")) (hn : x ≠ "__name__") (hdb : (x == ("__debug__" : Str)) = false)
    (hg2 : Gl X y) (hm2 : X.mg y = none) (hv2 : bootBuiltins y = some (.type T)) (hn2 : y ≠ "__name__") (hdb2 : (y == ("__debug__" : Str)) = false)
    (hg3 : Gl X z) (hm3 : X.mg z = none) (hv3 : bootBuiltins z = some (.type U)) (hn3 : z ≠ "__name__") (hdb3 : (z == ("__debug__" : Str)) = false) (ha : SE X EX a f) (hst : isStar a = false) :
    SE X EX (.Call (.Name x p) [a, .Tuple [.Name y p1, .Name z p2] kk tpos] [] pos) (dUn (isiD2 T U) f) := by
  have hA : PA X [a, .Tuple [.Name y p1, .Name z p2] kk tpos] (tCons (rdE (wd X) EX f) (tCons (tTup (tCons (tC (.ty T)) (tCons (tC (.ty U)) tNil))) tNil)) :=
    pa_cons ha (pa_cons (pe_tup (pa_cons (pe_bltn hg2 hm2 hv2 rfl hn2 hdb2) (pa_cons (pe_bltn hg3 hm3 hv3 rfl hn3 hdb3) pa_nil (star_no rfl)) (star_no rfl))) pa_nil (star_no rfl)) (star_no hst)
  refine pe_mono (pe_callB call_isiT hg hm hv hA hn hdb (star_no hst) (star_none rfl)) fun σ H Q ⟨Fm, Hb, ia, env, A, p⟩ => ?_
  refine ⟨Fm, Hb, ia, env, A, Post.bindV p fun va e1 v H1 Hb1 s1 A1 r1 q1 => ⟨by show 2 ≤ sizeLine; decide, fun t ht => ?_⟩⟩
  dsimp only [isiD2] at q1
  split at q1
  · rename_i b c hb hc
    obtain ⟨t1, h1, h2⟩ := isi_of hb
    obtain ⟨t2, h3, h4⟩ := isi_of hc
    rw [h1] at h3
    cases h3
    have hn := A1.bs.hb.free ht
    have A2 := A1.lay (o := .tup [.ty T, .ty U]) ht
    refine ⟨v, t, [.ty T, .ty U], .type t1, [.type T, .type U], b || c, rfl, upd_same, .cons (.ty T) (.cons (.ty U) .nil), tyS_rd (RdD.mono A2.bs.hb _ _ (RdD.mono (same_lay hn) _ _ r1)) h1, ?_, Post.imm (Post.mono (same_lay hn) q1) A2 rfl⟩
    refine kitAny_cons (kit_ty h2) (fun eb => kitAny_cons (kit_ty h4) (fun ec => ?_) fun ec => ?_) fun eb => ?_
    · rw [eb, ec]; exact kitAny_nil
    · rw [ec, Bool.or_true]
    · rw [eb, Bool.true_or]
  · exact q1.elim
end

/-! ### defs of the text -/
def Src.u (us ws : List Value) : Src → Value
  | .pos i => (us[i]?).getD .none
  | .kw j => (ws[j]?).getD .none
  | .cst _ _ => .none
def Src.plain : Src → Bool
  | .cst _ _ => false
  | _ => true
theorem src_rel {vs zs : List V} {us ws : List Value} (r1 : Vals vs us) (r2 : Vals zs ws) : ∀ {src : List Src}, src.all (Src.ok vs.length zs.length) = true → src.all Src.plain = true → Vals (src.map (Src.v vs zs)) (src.map (Src.u us ws))
  | [], _, _ => .nil
  | x :: src, h, k => by
    rw [List.all_cons, Bool.and_eq_true] at h k
    refine .cons ?_ (src_rel r1 r2 h.2 k.2)
    cases x with
    | pos i =>
      have hi : i < vs.length := of_decide_eq_true h.1
      have e1 := List.getElem?_eq_getElem hi
      obtain ⟨u, e2, r⟩ := r1.get e1
      show RelV ((vs[i]?).getD .non) ((us[i]?).getD .none)
      rw [e1, e2]
      exact r
    | kw i =>
      have hi : i < zs.length := of_decide_eq_true h.1
      have e1 := List.getElem?_eq_getElem hi
      obtain ⟨u, e2, r⟩ := r2.get e1
      show RelV ((zs[i]?).getD .non) ((ws[i]?).getD .none)
      rw [e1, e2]
      exact r
    | cst j v => cases k.1
section
variable {P : Program} {w : World} {K : PySem.W.Frag} {mg : Str → Option Value} {base : Heap} {x qual : Str} {st : Stmt} {f : Addr} {fd : FuncData} {N ps : List Str} {k : Nat}
theorem shape_of (F : Fun K x qual st f fd) (sh : Shape) (hok : sh.src.all (Src.ok sh.np sh.ks.length) = true) (hpl : sh.src.all Src.plain = true)
    (h : ∀ (kV doc pm : Value) (an : Option Addr) (cdv ct : Value) (us ws : List Value), us.length = sh.np → ws.length = sh.ks.length →
      bindArgs (PySem.W.fnOf x qual (defArgs st) (defBody st) (defScope st) .none kV doc pm an cdv ct) ⟨us, sh.ks.zip ws⟩ = pure (ps.zip (sh.src.map (Src.u us ws)))) : ShapeOk K fd ps sh (fun us ws => sh.src.map (Src.u us ws)) := by
  obtain ⟨oc, od, kV, doc, pm, an, cdv, ct, osl, rfl, lk, hcd⟩ := F.ex
  exact ⟨fun s us ws _ h1 h2 => .of_eq (h kV doc pm an cdv ct us ws h1 h2), fun r1 r2 h1 h2 => src_rel r1 r2 (by rw [h1, h2]; exact hok) hpl⟩
theorem binds_of (F : Fun K x qual st f fd) (n : Nat) (h : ∀ (kV doc pm : Value) (an : Option Addr) (cdv ct : Value) (us : List Value), us.length = n →
      bindArgs (PySem.W.fnOf x qual (defArgs st) (defBody st) (defScope st) .none kV doc pm an cdv ct) ⟨us, []⟩ = pure (ps.zip us)) : ∀ (s : Shared) (us : List Value), K.In s.heap → us.length = n → BindsTo s fd ⟨us, []⟩ (ps.zip us) := by
  obtain ⟨oc, od, kV, doc, pm, an, cdv, ct, osl, rfl, lk, hcd⟩ := F.ex
  exact fun s us _ hl => .of_eq (h kV doc pm an cdv ct us hl)
/-- a body's context -/
abbrev CB (P : Program) (w : World) (K : PySem.W.Frag) (mg : Str → Option Value) (base : Heap) (N : List Str) (qual : Str) (sc : Scope) (f : Addr) (cdv : Value) (A : Around) (outer : List Env) (s : Shared) (H : Hp) (E : XK) : Cx := cxOf (L2.CX P w) P w K mg base N qual sc f cdv A outer s H E
theorem fn_text {io : Bool} {fb : DS} (F : Fun K x qual st f fd) (S : FnScope N ps (defScope st))
    (hb : ∀ (cdv : Value) (A : Around) (outer : List Env) (s : Shared) (H : Hp) (E : XK), (A.deeper (envOfC qual (defScope st) s.heap.objs.size f cdv)).guards = some [] → Room k (A.deeper (envOfC qual (defScope st) s.heap.objs.size f cdv)) → SSs (CB P w K mg base N qual (defScope st) f cdv A outer s H E) E (defBody st) fb) :
    FnG P w K mg base (k + 1) f fd ps (spF ⟨K, mg⟩ ps.length io (runF io N.length fb)) := by
  obtain ⟨oc, od, kV, doc, pm, an, cdv, ct, osl, rfl, lk, hcd⟩ := F.ex
  exact fn_body lk hcd S fun A outer s H E hg hr => hb cdv A outer s H E hg hr
theorem pass_body {qual : Str} {sc : Scope} {cdv : Value} {A : Around} {outer : List Env} {s : Shared} {H : Hp} {E : XK} : Passes (L2.CX P w) (CB P w K mg base N qual sc f cdv A outer s H E) E := passes_call (takes_of rfl rfl rfl rfl) fun _ _ _ _ h => h
theorem pass_blk {X : Cx} : Passes (L2.CX X.prog X.w) X EN := fun _ _ _ _ _ _ _ h => by
  obtain ⟨_, _, _, _, _, _, _, _, _, _, _, _, no⟩ := h
  exact no.elim
theorem own_body {qual : Str} {sc : Scope} {cdv : Value} {A : Around} {outer : List Env} {s : Shared} {H : Hp} {E : XK} : PassesOwn (model P w) (CB P w K mg base N qual sc f cdv A outer s H E).A (CB P w K mg base N qual sc f cdv A outer s H E).env (CB P w K mg base N qual sc f cdv A outer s H E).xe := PassesOwn.leaving
end
/-! ### equality, of texts too -/
def eqS (neg : Bool) : Dt → Dt → Res Val
  | .str x, .str y => vB (if neg then !decide (V.str x = V.str y) else decide (V.str x = V.str y))
  | d, e => eqD neg d e
def rEqS (K : PySem.W.Frag) : R2 := fun x y H Q => rEqD K x y H Q ∨ rEq x y H Q
def rNeS (K : PySem.W.Frag) : R2 := fun x y H Q => rNeD K x y H Q ∨ rNe x y H Q
theorem op_eqS {X : Cx} (hu : X.A.units + 64 < cLine) : OpR X (compareOp .Eq) (rEqS X.K) := (op_eqD hu).or op_eq
theorem op_neS {X : Cx} (hu : X.A.units + 64 < cLine) : OpR X (compareOp .NotEq) (rNeS X.K) := (op_neD hu).or op_ne
theorem eqS_split (neg : Bool) (d e : Dt) : (∃ x y, d = .str x ∧ e = .str y) ∨ eqS neg d e = eqD neg d e := by
  cases d <;> first
    | exact .inr rfl
    | skip
  cases e <;> first
    | exact .inr rfl
    | exact .inl ⟨_, _, rfl, rfl⟩
theorem ops_eqS {W : Wd} : OpS W (rEqS W.K) (eqS false) := by
  intro EX Fm Hb ia env σ H d1 d2 x y Q A r1 r2 p
  rcases eqS_split false d1 d2 with ⟨a, b, rfl, rfl⟩ | e
  · cases (show x = V.str a from r1)
    cases (show y = V.str b from r2)
    exact .inr ⟨rfl, Post.imm p A rfl⟩
  · rw [e] at p
    exact .inl (ops_eq EX Fm Hb ia env σ H d1 d2 x y Q A r1 r2 p)
theorem ops_neS {W : Wd} : OpS W (rNeS W.K) (eqS true) := by
  intro EX Fm Hb ia env σ H d1 d2 x y Q A r1 r2 p
  rcases eqS_split true d1 d2 with ⟨a, b, rfl, rfl⟩ | e
  · cases (show x = V.str a from r1)
    cases (show y = V.str b from r2)
    exact .inr ⟨rfl, Post.imm p A rfl⟩
  · rw [e] at p
    exact .inl (ops_ne EX Fm Hb ia env σ H d1 d2 x y Q A r1 r2 p)
def fuel : Nat := 2 ^ 20000
theorem un64 {k : Nat} {A : Around} (hr : Room k A) : A.units + 64 < cLine := by have := hr.un; omega
theorem un150 {k : Nat} {A : Around} (hr : Room k A) : A.units + 150 < cLine := by have := hr.un; omega
end G


set_option maxRecDepth 100000
set_option maxHeartbeats 4000000
/-! Kern16: zip and enumerate over lists and tuples, mixed. -/
namespace G
open PySem PySem.Spec PyProof.Rows L2

/-! ### a list or a tuple (k: a tuple), its iterator -/
def Sq (K : PySem.W.Frag) (k : Bool) (H : Hp) (a : Addr) (xs : List V) : Prop := match k with
  | true => SqT K H a xs
  | false => SqL K H a xs
def Hs (k : Bool) (h : Heap) (a : Addr) (its : Array Value) : Prop := match k with
  | true => h.IsTuple a its
  | false => h.IsList a its
def Ht (k : Bool) (h : Heap) (it a : Addr) (i : Nat) : Prop := match k with
  | true => h.IsTupleIter it a i
  | false => h.IsListIter it a i
def itO (k : Bool) (a : Addr) : Obj := match k with
  | true => { cls := .type "tuple_iterator", data := .fields #[.ref a, .int 0 0] }
  | false => { cls := .type "list_iterator", data := .fields #[.ref a, .int 0 0] }
theorem sq_same {W : Wd} {H H' : Hp} {k : Bool} {a : Addr} {xs : List V} (e : Same H H') (h : Sq W.K k H a xs) : Sq W.K k H' a xs := by
  cases k with
  | true => exact same_t e h
  | false => exact same_l e h
theorem sq_inv {X : Cx} {pins : List (Addr × Obj)} {σ : L2.St} {H : Hp} {s : Shared} (I : Inv X pins σ H s) {k : Bool} {a : Addr} {xs : List V} (h : Sq X.K k H a xs) : ∃ its : List Value, Vals xs its ∧ Hs k s.heap a its.toArray := by
  cases k with
  | true =>
    obtain ⟨its, r, p, _⟩ := I.tuple h
    exact ⟨its, r, p⟩
  | false =>
    obtain ⟨its, r, p, _⟩ := I.list h
    exact ⟨its, r, p.isList⟩
theorem sq_inj {X : Cx} {pins : List (Addr × Obj)} {σ : L2.St} {H : Hp} {s : Shared} (I : Inv X pins σ H s) {k : Bool} {a : Addr} {xs ys : List V} (h : Sq X.K k H a xs) (h' : Sq X.K k H a ys) : xs = ys := by
  cases k with
  | true => exact I.tuple_inj h h'
  | false => exact I.list_inj h h'
theorem ht_at {k : Bool} {h h' : Heap} {it a : Addr} {i : Nat} (x : Ht k h it a i) (e : ∀ o, h.get? it = some o → h'.get? it = some o) : Ht k h' it a i := by
  cases k with
  | true => exact Heap.IsTupleIter.at x e
  | false => exact Heap.IsListIter.at x e
theorem ht_obj {k : Bool} {h : Heap} {it a : Addr} {i : Nat} (x : Ht k h it a i) : ∃ o, h.get? it = some o ∧ ∀ v, o.data ≠ .cell v := by
  cases k with
  | true =>
    obtain ⟨o, e, c, d⟩ := x
    exact ⟨o, e, fun v z => by rw [d] at z; cases z⟩
  | false =>
    obtain ⟨o, e, c, d⟩ := x
    exact ⟨o, e, fun v z => by rw [d] at z; cases z⟩
theorem ht_new {k : Bool} {h : Heap} {it a : Addr} (e : h.get? it = some (itO k a)) : Ht k h it a 0 := by
  cases k with
  | true => exact ⟨_, e, rfl, rfl⟩
  | false => exact ⟨_, e, rfl, rfl⟩
theorem dr_of {prog : Program} {w : World} {A : Around} (hh : A.handled = none) (k : Bool) (it a : Addr) (hne : a ≠ it) (items : Array Value) :
    Draws prog w A it [it, a] items.size (fun i v => items[i]? = some v) (fun i h => Ht k h it a i ∧ Hs k h a items) := by
  cases k with
  | true => exact Draws.tuple hh it a hne items
  | false => exact Draws.list hh it a hne items
theorem be_of (k : Bool) (a : Addr) (items : Array Value) : Begins (.ref a) (itO k a) fun h => Hs k h a items := by
  cases k with
  | true => exact begins_tuple a items
  | false => exact begins_list a items
theorem hs_lt {k : Bool} {h : Heap} {a : Addr} {its : Array Value} (x : Hs k h a its) : a < h.objs.size := by
  cases k with
  | true => obtain ⟨o, e, _⟩ := x; exact Heap.lt_size e
  | false => obtain ⟨o, e, _⟩ := x; exact Heap.lt_size e
/-- pairs of what stands at a and at b -/
def Itp (K : PySem.W.Frag) (k1 k2 : Bool) (a b : Addr) : It :=
  ⟨fun i H => ∃ (xs ys : List V), Sq K k1 H a xs ∧ Sq K k2 H b ys ∧ i < min xs.length ys.length,
    fun i H v H' => ∃ T x y, v = .ref T ∧ H T = none ∧ H' = upd H T (.tup [x, y]) ∧ (∀ xs, Sq K k1 H a xs → xs[i]? = some x) ∧ ∀ ys, Sq K k2 H b ys → ys[i]? = some y,
    fun i H => ∃ xs ys : List V, Sq K k1 H a xs ∧ Sq K k2 H b ys ∧ i = min xs.length ys.length⟩
theorem turn_pair {P : Program} {w : World} {K : PySem.W.Frag} {elts : List Expr} {kk : Nat} {tpos : Pos} {k1 k2 : Bool} {a b z TI TO i1 i2 : Addr} (S : ZipSep2 z TI TO i1 i2 [i1, a] [i2, b]) (ha : a ≠ i1) (hb : b ≠ i2) :
    Turn P w K (.Tuple elts kk tpos) (Itp K k1 k2 a b) [z, TI, TO, i1, i2] z (fun i h => IsZip h z TI TO .none ∧ IsTupOf2 h TI (.ref i1) (.ref i2) ∧ (∃ x y, IsTupOf2 h TO x y) ∧ Ht k1 h i1 a i ∧ Ht k2 h i2 b i) where
  mem := by simp
  obj := fun i h st c hc => by
    obtain ⟨hz, hTI, ⟨x, y, hTO⟩, h1, h2⟩ := st
    have e' : c = z ∨ c = TI ∨ c = TO ∨ c = i1 ∨ c = i2 := by simpa using hc
    rcases e' with rfl | rfl | rfl | rfl | rfl
    · exact ⟨_, hz, fun v q => nomatch q⟩
    · exact ⟨_, hTI, fun v q => nomatch q⟩
    · exact ⟨_, hTO, fun v q => nomatch q⟩
    · exact ht_obj h1
    · exact ht_obj h2
  keep := fun i h h' st k => by
    obtain ⟨hz, hTI, ⟨x, y, hTO⟩, h1, h2⟩ := st
    exact ⟨k z (by simp) _ hz, k TI (by simp) _ hTI, ⟨x, y, k TO (by simp) _ hTO⟩, ht_at h1 (k i1 (by simp)), ht_at h2 (k i2 (by simp))⟩
  item := by
    intro X hP hw hK hc i pins s σ H E I hf st hg
    subst hP hw hK
    obtain ⟨hz, hTI, hTO, h1, h2⟩ := st
    obtain ⟨xs, ys, q1, q2, hi⟩ := hg
    obtain ⟨its, r1, p1⟩ := sq_inv I q1
    obtain ⟨jts, r2, p2⟩ := sq_inv I q2
    have l1 := r1.length
    have l2 := r2.length
    have hh : X.A.in1.handled = none := I.ok.hd hc
    have W := GoesN.zip2 (elts := elts) (x1 := kk) (pos := tpos) S (dr_of (prog := X.prog) (w := X.w) hh k1 i1 a ha its.toArray) (dr_of (prog := X.prog) (w := X.w) hh k2 i2 b hb jts.toArray)
    have alive : ∀ c ∈ [z, TI, TO, i1, i2], c < s.heap.objs.size := fun c hc => by
      obtain ⟨x, y, hTO⟩ := hTO
      have e' : c = z ∨ c = TI ∨ c = TO ∨ c = i1 ∨ c = i2 := by simpa using hc
      rcases e' with rfl | rfl | rfl | rfl | rfl
      · exact Heap.lt_size hz
      · exact Heap.lt_size hTI
      · exact Heap.lt_size hTO
      · exact Heap.lt_size (ht_obj h1).choose_spec.1
      · exact Heap.lt_size (ht_obj h2).choose_spec.1
    refine W.goes i s _ E (by simp only [List.size_toArray]; omega) ⟨hz, hTI, hTO, ⟨h1, p1⟩, ⟨h2, p2⟩⟩ fun v h' tk hY st' hk _ => ?_
    obtain ⟨T, u1, u2, rfl, hT, e1, e2, hTt⟩ := hY
    obtain ⟨x, hx, rx⟩ : ∃ x, xs[i]? = some x ∧ RelV x u1 := by
      have hx : i < xs.length := by omega
      obtain ⟨u, hu, ru⟩ := r1.get (List.getElem?_eq_getElem hx)
      have : its[i]? = some u1 := by simpa using e1
      rw [hu] at this
      cases this
      exact ⟨_, List.getElem?_eq_getElem hx, ru⟩
    obtain ⟨y, hy, ry⟩ : ∃ y, ys[i]? = some y ∧ RelV y u2 := by
      have hy : i < ys.length := by omega
      obtain ⟨u, hu, ru⟩ := r2.get (List.getElem?_eq_getElem hy)
      have : jts[i]? = some u2 := by simpa using e2
      rw [hu] at this
      cases this
      exact ⟨_, List.getElem?_eq_getElem hy, ru⟩
    obtain ⟨oT, o1, o2, o3⟩ := hTt
    have new : ObjOk X.prog X.w (upd H T (.tup [x, y])) h' T (.tup [x, y]) := ⟨by show 2 ≤ sizeLine; decide, [u1, u2], .cons rx (.cons ry .nil), ⟨oT, o1, o2, o3⟩⟩
    have J := I.turnedNew (t' := tk) (ch := [z, TI, TO, i1, i2]) (fun c o hb q => hk c o (fun q' => hb (by
      have : c = z ∨ c = TO ∨ c = i1 ∨ c = i2 := by simpa using q'
      rcases this with rfl | rfl | rfl | rfl <;> simp)) q) hf hT new
    obtain ⟨s1, s2, s3, s4, s5⟩ := st'
    refine ⟨.ref T, _, J, rfl, ⟨T, x, y, rfl, I.hok.fresh hT, rfl, fun zs hz => ?_, fun zs hz => ?_⟩, ⟨s1, s2, s3, s4.1, s5.1⟩, fun c hc => ?_⟩
    · rw [sq_inj I hz q1]; exact hx
    · rw [sq_inj I hz q2]; exact hy
    · rw [upd_ne (Nat.ne_of_lt (Nat.lt_of_lt_of_le (alive c hc) hT))]
      exact (hf c hc).1
  done := by
    intro X hP hw hK hc i pins s σ H E I hf st hg
    subst hP hw hK
    obtain ⟨hz, hTI, hTO, h1, h2⟩ := st
    obtain ⟨xs, ys, q1, q2, hi⟩ := hg
    obtain ⟨its, r1, p1⟩ := sq_inv I q1
    obtain ⟨jts, r2, p2⟩ := sq_inv I q2
    have l1 := r1.length
    have l2 := r2.length
    have hh : X.A.in1.handled = none := I.ok.hd hc
    have W := GoesN.zip2 (elts := elts) (x1 := kk) (pos := tpos) S (dr_of (prog := X.prog) (w := X.w) hh k1 i1 a ha its.toArray) (dr_of (prog := X.prog) (w := X.w) hh k2 i2 b hb jts.toArray)
    have en : i = min its.toArray.size jts.toArray.size := by simp only [List.size_toArray]; omega
    refine W.stops s _ E (by rw [← en]; exact ⟨hz, hTI, hTO, ⟨h1, p1⟩, ⟨h2, p2⟩⟩) fun h' tk hk _ => ?_
    exact I.turnedL (t' := tk) (ch := [z, TI, TO, i1, i2]) (fun c o hb q => hk c o (fun q' => hb (by
      have : c = z ∨ c = TO ∨ c = i1 ∨ c = i2 := by simpa using q'
      rcases this with rfl | rfl | rfl | rfl <;> simp)) q) hf
  self := fun A i s Q E st h => wpAny_pyIter_zip st.1 h

def iPair (K : PySem.W.Frag) (ta : TA) : TI := fun σ H R => ta σ H fun vs H1 => ∃ a b k1 k2 xs ys, vs = [.ref a, .ref b] ∧ Sq K k1 H1 a xs ∧ Sq K k2 H1 b ys ∧ R (Itp K k1 k2 a b) H1
theorem pi_pair {X : Cx} {e e2 : Expr} {ta : TA} {p pos tpos : Pos} {elts : List Expr} {kk : Nat} (hg : Gl X "zip") (hm : X.mg "zip" = none) (ha : PA X [e, e2] ta) (h1 : isStar e = false) (h2 : isStar e2 = false) :
    PI X (.Tuple elts kk tpos) (.Call (.Name "zip" p) [e, e2] [] pos) (iPair X.K ta) := by
  refine ⟨fun pins s σ H R I h => ?_⟩
  refine Call_ (ld_blt I hg hm PyProof.Rows.boot_zip (PyProof.Rows.callWith_type1 (thn (ha.run pos pins s σ H _ I h) fun us s1 hq => ?_) (star_no h1) (by rw [star_no h2]; rfl)))
  obtain ⟨vs, H1, I1, r1, a, b, k1, k2, xs, ys, rfl, q1, q2, q⟩ := hq
  obtain ⟨u1, u2, rfl, e1, e2⟩ := vals2 r1
  cases (show u1 = Value.ref a from e1)
  cases (show u2 = Value.ref b from e2)
  obtain ⟨its, _, p1⟩ := sq_inv I1 q1
  obtain ⟨jts, _, p2⟩ := sq_inv I1 q2
  have la := hs_lt p1
  have lb := hs_lt p2
  refine zip_begins2 (be_of k1 a its.toArray) (be_of k2 b jts.toArray) p1 p2 fun h' hz hTI hTO g1 g2 hsz hk => wpAny_pyIter_zip hz ?_
  have I2 : Inv X pins σ H1 { s1 with heap := h' } := I1.kept (t' := s1.toks) hk
  have S := zip_sep2 (N := s1.heap.objs.size) (fp1 := [a]) (fp2 := [b]) (fun c hc => by rw [List.mem_singleton.mp hc]; exact la) (fun c hc => by rw [List.mem_singleton.mp hc]; exact lb)
  refine ⟨s1.heap.objs.size + 4, [s1.heap.objs.size + 4, s1.heap.objs.size + 2, s1.heap.objs.size + 3, s1.heap.objs.size, s1.heap.objs.size + 1], _, _, H1, rfl, I2, turn_pair S (Nat.ne_of_lt la) (Nat.ne_of_lt (Nat.lt_succ_of_lt lb)), ⟨hz, hTI, ⟨_, _, hTO⟩, ht_new g1, ht_new g2⟩, fun c hc => ?_, q⟩
  have hle : s1.heap.objs.size ≤ c := by
    have e' : c = s1.heap.objs.size + 4 ∨ c = s1.heap.objs.size + 2 ∨ c = s1.heap.objs.size + 3 ∨ c = s1.heap.objs.size ∨ c = s1.heap.objs.size + 1 := by simpa using hc
    rcases e' with e' | e' | e' | e' | e' <;> rw [e'] <;> first
      | exact Nat.le_add_right _ _
      | exact Nat.le_refl _
  exact I1.fpOk hle (I1.hok.fresh hle)
theorem seqD_sq {W : Wd} {H : Hp} {d : Dt} {v : V} {ds : List Dt} (r : RdD W H d v) (h : seqD d = some ds) : ∃ a k vs, v = .ref a ∧ Sq W.K k H a vs ∧ RdL W H ds vs := by
  obtain ⟨a, vs, e, h1, h2⟩ := seqD_rd r h
  rcases h1 with h1 | h1
  · exact ⟨a, false, vs, e, h1, h2⟩
  · exact ⟨a, true, vs, e, h1, h2⟩
def pairs (xs ys : List Dt) : List Dt := List.zipWith (fun x y => .tup [x, y]) xs ys
theorem yields_p {W : Wd} {Fm Hb : Hp} {k1 k2 : Bool} {a b : Addr} {vs ws : List V} {ds es : List Dt} (h1 : Sq W.K k1 Hb a vs) (r1 : RdL W Hb ds vs) (h2 : Sq W.K k2 Hb b ws) (r2 : RdL W Hb es ws) : Yields W Fm Hb (Itp W.K k1 k2 a b) (pairs ds es) where
  go := fun i Hb' H hi s bs => by
    unfold pairs at hi
    rw [List.length_zipWith, r1.len, r2.len] at hi
    exact ⟨vs, ws, sq_same bs.hb (sq_same s h1), sq_same bs.hb (sq_same s h2), hi⟩
  stop := fun Hb' H s bs => ⟨vs, ws, sq_same bs.hb (sq_same s h1), sq_same bs.hb (sq_same s h2), by unfold pairs; rw [List.length_zipWith, r1.len, r2.len]⟩
  yld := fun i d Hb' H x H' hd s bs y => by
    obtain ⟨T, u, v, rfl, hT, rfl, y1, y2⟩ := y
    unfold pairs at hd
    rw [List.getElem?_zipWith] at hd
    cases q1 : ds[i]? with
    | none => rw [q1] at hd; cases hd
    | some d1 =>
      cases q2 : es[i]? with
      | none => rw [q1, q2] at hd; cases hd
      | some d2 =>
        rw [q1, q2] at hd
        cases hd
        obtain ⟨w1, g1, g2⟩ := r1.get q1
        obtain ⟨w2, g3, g4⟩ := r2.get q2
        have z1 := y1 vs (sq_same bs.hb (sq_same s h1))
        have z2 := y2 ws (sq_same bs.hb (sq_same s h2))
        rw [g1] at z1
        rw [g3] at z2
        cases z1
        cases z2
        exact Yl.laid hT ⟨_, _, rfl, RdD.mono s _ _ g2, _, _, rfl, RdD.mono s _ _ g4, rfl⟩
def itZip (g : DA) : DA := fun env => (g env).bind fun p => match p.1 with
  | [d, e] => match seqD d, seqD e with
    | some xs, some ys => .ok (pairs xs ys, p.2)
    | _, _ => .bad
  | _ => .bad
theorem si_zip {X : Cx} {EX : XK} {e e2 : Expr} {g : DA} {p pos tpos : Pos} {elts : List Expr} {kk : Nat} (hg : Gl X "zip") (hm : X.mg "zip" = none) (ha : SA X EX [e, e2] g) (h1 : isStar e = false) (h2 : isStar e2 = false) :
    SI X EX (.Tuple elts kk tpos) (.Call (.Name "zip" p) [e, e2] [] pos) (itZip g) := by
  refine ⟨_, pi_pair hg hm ha h1 h2, fun Fm Hb ia σ env H R A p => ?_⟩
  refine ⟨Fm, Hb, ia, env, A, Post.bind p fun ds e1 H1 Hb1 s1 A1 q1 vs hv => ?_⟩
  dsimp only at q1
  split at q1
  · rename_i d d'
    split at q1
    · rename_i xs ys hx hy
      obtain ⟨v, w, rfl, r1, r2⟩ := hv.two
      obtain ⟨a, k1, us, rfl, g1, g2⟩ := seqD_sq r1 hx
      obtain ⟨b, k2, ws, rfl, g3, g4⟩ := seqD_sq r2 hy
      exact ⟨a, b, k1, k2, us, ws, rfl, sq_same A1.bs.hb g1, sq_same A1.bs.hb g3, q1 H1 Hb1 (Same.refl _) A1 _ (yields_p (W := wd X) g1 g2 g3 g4)⟩
    · exact q1.elim
  · exact q1.elim
end G


set_option maxRecDepth 100000
set_option maxHeartbeats 4000000
/-! Kern17: enumerate over a list or a tuple. -/
namespace G
section
open PySem
open Sem (wp)
open AutoSeq1 (wpAny_loadPart')
theorem meets_enumT (t : Addr) (items : Array Value) (n : Nat) (dd : Option Addr) (ss : Array (Option Value)) :
    Meets (Builtin.«enumerate.__new__» ⟨[.type "enumerate", .ref t], []⟩) (fun _ R s => s.heap.get? t = some { cls := .type "tuple", dict := dd, data := .seq items n, slots := ss } ∧
      R (.ok (.ret (.ref (s.heap.push { cls := .type "tuple_iterator", data := .fields #[.ref t, .int 0 0] }).objs.size)))
        { s with heap := (s.heap.push { cls := .type "tuple_iterator", data := .fields #[.ref t, .int 0 0] }).push { cls := .type "enumerate", data := .fields #[.none, .bool false, .ref s.heap.objs.size, rawInt 0, .none, .none] } }) :=
  .of_wp fun prog w A R s h => by
    obtain ⟨hp, gg, dr, tk, os⟩ := s
    obtain ⟨ht, h⟩ := h
    have hsub := sub_enumerate
    have isT : Heap.IsTuple (Shared.heap ⟨hp, gg, dr, tk, os⟩) t items := ⟨_, ht, rfl, n, rfl⟩
    wp_walk using wpAny_loadPart' ht
    refine wpAny_stack_any fun stk => wpAny_pure ?_
    split
    · rename_i cl _ _ _ _ _
      cases (cl == Value.type "enumerate")
      · wp_walk using wpAny_loadPart' ht, wpAny_pyIter_tuple isT
        exact ⟨_, rfl, h⟩
      · wp_walk using wpAny_loadPart' ht, wpAny_pyIter_tuple isT
        exact ⟨_, rfl, h⟩
    · wp_walk using wpAny_loadPart' ht, wpAny_pyIter_tuple isT
      exact ⟨_, rfl, h⟩
theorem call_enumT {prog : Program} {w : World} {A : Around} {E : Value → Shared → Prop} {s : Shared} {t : Addr} {items : Array Value} {Q : Value → Shared → Prop} (hT : s.heap.IsTuple t items)
    (h : ∀ h', IsEnum h' (s.heap.objs.size + 1) s.heap.objs.size 0 .none → h'.get? s.heap.objs.size = some { cls := .type "tuple_iterator", data := .fields #[.ref t, .int 0 0] } →
      (∀ b o, s.heap.get? b = some o → h'.get? b = some o) → Q (.ref (s.heap.objs.size + 1)) { s with heap := h' }) : wpAny (model prog w) A (call (.type "enumerate") [.ref t]) Q E s := by
  obtain ⟨⟨cl, dd, dt, ss⟩, ht, hc, n, hd⟩ := hT
  replace hc : cl = .type "tuple" := hc
  replace hd : dt = .seq items n := hd
  subst hc hd
  refine callType_new F.called_enumerate (by decide) (F.typeCall_enumerate_1 _) (F.newCall_enumerate_1 _) (fun ob => F.args_object_init_2 ob _) F.entry_enumerate_new (meets_enumT t items n dd ss) ⟨ht, ?_⟩
  generalize hI : ({ cls := .type "tuple_iterator", data := .fields #[.ref t, .int 0 0] } : Obj) = ob at h ⊢
  have fr : ob.isFreed = false := by rw [← hI]; rfl
  have sz : (s.heap.push ob).objs.size = s.heap.objs.size + 1 := Heap.size_push ..
  show _ ∧ _
  rw [sz]
  have en := Heap.get?_push_size (s.heap.push ob) (o := { cls := .type "enumerate", data := .fields #[.none, .bool false, .ref s.heap.objs.size, rawInt 0, .none, .none] }) rfl
  rw [sz] at en
  exact ⟨⟨_, en, rfl⟩, h _ en (Heap.get?_push_of_some _ (Heap.get?_push_size _ fr)) fun b o x => Heap.get?_push_of_some _ (Heap.get?_push_of_some _ x)⟩
end

open PySem PySem.Spec PyProof.Rows L2
theorem call_enumK {prog : Program} {w : World} {A : Around} {E : Value → Shared → Prop} {s : Shared} {k : Bool} {a : Addr} {items : Array Value} {Q : Value → Shared → Prop} (hT : Hs k s.heap a items)
    (h : ∀ h', IsEnum h' (s.heap.objs.size + 1) s.heap.objs.size 0 .none → Ht k h' s.heap.objs.size a 0 → (∀ b o, s.heap.get? b = some o → h'.get? b = some o) → Q (.ref (s.heap.objs.size + 1)) { s with heap := h' }) : wpAny (model prog w) A (call (.type "enumerate") [.ref a]) Q E s := by
  cases k with
  | true => exact call_enumT hT fun h' h1 h2 h3 => h h' h1 ⟨_, h2, rfl, rfl⟩ h3
  | false => exact call_enumerate_list hT fun h' h1 h2 _ h3 => h h' h1 h2 h3
def Itn (K : PySem.W.Frag) (k : Bool) (a : Addr) : It :=
  ⟨fun i H => ∃ xs : List V, Sq K k H a xs ∧ i < xs.length, fun i H v H' => ∃ T x, v = .ref T ∧ H T = none ∧ H' = upd H T (.tup [.int (i : Nat), x]) ∧ ∀ xs, Sq K k H a xs → xs[i]? = some x, fun i H => ∃ xs : List V, Sq K k H a xs ∧ i = xs.length⟩
theorem turn_enumK {P : Program} {w : World} {K : PySem.W.Frag} {elts : List Expr} {kk : Nat} {tpos : Pos} {k : Bool} {a e it : Addr} (he : e ≠ it) (ha : a ≠ it) (hae : e ≠ a) :
    Turn P w K (.Tuple elts kk tpos) (Itn K k a) [e, it] e (fun i h => (∃ old, IsEnum h e it (0 + ((i : Nat) : Int)) old) ∧ Ht k h it a i) where
  mem := by simp
  obj := fun i h st c hc => by
    obtain ⟨⟨old, h1⟩, h2⟩ := st
    have e' : c = e ∨ c = it := by simpa using hc
    rcases e' with rfl | rfl
    · exact ⟨_, h1, fun v q => nomatch q⟩
    · exact ht_obj h2
  keep := fun i h h' st q => by
    obtain ⟨⟨old, h1⟩, h2⟩ := st
    exact ⟨⟨old, q e (by simp) _ h1⟩, ht_at h2 (q it (by simp))⟩
  item := by
    intro X hP hw hK hc i pins s σ H E I hf st hg
    subst hP hw hK
    obtain ⟨⟨old, h1⟩, h2⟩ := st
    obtain ⟨xs, q1, hi⟩ := hg
    obtain ⟨its, r1, p1⟩ := sq_inv I q1
    have l1 := r1.length
    have hh : X.A.in1.handled = none := I.ok.hd hc
    have W := GoesN.enumFrom (elts := elts) (x1 := kk) (pos := tpos) 0 (dr_of (prog := X.prog) (w := X.w) hh k it a ha its.toArray) e he (by simp [he, hae]) (by simp)
    have alive : ∀ c ∈ [e, it], c < s.heap.objs.size := fun c hc => by
      have e' : c = e ∨ c = it := by simpa using hc
      rcases e' with rfl | rfl
      · exact Heap.lt_size h1
      · exact Heap.lt_size (ht_obj h2).choose_spec.1
    refine W.goes i s _ E (by simp only [List.size_toArray]; omega) ⟨⟨old, h1⟩, h2, p1⟩ fun v h' tk hY st' hk _ => ?_
    obtain ⟨T, t, u, rfl, hT, e1, hTt⟩ := hY
    have hx : i < xs.length := hi
    obtain ⟨u', hu, ru⟩ := r1.get (List.getElem?_eq_getElem hx)
    have eu : its[i]? = some u := by simpa using e1
    rw [hu] at eu
    cases eu
    obtain ⟨oT, o1, o2, o3⟩ := hTt
    have new : ObjOk X.prog X.w (upd H T (.tup [.int (i : Nat), xs[i]])) h' T (.tup [.int (i : Nat), xs[i]]) := ⟨by show 2 ≤ sizeLine; decide, [.int (0 + (i : Int)) t, u], .cons ⟨t, by rw [Int.zero_add]⟩ (.cons ru .nil), ⟨oT, o1, o2, o3⟩⟩
    have J := I.turnedNew (t' := tk) (ch := [e, it]) (fun c o hb q => hk c o hb q) hf hT new
    obtain ⟨⟨old', s1⟩, s2, s3⟩ := st'
    refine ⟨.ref T, _, J, rfl, ⟨T, xs[i], rfl, I.hok.fresh hT, rfl, fun zs hz => ?_⟩, ⟨⟨old', s1⟩, s2⟩, fun c hc => ?_⟩
    · rw [sq_inj I hz q1]; exact List.getElem?_eq_getElem hx
    · rw [upd_ne (Nat.ne_of_lt (Nat.lt_of_lt_of_le (alive c hc) hT))]
      exact (hf c hc).1
  done := by
    intro X hP hw hK hc i pins s σ H E I hf st hg
    subst hP hw hK
    obtain ⟨⟨old, h1⟩, h2⟩ := st
    obtain ⟨xs, q1, hi⟩ := hg
    obtain ⟨its, r1, p1⟩ := sq_inv I q1
    have l1 := r1.length
    have hh : X.A.in1.handled = none := I.ok.hd hc
    have W := GoesN.enumFrom (elts := elts) (x1 := kk) (pos := tpos) 0 (dr_of (prog := X.prog) (w := X.w) hh k it a ha its.toArray) e he (by simp [he, hae]) (by simp)
    have en : i = its.toArray.size := by simp only [List.size_toArray]; omega
    refine W.stops s _ E (by rw [← en]; exact ⟨⟨old, h1⟩, h2, p1⟩) fun h' tk hk _ => ?_
    exact I.turnedL (t' := tk) (ch := [e, it]) (fun c o hb q => hk c o hb q) hf
  self := fun A i s Q E st h => let ⟨⟨_, h1⟩, _⟩ := st; wpAny_pyIter_enum h1 h
def iEnumK (K : PySem.W.Frag) (ta : TA) : TI := fun σ H R => ta σ H fun vs H1 => ∃ a k xs, vs = [.ref a] ∧ Sq K k H1 a xs ∧ R (Itn K k a) H1
theorem pi_enumK {X : Cx} {e : Expr} {ta : TA} {p pos tpos : Pos} {elts : List Expr} {kk : Nat} (hg : Gl X "enumerate") (hm : X.mg "enumerate" = none) (ha : PA X [e] ta) (h1 : isStar e = false) :
    PI X (.Tuple elts kk tpos) (.Call (.Name "enumerate" p) [e] [] pos) (iEnumK X.K ta) := by
  refine ⟨fun pins s σ H R I h => ?_⟩
  refine Call_ (ld_blt I hg hm boot_enumerate (PyProof.Rows.callWith_type1 (thn (ha.run pos pins s σ H _ I h) fun us s1 hq => ?_) (star_no h1) rfl))
  obtain ⟨vs, H1, I1, r1, a, k, xs, rfl, q1, q⟩ := hq
  obtain ⟨u1, rfl, e1⟩ := vals1 r1
  cases (show u1 = Value.ref a from e1)
  obtain ⟨its, _, p1⟩ := sq_inv I1 q1
  have la := hs_lt p1
  refine call_enumK p1 fun h' g1 g2 hk => wpAny_pyIter_enum g1 ?_
  have I2 : Inv X pins σ H1 { s1 with heap := h' } := I1.kept (t' := s1.toks) hk
  refine ⟨s1.heap.objs.size + 1, [s1.heap.objs.size + 1, s1.heap.objs.size], _, _, H1, rfl, I2, turn_enumK (Nat.succ_ne_self _) (Nat.ne_of_lt la) (Nat.ne_of_gt (Nat.lt_succ_of_lt la)), ⟨⟨_, g1⟩, g2⟩, fun c hc => ?_, q⟩
  have e' : c = s1.heap.objs.size + 1 ∨ c = s1.heap.objs.size := by simpa using hc
  have hle : s1.heap.objs.size ≤ c := by
    rcases e' with e' | e' <;> rw [e']
    · exact Nat.le_add_right _ _
    · exact Nat.le_refl _
  exact I1.fpOk hle (I1.hok.fresh hle)
def numbered : Nat → List Dt → List Dt
  | _, [] => []
  | i, d :: ds => .tup [.int (i : Nat), d] :: numbered (i + 1) ds
theorem numbered_len : ∀ (ds : List Dt) (i : Nat), (numbered i ds).length = ds.length
  | [], _ => rfl
  | d :: ds, i => by
    show (numbered (i + 1) ds).length + 1 = ds.length + 1
    rw [numbered_len ds]
theorem numbered_get : ∀ (ds : List Dt) (i j : Nat) (x : Dt), (numbered i ds)[j]? = some x → ∃ d, ds[j]? = some d ∧ x = .tup [.int ((i + j : Nat) : Int), d]
  | [], _, _, _, h => by simp [numbered] at h
  | d :: ds, i, 0, x, h => by
    simp [numbered] at h
    exact ⟨d, rfl, by rw [← h]; rfl⟩
  | d :: ds, i, j + 1, x, h => by
    have h' : (numbered (i + 1) ds)[j]? = some x := by simpa [numbered] using h
    obtain ⟨y, e1, e2⟩ := numbered_get ds (i + 1) j x h'
    exact ⟨y, by simpa using e1, by rw [e2, show i + 1 + j = i + (j + 1) by omega]⟩
theorem yields_n {W : Wd} {Fm Hb : Hp} {k : Bool} {a : Addr} {vs : List V} {ds : List Dt} (h1 : Sq W.K k Hb a vs) (r1 : RdL W Hb ds vs) : Yields W Fm Hb (Itn W.K k a) (numbered 0 ds) where
  go := fun i Hb' H hi s bs => ⟨vs, sq_same bs.hb (sq_same s h1), by rw [numbered_len, r1.len] at hi; exact hi⟩
  stop := fun Hb' H s bs => ⟨vs, sq_same bs.hb (sq_same s h1), by rw [numbered_len, r1.len]⟩
  yld := fun i d Hb' H x H' hd s bs y => by
    obtain ⟨T, u, rfl, hT, rfl, y1⟩ := y
    obtain ⟨d1, q1, rfl⟩ := numbered_get ds 0 i d hd
    obtain ⟨w1, g1, g2⟩ := r1.get q1
    have z1 := y1 vs (sq_same bs.hb (sq_same s h1))
    rw [g1] at z1
    cases z1
    exact Yl.laid (es := [.int ((0 + i : Nat) : Int), d1]) hT ⟨_, _, rfl, by rw [Nat.zero_add]; rfl, _, _, rfl, RdD.mono s _ _ g2, rfl⟩
def itEnum (f : DE) : DA := fun env => (f env).bind fun p => match seqD p.1.d with
  | some xs => .ok (numbered 0 xs, p.2)
  | none => .bad
theorem si_enum {X : Cx} {EX : XK} {e : Expr} {f : DE} {p pos tpos : Pos} {elts : List Expr} {kk : Nat} (hg : Gl X "enumerate") (hm : X.mg "enumerate" = none) (ha : SE X EX e f) (h1 : isStar e = false) :
    SI X EX (.Tuple elts kk tpos) (.Call (.Name "enumerate" p) [e] [] pos) (itEnum f) := by
  refine ⟨_, pi_enumK hg hm (pa_cons ha pa_nil (star_no h1)) h1, fun Fm Hb ia σ env H R A p => ?_⟩
  refine ⟨Fm, Hb, ia, env, A, Post.bindV p fun va e1 v H1 Hb1 s1 A1 r1 q1 => ?_⟩
  dsimp only at q1
  split at q1
  · rename_i xs hx
    obtain ⟨a, k, us, rfl, g1, g2⟩ := seqD_sq r1 hx
    exact ⟨a, k, us, rfl, sq_same A1.bs.hb g1, q1 H1 Hb1 (Same.refl _) A1 _ (yields_n (W := wd X) g1 g2)⟩
  · exact q1.elim
end G


set_option maxRecDepth 100000
set_option maxHeartbeats 4000000
/-! Kern18: the items of a locked dict whose keys are tuples. -/
namespace G
open PySem PySem.Spec PyProof.Rows L2
def Itm (d : Addr) (o : Obj) (kvs : List (List Key × V)) : It :=
  ⟨fun i H => H d = some (.frz o (.dT kvs)) ∧ i < kvs.length,
    fun i H x H' => ∃ T q k v, kvs[i]? = some (k, v) ∧ x = .ref T ∧ H T = none ∧ H q = some (.tup (k.map kV)) ∧ H' = upd H T (.tup [.ref q, v]),
    fun i H => H d = some (.frz o (.dT kvs)) ∧ i = kvs.length⟩
/-- what the record of a locked dict tells -/
theorem locked_at {X : Cx} {pins : List (Addr × Obj)} {σ : L2.St} {H : Hp} {s : Shared} {d : Addr} {o : Obj} {kvs : List (List Key × V)} (I : Inv X pins σ H s) (h : H d = some (.frz o (.dT kvs))) :
    (d == sysModules) = false ∧ s.heap.get? d = some o ∧ o.ExactDict ∧ ∃ (es : Array DictEntry) (ep : Nat), o.data = .dict es ep ∧ es.size = kvs.length ∧
      ∀ (i : Nat) (k : List Key) (v : V), kvs[i]? = some (k, v) → ∃ (en : DictEntry) (q : Addr), es[i]? = some en ∧ en.key = .ref q ∧ H q = some (.tup (k.map kV)) ∧ RelV v en.val := by
  obtain ⟨hd, z, hs, xs, pr, o', es, ep, ho, hx, hdt, he, _⟩ := I.hok d _ h
  rw [hd] at ho
  cases ho
  have l1 : es.size = xs.length := size_of_entries he
  have l2 : kvs.length = xs.length := Paired.length pr
  refine ⟨hs, hd, hx, es, ep, hdt, by omega, fun i k v e => ?_⟩
  obtain ⟨b, hb, e1, e2, e3⟩ := paired_get pr e
  have q := entry_at he i
  rw [hb] at q
  exact ⟨_, b.2.1, q, rfl, e2, e3⟩
theorem turn_itm {P : Program} {w : World} {K : PySem.W.Frag} {elts : List Expr} {kk : Nat} {tpos : Pos} {d it : Addr} {o : Obj} {kvs : List (List Key × V)} {es : Array DictEntry} {ep : Nat} (hd : o.data = .dict es ep) (hx : o.ExactDict) (hz : es.size = kvs.length) (hne : d ≠ it) :
    Turn P w K (.Tuple elts kk tpos) (Itm d o kvs) [it] it (fun i h => ∃ ok ov, IsItemIter h it d i es.size ep ok ov) where
  mem := by simp
  obj := fun i h st c hc => by
    obtain ⟨ok, ov, h1⟩ := st
    obtain rfl : c = it := by simpa using hc
    exact ⟨_, h1, fun v q => nomatch q⟩
  keep := fun i h h' st q => by
    obtain ⟨ok, ov, h1⟩ := st
    exact ⟨ok, ov, q it (by simp) _ h1⟩
  item := by
    intro X hP hw hK hc i pins s σ H E I hf st hg
    subst hP hw hK
    obtain ⟨ok, ov, h1⟩ := st
    obtain ⟨hD, hi⟩ := hg
    obtain ⟨g1, g2, g3, es', ep', g4, g5, g6⟩ := locked_at I hD
    rw [hd] at g4
    cases g4
    have hh : X.A.handled = none := I.ok.hd hc
    have W := GoesN.rawItems (prog := X.prog) (w := X.w) (A := X.A) (elts := elts) (x1 := kk) (pos := tpos) hh it d hne es ep
    have raw : s.heap.DictRaw d es ep := ⟨o, g2, hx, hd⟩
    refine W.goes i s _ E (by omega) ⟨⟨ok, ov, h1⟩, raw⟩ fun v h' tk hY st' hk _ => ?_
    obtain ⟨T, hlt, rfl, hT, hTt⟩ := hY
    obtain ⟨k, x, ek⟩ : ∃ k x, kvs[i]? = some (k, x) := ⟨_, _, List.getElem?_eq_getElem hi⟩
    obtain ⟨en, q, e1, e2, e3, e4⟩ := g6 i k x ek
    have een : es[i] = en := by
      rw [Array.getElem?_eq_getElem hlt] at e1
      exact Option.some.inj e1
    rw [een, e2] at hTt
    obtain ⟨oT, o1, o2, o3⟩ := hTt
    have new : ObjOk X.prog X.w (upd H T (.tup [.ref q, x])) h' T (.tup [.ref q, x]) := ⟨by show 2 ≤ sizeLine; decide, [.ref q, en.val], .cons rfl (.cons e4 .nil), ⟨oT, o1, o2, o3⟩⟩
    have J := I.turnedNew (t' := tk) (ch := [it]) (fun c oc hb qq => hk c oc hb qq) hf hT new
    obtain ⟨⟨ok', ov', s1⟩, s2⟩ := st'
    refine ⟨.ref T, _, J, rfl, ⟨T, q, k, x, ek, rfl, I.hok.fresh hT, e3, rfl⟩, ⟨ok', ov', s1⟩, fun c hc => ?_⟩
    obtain rfl : c = it := by simpa using hc
    rw [upd_ne (Nat.ne_of_lt (Nat.lt_of_lt_of_le (Heap.lt_size h1) hT))]
    exact (hf c hc).1
  done := by
    intro X hP hw hK hc i pins s σ H E I hf st hg
    subst hP hw hK
    obtain ⟨ok, ov, h1⟩ := st
    obtain ⟨hD, hi⟩ := hg
    obtain ⟨g1, g2, g3, _⟩ := locked_at I hD
    have hh : X.A.handled = none := I.ok.hd hc
    have W := GoesN.rawItems (prog := X.prog) (w := X.w) (A := X.A) (elts := elts) (x1 := kk) (pos := tpos) hh it d hne es ep
    have en : i = es.size := by omega
    refine W.stops s _ E (by rw [← en]; exact ⟨⟨ok, ov, by rw [en]; rw [en] at h1; exact h1⟩, o, g2, hx, hd⟩) fun h' tk hk _ => ?_
    exact I.turnedL (t' := tk) (ch := [it]) (fun c oc hb q => hk c oc hb q) hf
  self := fun A i s Q E st h => by
    obtain ⟨ok, ov, h1⟩ := st
    exact wpAny_pyIter_itemiter h1 h

/-- x.items(): a locked dict as it stands; one that nobody has locked is locked from here on -/
def iItm (td : TE) : TI := fun σ H R => td σ H fun x H1 => ∃ d kvs, x = .ref d ∧ ((∃ o, H1 d = some (.frz o (.dT kvs)) ∧ R (Itm d o kvs) H1) ∨ (H1 d = some (.dT kvs) ∧ ∀ o, R (Itm d o kvs) (upd H1 d (.frz o (.dT kvs)))))
theorem pi_itm {X : Cx} {e : Expr} {td : TE} {apos cpos tpos : Pos} {elts : List Expr} {kk : Nat} (he : PE X e td) (hbase : attributeBase e "items" X.env (eval e X.env) = eval e X.env) (hline : (apos.endLine == cpos.line) = true) :
    PI X (.Tuple elts kk tpos) (.Call (.Attribute e "items" apos) [] [] cpos) (iItm td) := by
  refine ⟨fun pins s σ H R I h => ?_⟩
  refine wpAny_Call_method (T := "dict") (id := "dict.items") hbase rfl hline PySem.F.plainAttrs_dict PySem.F.slot_dict_items PySem.F.type_dict_items (thn (he.run pins s σ H _ I h) fun u s1 hq => ?_)
  obtain ⟨x, H1, I1, rx, d, kvs, rfl, q⟩ := hq
  obtain rfl : u = Value.ref d := rx
  have key : ∃ o H2, Inv X pins σ H2 s1 ∧ H2 d = some (.frz o (.dT kvs)) ∧ R (Itm d o kvs) H2 := by
    rcases q with ⟨o, q1, q2⟩ | ⟨q1, q2⟩
    · exact ⟨o, H1, I1, q1, q2⟩
    · obtain ⟨o, J⟩ := I1.lock q1 trivial
      exact ⟨o, _, J, upd_same, q2 o⟩
  obtain ⟨o, H2, J, hD, hR⟩ := key
  obtain ⟨g1, g2, g3, es, ep, g4, g5, _⟩ := locked_at J hD
  have raw : s1.heap.DictRaw d es ep := ⟨o, g2, g3, g4⟩
  refine ⟨raw.typeIs, fun a ea => by cases ea; exact ⟨o, g2, g3.2.1⟩, ?_⟩
  have I2 : Inv X pins σ H2 { s1 with heap := s1.heap.push { cls := .type "dict_items", data := .fields #[.ref d] } } := J.kept (t' := s1.toks) fun b ob qq => Heap.get?_push_of_some _ qq
  have hlt : d < s1.heap.objs.size := Heap.lt_size g2
  have raw2 : (s1.heap.push ({ cls := .type "dict_items", data := .fields #[.ref d] } : Obj)).DictRaw d es ep := raw.at fun o e => Heap.get?_push_of_some _ e
  have fin : wpAny (model X.prog X.w) X.A (pyIter (.ref s1.heap.objs.size)) (PIE X pins σ (.Tuple elts kk tpos) R) X.xe { s1 with heap := s1.heap.push { cls := .type "dict_items", data := .fields #[.ref d] } } := by
    refine wpAny_pyIter_items_raw (d := d) ⟨_, Heap.get?_push_size _ rfl, rfl, rfl⟩ raw2 (pi_one (tk := s1.toks) I2 _ (turn_itm g4 g3 g5 ?_) ⟨.none, .none, ?_⟩ hR)
    · rw [Heap.size_push]
      exact Nat.ne_of_lt (Nat.lt_succ_of_lt hlt)
    · exact Heap.get?_push_size _ rfl
  show wpAny _ _ (callWith cpos (.builtin "dict.items") [.ref d] [] []) _ X.xe s1
  exact method_meetsIn PySem.F.slot_dict_items PySem.F.entry_dict_items rfl (PySem.evalArgs_none ⟨rfl, raw.typeIs, PySem.F.args_dict_items_1 _, _, DT.meetsItems g1, raw, fin⟩)
end G


set_option maxRecDepth 100000
set_option maxHeartbeats 4000000
/-! Kern19: the items of a dict over slots. -/
namespace G
open PySem PySem.Spec PyProof.Rows L2
theorem rdl_key {W : Wd} {H : Hp} : ∀ (k : List Key), RdL W H (k.map keyD) (k.map kV)
  | [] => rfl
  | .inl i :: k => ⟨_, _, rfl, rfl, rdl_key k⟩
  | .inr x :: k => ⟨_, _, rfl, rfl, rdl_key k⟩
theorem yields_i {W : Wd} {Fm Hb : Hp} {d : Addr} {o : Obj} {kk : List (List Key)} {vs : List V} {ds : List Dt} (h : Hb d = some (.frz o (.dT (kk.zip vs)))) (hl : kk.length = vs.length) (r : RdL W Hb ds vs) :
    Yields W Fm Hb (Itm d o (kk.zip vs)) (pairs (kk.map fun k => .tup (k.map keyD)) ds) where
  go := fun i Hb' H hi s bs => by
    unfold pairs at hi
    rw [List.length_zipWith, List.length_map, r.len] at hi
    exact ⟨bs.hb _ _ (s _ _ h), by rw [List.length_zip]; exact hi⟩
  stop := fun Hb' H s bs => ⟨bs.hb _ _ (s _ _ h), by unfold pairs; rw [List.length_zipWith, List.length_map, r.len, List.length_zip]⟩
  yld := fun i dd Hb' H x H' hd s bs y => by
    obtain ⟨T, q, k, v, e, rfl, hT, hq, rfl⟩ := y
    rw [List.getElem?_zip_eq_some] at e
    obtain ⟨e1, e2⟩ := e
    obtain ⟨d1, g1, g2⟩ := r.getV e2
    unfold pairs at hd
    rw [List.getElem?_zipWith, List.getElem?_map, e1, g1] at hd
    cases hd
    have sm : Same Hb' (upd Hb' q (.tup (k.map kV))) := fun a u ha => by
      by_cases z : a = q
      · subst z
        have := bs.hb _ _ ha
        rw [hq] at this
        cases this
        exact upd_same
      · rw [upd_ne z]
        exact ha
    refine ⟨upd Hb' q (.tup (k.map kV)), ⟨sm, fun a u ha => ?_⟩, .inr ⟨T, _, [.tup (k.map keyD), d1], rfl, hT, rfl, rfl, _, _, rfl, ⟨q, _, rfl, upd_same, rdl_key k⟩, _, _, rfl, RdD.mono (s.trans sm) _ _ g2, rfl⟩⟩
    by_cases z : a = q
    · subst z
      rw [upd_same] at ha
      cases ha
      exact .inr ⟨⟨_, rfl⟩, hq⟩
    · rw [upd_ne z] at ha
      exact .inl ha
/-- x.items() -/
def itItmS (i : Nat) : DA := fun env => match env[i]? with
  | some (.imm (.dcf ks vs)) => .ok (pairs ks vs, env)
  | some (.own (.dct ks vs)) => .ok (pairs ks vs, env.set i (.imm (.dcf ks vs)))
  | _ => .bad
def itItmF (f : DE) : DA := fun env => (f env).bind fun p => match p.1 with
  | .fresh (.dct ks vs) => .ok (pairs ks vs, p.2)
  | .imm (.dcf ks vs) => .ok (pairs ks vs, p.2)
  | _ => .bad
/-- a dict that nobody else holds is locked, and data from then on -/
theorem lock_free {W : Wd} {Fm Hb H : Hp} {ia : Option Addr} {env : Env'} {σ : L2.St} {d : Addr} {o : HO} (A : Agr W Fm Hb ia env σ H) (h1 : Hb d = none) (h2 : Fm d = none) (h3 : ∀ i e, Owns env i e → σ[i]? ≠ some (some (.ref d))) :
    Same Hb (upd Hb d o) ∧ Agr W Fm (upd Hb d o) ia env σ (upd H d o) :=
  ⟨same_lay h1, (A.put h1 h2 h3).freeze h1 h2 upd_same h3⟩
theorem si_itmS {X : Cx} {EX : XK} {e : Expr} {i : Nat} {apos cpos tpos : Pos} {elts : List Expr} {kk : Nat} (he : PE X e (tVar i)) (hbase : attributeBase e "items" X.env (eval e X.env) = eval e X.env) (hline : (apos.endLine == cpos.line) = true) :
    SI X EX (.Tuple elts kk tpos) (.Call (.Attribute e "items" apos) [] [] cpos) (itItmS i) := by
  refine ⟨_, pi_itm he hbase hline, fun Fm Hb ia σ env H R A p => ?_⟩
  unfold itItmS at p
  split at p
  · rename_i ks vs hd
    obtain ⟨v, h1, a, rfl, kk, us, o, h2, h3, rfl, h5⟩ := A.imm i _ hd
    exact ⟨.ref a, h1, a, _, rfl, .inl ⟨o, A.bs.hb _ _ h2, p H Hb (Same.refl _) A _ (yields_i h2 h3 h5)⟩⟩
  · rename_i ks vs hd
    obtain ⟨a, g1, g2, g3, kk, us, h2, h3, rfl, h5⟩ := A.own i _ (.inl hd)
    refine ⟨.ref a, g1, a, _, rfl, .inr ⟨h2, fun o => ?_⟩⟩
    obtain ⟨a', k1, k2, k3, k4, A1, k5⟩ := A.hand hd
    rw [g1] at k1
    cases k1
    have hl : i < env.length := (List.getElem?_eq_some_iff.mp hd).1
    obtain ⟨s, A2⟩ := lock_free (o := .frz o (.dT (kk.zip us))) A1 g2 g3 k5
    have r : RdD (wd X) (upd Hb a (.frz o (.dT (kk.zip us)))) (.dcf (kk.map fun k => .tup (k.map keyD)) vs) (.ref a) := ⟨a, rfl, kk, us, o, upd_same, h3, rfl, RdL.mono s _ _ h5⟩
    have A3 := A2.setImm (i := i) (by rw [List.length_set]; exact hl) (fun e z => by rw [List.getElem?_set_self hl] at z; cases z) r
    rw [set_self g1, List.set_set] at A3
    exact p _ _ s A3 _ (yields_i upd_same h3 (RdL.mono s _ _ h5))
  · exact p.elim
theorem si_itmF {X : Cx} {EX : XK} {e : Expr} {f : DE} {apos cpos tpos : Pos} {elts : List Expr} {kk : Nat} (he : SE X EX e f) (hbase : attributeBase e "items" X.env (eval e X.env) = eval e X.env) (hline : (apos.endLine == cpos.line) = true) :
    SI X EX (.Tuple elts kk tpos) (.Call (.Attribute e "items" apos) [] [] cpos) (itItmF f) := by
  refine ⟨_, pi_itm he hbase hline, fun Fm Hb ia σ env H R A p => ?_⟩
  refine ⟨Fm, Hb, ia, env, A, Post.bind p fun val e1 H1 Hb1 s1 A1 q1 v hv => ?_⟩
  dsimp only at q1
  split at q1
  · rename_i x ks vs
    obtain ⟨a, rfl, g2, g3, ⟨kk, us, h2, h3, rfl, h5⟩, k5⟩ := hv
    refine ⟨a, _, rfl, .inr ⟨h2, fun o => ?_⟩⟩
    obtain ⟨s, A2⟩ := lock_free (o := .frz o (.dT (kk.zip us))) A1 g2 g3 k5
    exact q1 _ _ s A2 _ (yields_i upd_same h3 (RdL.mono s _ _ h5))
  · rename_i x ks vs
    obtain ⟨a, rfl, kk, us, o, h2, h3, rfl, h5⟩ := hv
    exact ⟨a, _, rfl, .inl ⟨o, A1.bs.hb _ _ h2, q1 H1 Hb1 (Same.refl _) A1 _ (yields_i h2 h3 h5)⟩⟩
  · exact q1.elim
end G


set_option maxRecDepth 100000
set_option maxHeartbeats 4000000
/-! Kern20: dicts keyed by tuples: {}, {k: v}, d.get(k, z), d[k] = v. -/
namespace G
open PySem PySem.Spec PyProof.Rows L2
def keyL : Dt → Option Key
  | .int i => some (.inl i)
  | .str x => some (.inr x)
  | _ => none
def keysL : List Dt → Option (List Key)
  | [] => some []
  | d :: ds => match keyL d, keysL ds with
    | some k, some ks => some (k :: ks)
    | _, _ => none
def keyOf : Dt → Option (List Key)
  | .tup ds => keysL ds
  | _ => none
theorem keysL_rd {W : Wd} {H : Hp} : ∀ {ds : List Dt} {k : List Key} {vs : List V}, keysL ds = some k → RdL W H ds vs → vs = k.map kV ∧ ds = k.map keyD
  | [], k, vs, h, r => by
    cases h
    cases (show vs = [] from r)
    exact ⟨rfl, rfl⟩
  | d :: ds, k, vs, h, r => by
    obtain ⟨v, us, rfl, r1, r2⟩ := r
    unfold keysL at h
    split at h
    · rename_i k1 ks1 h1 h2
      cases h
      obtain ⟨e1, e2⟩ := keysL_rd h2 r2
      subst e1 e2
      cases d <;> first
        | cases h1
        | skip
      · cases (show v = _ from r1)
        exact ⟨rfl, rfl⟩
      · cases (show v = _ from r1)
        exact ⟨rfl, rfl⟩
    · cases h
theorem keysL_keyD : ∀ (k : List Key), keysL (k.map keyD) = some k
  | [] => rfl
  | .inl i :: k => by
    show (match keyL (.int i), keysL (k.map keyD) with
      | some k, some ks => some (k :: ks)
      | _, _ => none) = _
    rw [keysL_keyD k]
    rfl
  | .inr x :: k => by
    show (match keyL (.str x), keysL (k.map keyD) with
      | some k, some ks => some (k :: ks)
      | _, _ => none) = _
    rw [keysL_keyD k]
    rfl
theorem keyOf_rd {W : Wd} {H : Hp} {d : Dt} {k : List Key} {v : V} (h : keyOf d = some k) (r : RdD W H d v) : d = .tup (k.map keyD) ∧ ∃ b, v = .ref b ∧ H b = some (.tup (k.map kV)) := by
  cases d <;> first
    | cases h
    | skip
  rename_i ds
  obtain ⟨b, vs, rfl, h1, h2⟩ := r
  obtain ⟨e1, e2⟩ := keysL_rd h h2
  subst e1 e2
  exact ⟨rfl, b, rfl, h1⟩
/-- what stands under a key -/
def valD (k : List Key) : List Dt → List Dt → Option Dt
  | kd :: ks, v :: vs => if keyOf kd = some k then some v else valD k ks vs
  | _, _ => none
/-- the values with one replaced -/
def repD (k : List Key) (x : Dt) : List Dt → List Dt → List Dt
  | kd :: ks, v :: vs => (if keyOf kd = some k then x else v) :: repD k x ks vs
  | _, _ => []
def putDct (key x : Dt) : Dt → Option Dt
  | .dct ks vs => if ks.length < sizeLine then match keyOf key with
    | some k => if (valD k ks vs).isSome then some (.dct ks (repD k x ks vs)) else some (.dct (ks ++ [key]) (vs ++ [x]))
    | none => none else none
  | _ => none
theorem keyOf_keyD (k : List Key) : keyOf (.tup (k.map keyD)) = some k := keysL_keyD k
abbrev keyT (k : List Key) : Dt := .tup (k.map keyD)
theorem valD_val {W : Wd} {H : Hp} (k : List Key) : ∀ {kk : List (List Key)} {ds : List Dt} {vs : List V}, kk.length = vs.length → RdL W H ds vs →
    (valD k (kk.map keyT) ds = none ∧ valV (kk.zip vs) k = none) ∨ ∃ d v, valD k (kk.map keyT) ds = some d ∧ valV (kk.zip vs) k = some v ∧ RdD W H d v
  | [], ds, vs, hl, r => .inl ⟨rfl, rfl⟩
  | a :: kk, ds, vs, hl, r => by
    cases vs with
    | nil => cases hl
    | cons v vs =>
      cases ds with
      | nil => cases (show v :: vs = [] from r)
      | cons d ds =>
        obtain ⟨v', us, e, r1, r2⟩ := r
        cases e
        by_cases hk : a = k
        · subst hk
          refine .inr ⟨d, v, ?_, ?_, r1⟩
          · show (if keyOf (keyT a) = some a then some d else _) = _
            rw [if_pos (keyOf_keyD a)]
          · exact valV_pos (p := (a, v)) rfl
        · have h1 : valD k ((a :: kk).map keyT) (d :: ds) = valD k (kk.map keyT) ds := by
            show (if keyOf (keyT a) = some k then some d else _) = _
            rw [if_neg (by rw [keyOf_keyD]; exact fun z => hk (Option.some.inj z))]
          have h2 : valV ((a :: kk).zip (v :: vs)) k = valV (kk.zip vs) k := valV_neg (p := (a, v)) hk
          rw [h1, h2]
          exact valD_val k (by simpa using hl) r2
theorem repD_put {W : Wd} {H : Hp} (k : List Key) {x : Dt} {y : V} (rx : RdD W H x y) : ∀ {kk : List (List Key)} {ds : List Dt} {vs : List V}, kk.length = vs.length → RdL W H ds vs →
    ∃ us, (kk.zip vs).map (fun kv => if kv.1 = k then (kv.1, y) else kv) = kk.zip us ∧ kk.length = us.length ∧ RdL W H (repD k x (kk.map keyT) ds) us
  | [], ds, vs, hl, r => ⟨[], rfl, rfl, rfl⟩
  | a :: kk, ds, vs, hl, r => by
    cases vs with
    | nil => cases hl
    | cons v vs =>
      cases ds with
      | nil => cases (show v :: vs = [] from r)
      | cons d ds =>
        obtain ⟨v', us, e, r1, r2⟩ := r
        cases e
        obtain ⟨ws, w1, w2, w3⟩ := repD_put k rx (kk := kk) (by simpa using hl) r2
        by_cases hk : a = k
        · subst hk
          refine ⟨y :: ws, ?_, by simp [w2], ?_⟩
          · rw [List.zip_cons_cons, List.map_cons, w1, if_pos rfl, List.zip_cons_cons]
          · show RdL W H ((if keyOf (keyT a) = some a then x else d) :: _) _
            rw [if_pos (keyOf_keyD a)]
            exact ⟨_, _, rfl, rx, w3⟩
        · refine ⟨v :: ws, ?_, by simp [w2], ?_⟩
          · rw [List.zip_cons_cons, List.map_cons, w1, if_neg hk, List.zip_cons_cons]
          · show RdL W H ((if keyOf (keyT a) = some k then x else d) :: _) _
            rw [if_neg (by rw [keyOf_keyD]; exact fun z => hk (Option.some.inj z))]
            exact ⟨_, _, rfl, r1, w3⟩
/-- what a store makes -/
theorem own_put {W : Wd} {Hb H : Hp} {a : Addr} {ks ds : List Dt} {d' key x : Dt} {y : V} (h : OwnAt W Hb H a (.dct ks ds)) (hp : putDct key x (.dct ks ds) = some d') (rx : RdD W Hb x y) :
    ∃ kvs k, H a = some (.dT kvs) ∧ keyOf key = some k ∧ kvs.length < sizeLine ∧ OwnAt W Hb (upd H a (.dT (putK kvs k y))) a d' := by
  obtain ⟨kk, vs, h1, h2, rfl, h4⟩ := h
  simp only [putDct] at hp
  split at hp
  · rename_i hz
    split at hp
    · rename_i k hk
      refine ⟨_, k, h1, hk, by rw [List.length_zip]; rw [List.length_map] at hz; omega, ?_⟩
      have any : ((kk.zip vs).any fun kv => decide (kv.1 = k)) = (valV (kk.zip vs) k).isSome := valV_any k _
      split at hp
      · rename_i hs
        cases hp
        rcases valD_val k h2 h4 with ⟨e1, _⟩ | ⟨d, v, e1, e2, e3⟩
        · rw [show (fun k : List Key => Dt.tup (k.map keyD)) = keyT from rfl, e1] at hs
          cases hs
        · obtain ⟨us, u1, u2, u3⟩ := repD_put k rx h2 h4
          refine ⟨kk, us, ?_, u2, rfl, u3⟩
          rw [upd_same]
          unfold putK
          rw [any, e2]
          rw [if_pos (show (some v).isSome = true from rfl), u1]
      · rename_i hs
        cases hp
        rcases valD_val k h2 h4 with ⟨_, e2⟩ | ⟨d, v, e1, e2, e3⟩
        · have hd : key = .tup (k.map keyD) := by
            cases key <;> first
              | cases hk
              | skip
            rename_i ds
            congr 1
            exact keysD_of hk
          refine ⟨kk ++ [k], vs ++ [y], ?_, by simp [h2], by rw [List.map_append, hd]; rfl, h4.append ⟨y, [], rfl, rx, rfl⟩⟩
          rw [upd_same]
          unfold putK
          rw [any, e2, if_neg (fun z => by cases z), List.zip_append h2]
          rfl
        · rw [show (fun k : List Key => Dt.tup (k.map keyD)) = keyT from rfl, e1] at hs
          exact absurd rfl hs
    · cases hp
  · cases hp
where keysD_of : ∀ {ds : List Dt} {k : List Key}, keysL ds = some k → ds = k.map keyD
  | [], k, h => by cases h; rfl
  | d :: ds, k, h => by
    unfold keysL at h
    split at h
    · rename_i k1 ks1 h1 h2
      cases h
      rw [keysD_of h2]
      cases d <;> first
        | cases h1
        | skip
      · rfl
      · rfl
    · cases h
def isDct : Slot → Bool
  | .own (.dct _ _) => true
  | _ => false
def dDNew : DE := fun env => .ok (.fresh (.dct [] []), env)
def dDGet (i : Nat) (fk fz : DE) : DE := fun env => if (env[i]?.map isDct) = some true then (fk env).bind fun p => (fz p.2).bind fun q => match q.2[i]? with
  | some (.own (.dct ks vs)) => match keyOf p.1.d with
    | some k => .ok (.imm ((valD k ks vs).getD q.1.d), q.2)
    | none => .bad
  | _ => .bad else .bad
def sDctPut (i : Nat) (fk f : DE) : DS := fun env => (f env).bind fun p => if (p.2[i]?.map isDct) = some true then (fk p.2).bind fun q => slotWr i q.2 (putDct q.1.d p.1.d) else .bad
def dDisp1 (fk fv : DE) : DE := fun env => (fk env).bind fun p => (fv p.2).bind fun q => match keyOf p.1.d with
  | some _ => .ok (.fresh (.dct [p.1.d] [q.1.d]), q.2)
  | none => .bad
section
variable {W : Wd} {EX : XK} {Fm Hb H : Hp} {ia : Option Addr} {env : Env'} {σ : L2.St} {D : Ends}
theorem dct_at (A : Agr W Fm Hb ia env σ H) {i : Nat} (h : (env[i]?.map isDct) = some true) : ∃ a kvs, σ[i]? = some (some (.ref a)) ∧ H a = some (.dT kvs) := by
  obtain ⟨s, h1, h2⟩ := Option.map_eq_some_iff.mp h
  cases s with
  | own d =>
    cases d <;> first
      | cases h2
      | skip
    obtain ⟨a, g1, _, _, kk, vs, g2, _⟩ := A.own i _ (.inl h1)
    exact ⟨a, _, g1, g2⟩
  | io d => cases h2
  | un => cases h2
  | imm d => cases h2
end
section
variable {X : Cx} {EX : XK} {pos pos' apos cpos : Pos} {e o k v z : Expr} {fk fv fz : DE} {i : Nat}
theorem se_dnew : SE X EX (.Dict [] [] pos) dDNew := pe_mono pe_dnewT fun σ H Q ⟨Fm, Hb, ia, env, A, p⟩ => fun a ha => by
  obtain ⟨h1, h2⟩ := A.bs.free ha
  exact p _ Hb (Same.refl _) (A.put h1 h2 (A.apart ha)) _ ⟨a, rfl, h1, h2, ⟨[], [], upd_same, rfl, rfl, rfl⟩, A.apart ha⟩
theorem se_dget (hu : X.A.units + 1 < cLine) (ho : PE X o (tVar i)) (hk : SE X EX k fk) (hz : SE X EX z fz) (m : M2 X o "get" apos k z cpos) : SE X EX (.Call (.Attribute o "get" apos) [k, z] [] cpos) (dDGet i fk fz) :=
  pe_mono (pe_dget2 hu ho hk hz m) fun σ H Q ⟨Fm, Hb, ia, env, A, p⟩ => by
    unfold dDGet at p
    split at p
    · rename_i ht
      obtain ⟨a, kvs, g1, g2⟩ := dct_at A ht
      refine ⟨.ref a, g1, a, rfl, .inr ⟨kvs, .inl g2⟩, Fm, Hb, ia, env, A, Post.bindV p fun kd e1 y H1 Hb1 s1 A1 r1 q1 => ⟨Fm, Hb1, ia, e1, A1, Post.bindV q1 fun zd e2 w H2 Hb2 s2 A2 r2 q2 => ?_⟩⟩
      dsimp only at q2
      split at q2
      · rename_i ks vs hs
        split at q2
        · rename_i kl hkl
          obtain ⟨a', k1, _, _, kk, us, k2, k3, rfl, k5⟩ := A2.own i _ (.inl hs)
          rw [g1] at k1
          cases k1
          obtain ⟨_, b, rfl, hb⟩ := keyOf_rd hkl (RdD.mono s2 _ _ r1)
          refine ⟨_, DGet.t k2 (A2.bs.hb _ _ hb), ?_⟩
          rcases valD_val kl k3 k5 with ⟨e1, e2⟩ | ⟨d, v, e1, e2, e3⟩
          · rw [e2]
            have q2 := q2 H2 Hb2 (Same.refl _) A2
            rw [show (fun k : List Key => Dt.tup (k.map keyD)) = keyT from rfl, e1] at q2
            exact q2 _ r2
          · rw [e2]
            have q2 := q2 H2 Hb2 (Same.refl _) A2
            rw [show (fun k : List Key => Dt.tup (k.map keyD)) = keyT from rfl, e1] at q2
            exact q2 _ e3
        · exact q2.elim
      · exact q2.elim
    · exact p.elim
theorem ss_dput (hu : X.A.units + 1 < cLine) (ho : PE X o (tVar i)) (hk : SE X EX k fk) (hv : SE X EX v fv) (hs : swapsWith v (some (.Subscript o k pos')) pos.line X.env = pure false) :
    SS X EX (.Assign [.Subscript o k pos'] v pos) (sDctPut i fk fv) := ps_mono (ps_dput hu ho hk hv hs) fun D σ H ⟨Fm, Hb, ia, env, A, p⟩ =>
  ⟨Fm, Hb, ia, env, A, Post.bindVS p fun val e1 w H1 Hb1 s1 A1 r1 q1 => by
    dsimp only at q1
    split at q1
    · rename_i ht
      obtain ⟨a, kvs, g1, g2⟩ := dct_at A1 ht
      refine ⟨.ref a, g1, Fm, Hb1, ia, e1, A1, Post.bindVS q1 fun kd e2 y H2 Hb2 s2 A2 r2 q2 => ?_⟩
      obtain ⟨a', d, d', mk, k1, k2, k3, k4, k5⟩ := slot_wr A2 q2
      rw [g1] at k1
      cases k1
      cases d <;> first
        | cases k2
        | skip
      rename_i ks ds
      obtain ⟨kvs', kl, h1, h2, h3, h4⟩ := own_put k3 k2 (RdD.mono s2 _ _ r1)
      obtain ⟨_, b, rfl, hb⟩ := keyOf_rd h2 r2
      exact ⟨a, _, rfl, DPut.t h1 (A2.bs.hb _ _ hb) h3, k5 σ _ Hb2 (Same.refl _) (k4 _ h4)⟩
    · exact q1.elim⟩
end
end G


set_option maxRecDepth 100000
set_option maxHeartbeats 4000000
/-! Kern21: {k: v} with a tuple as key; defs with defaults. -/
namespace G
open PySem PySem.Spec PyProof.Rows L2
/-- {k: v}, k a tuple -/
def tDispT (tk tv : TE) : TE := fun σ H Q => ∀ p, H p = none → tPairs [(tk, tv)] σ (upd H p (.dT [])) fun ps H2 => ∃ y b kk, ps = [(.ref b, y)] ∧ H2 p = some (.dT []) ∧ H2 b = some (.tup (kk.map kV)) ∧ Q (.ref p) (upd H2 p (.dT [(kk, y)]))
theorem pe_dispT {X : Cx} {pos : Pos} {k v : Expr} {tk tv : TE} (hu : X.A.units + 1 < cLine) (hk : PE X k tk) (hv : PE X v tv) : PE X (.Dict [some k] [v] pos) (tDispT tk tv) := by
  refine ⟨fun pins s σ H Q I q => ?_⟩
  have hn := I.hok.fresh (Nat.le_refl s.heap.objs.size)
  have I1 := I.laid (a := s.heap.objs.size) (o := .dT []) (h' := s.heap.push { cls := .type "dict", data := .dict #[] }) (t' := s.toks) (fun _ _ q => Heap.get?_push_of_some _ q) (Nat.le_refl _) (dt_empty s.heap I.big)
  rw [arm_eval_Dict, zip_pairTrees [some k] [v] X.env pos rfl rfl, dictDisplay_pairs (pairTrees [some k] [v] X.env pos) (by intro e; cases e) (by rw [pairTrees_length _ _ _ _ rfl rfl]; show 1 < 17; omega)]
  refine wpAny_bind (wpAny_standAt (wpAny_bind (wpAny_subDictH (knd := tupleKind (mixKind X.prog X.w)) (Q := fun d s' => wpAny (model X.prog X.w) X.A (pure (Value.ref d)) _ X.xe s') (show X.A.units < cLine by omega) (by rw [pairTrees_length _ _ _ _ rfl rfl]; show 1 ≤ 15; omega)
    (thn ((pps_cons hk hv pps_nil).run pins _ σ _ _ I1 (q _ hn)) fun ws s2 ⟨ps, H2, I2, rel, y, b, kk, ep, e1, e2, q2⟩ => ?_))))
  subst ep
  cases rel with
  | @cons a c as bs h t =>
    cases t
    obtain ⟨c1, c2⟩ := c
    obtain ⟨r1, r2⟩ := h
    cases (show c1 = Value.ref b from r1)
    obtain ⟨z, hd, xs, rl, dd⟩ := dt_of I2.hok e1
    cases rl
    have key := key_of I2.hok e2
    refine ⟨[(kk, b, c2)], ⟨rfl, rfl, key, trivial⟩, dd, fun h' tk' dd' hs => wpAny_pure ?_⟩
    obtain ⟨o, es, ep, hq, h2, h3, h4, _, h5⟩ := dd'
    refine ⟨.ref s.heap.objs.size, _, d_write (ob := .dT [(kk, y)]) I2 (by rw [e1]; exact True.intro) hs ⟨o, hq⟩ ⟨by show 1 ≤ sizeLine; decide, hd, [(kk, b, c2)], .cons ⟨rfl, ?_, r2⟩ .nil, o, es, ep, hq, h2, h3, h4, h5⟩, rfl, q2⟩
    rw [upd_ne (ne_of e2 e1 (fun z => nomatch z))]
    exact e2
theorem Post.unal {W : Wd} {EX : XK} {Fm Hb : Hp} {ia : Option Addr} {σ : L2.St} {β γ : Type} {q : Addr} {o : HO} {G' : γ → Env' → Hp → Hp → Prop} {G : β → Env' → Hp → Hp → Prop} (hq : Fm q = none) {r : Res (β × Env')} {k : β × Env' → Res (γ × Env')} (p : Post W EX Fm Hb ia σ G' (r.bind k))
    (hk : ∀ b e H' Hb', Same Hb Hb' → Agr W (upd Fm q o) Hb' ia e σ H' → Post W EX Fm Hb' ia σ G' (k (b, e)) → G b e Hb' H') : Post W EX (upd Fm q o) Hb ia σ G r := by
  cases r with
  | ok z =>
    obtain ⟨b, e⟩ := z
    exact fun H' Hb' s A => hk b e H' Hb' s A (Post.mono s p)
  | err x => exact fun c dx H' Hb' s b e => p c dx H' Hb' s (b.unalien hq) e
  | bad => exact p.elim
theorem se_disp1 {X : Cx} {EX : XK} {pos : Pos} {k v : Expr} {fk fv : DE} (hu : X.A.units + 1 < cLine) (hk : SE X EX k fk) (hv : SE X EX v fv) : SE X EX (.Dict [some k] [v] pos) (dDisp1 fk fv) := pe_mono (pe_dispT hu hk hv) fun σ H Q ⟨Fm, Hb, ia, env, A, p⟩ => fun q hq => by
  obtain ⟨h1, h2⟩ := A.bs.free hq
  have A0 : Agr (wd X) (upd Fm q (.dT [])) Hb ia env σ (upd H q (.dT [])) := Agr.alien (A.put h1 h2 (A.apart hq) (o := .dT [])) (fun vs e => by cases e) h1 upd_same (A.apart hq)
  refine ⟨_, Hb, ia, env, A0, Post.unal h2 p fun vk e1 H1 Hb1 s1 A1 p1 => GE.use (fun d Hb2 x ed s2 A2 r2 => ?_) A1⟩
  refine ⟨_, Hb2, ia, e1, A2, Post.unal h2 (Post.mono s2 p1) fun vv e2 H3 Hb3 s3 A3 p3 => GE.use (fun d' Hb4 y ed' s4 A4 r4 => ?_) A3⟩
  have p4 := Post.mono s4 p3
  dsimp only at p4
  rw [ed, ed'] at p4
  split at p4
  · rename_i kk hkk
    obtain ⟨ek, b, rfl, hb⟩ := keyOf_rd hkk (RdD.mono (s3.trans s4) _ _ r2)
    have hq4 : H3 q = some (.dT []) := A4.bs.fm q _ upd_same
    refine ⟨y, b, kk, rfl, hq4, A4.bs.hb _ _ hb, ?_⟩
    have A6 := (Agr.alienSet (o' := .dT [(kk, y)]) A4 (fun vs e => by cases e) h2).unalien h2
    refine p4 _ Hb4 (Same.refl _) A6 _ ⟨q, rfl, A4.bs.dj q _ upd_same, h2, ⟨[kk], [y], upd_same, rfl, by rw [ek]; rfl, ⟨y, [], rfl, r4, rfl⟩⟩, fun i d ho hz => ?_⟩
    obtain ⟨a, g1, g2, g3, g4⟩ := A4.own i d ho
    rw [hz] at g1
    cases g1
    exact (upd_none g3).1 rfl
  · exact p4.elim

/-! ### defs with defaults -/
structure FunT (K : PySem.W.Frag) (x qual : Str) (st : Stmt) (dvs : List V) (f : Addr) (fd : FuncData) : Prop where
  ex : ∃ (oc : Value) (od : Option Addr) (T : Addr) (oT : Obj) (n : Nat) (its : List Value) (kV doc pm : Value) (an : Option Addr) (cdv ct : Value) (osl : Array (Option Value)),
    fd = PySem.W.fnOf x qual (defArgs st) (defBody st) (defScope st) (.ref T) kV doc pm an cdv ct ∧ K.lookup f = some ⟨oc, od, .func fd, osl⟩ ∧ PySem.W.codeIn K cdv qual = true ∧ K.lookup T = some oT ∧ oT.data = .seq its.toArray n ∧ Vals dvs its
  kp : PySem.W.keepIn K (.ref f) = true
def Src.uD (us ws its : List Value) : Src → Value
  | .pos i => (us[i]?).getD .none
  | .kw j => (ws[j]?).getD .none
  | .cst j _ => (its[j]?).getD .none
def Src.isC (dvs : List V) : Src → Prop
  | .cst j v => dvs[j]? = some v
  | _ => True
theorem src_relD {vs zs dvs : List V} {us ws its : List Value} (r1 : Vals vs us) (r2 : Vals zs ws) (r3 : Vals dvs its) : ∀ {src : List Src}, src.all (Src.ok vs.length zs.length) = true → (∀ s ∈ src, s.isC dvs) → Vals (src.map (Src.v vs zs)) (src.map (Src.uD us ws its))
  | [], _, _ => .nil
  | x :: src, h, k => by
    rw [List.all_cons, Bool.and_eq_true] at h
    have kx := k x List.mem_cons_self
    refine .cons ?_ (src_relD r1 r2 r3 h.2 fun s hs => k s (List.mem_cons_of_mem _ hs))
    cases x with
    | pos i =>
      have hi : i < vs.length := of_decide_eq_true h.1
      have e1 := List.getElem?_eq_getElem hi
      obtain ⟨u, e2, r⟩ := r1.get e1
      show RelV ((vs[i]?).getD .non) ((us[i]?).getD .none)
      rw [e1, e2]
      exact r
    | kw i =>
      have hi : i < zs.length := of_decide_eq_true h.1
      have e1 := List.getElem?_eq_getElem hi
      obtain ⟨u, e2, r⟩ := r2.get e1
      show RelV ((zs[i]?).getD .non) ((ws[i]?).getD .none)
      rw [e1, e2]
      exact r
    | cst j v =>
      obtain ⟨u, e2, r⟩ := r3.get (show dvs[j]? = some v from kx)
      show RelV v ((its[j]?).getD .none)
      rw [e2]
      exact r
section
variable {P : Program} {w : World} {K : PySem.W.Frag} {mg : Str → Option Value} {base : Heap} {x qual : Str} {st : Stmt} {f : Addr} {fd : FuncData} {N ps : List Str} {k : Nat} {dvs : List V}
theorem funT_mk {T : Addr} {oc tc : Value} {od an td : Option Addr} {osl tsl : Array (Option Value)} {kV doc pm cdv ct : Value} {its : List Value} {n : Nat} (l : K.lookup f = some ⟨oc, od, .func (PySem.W.fnOf x qual (defArgs st) (defBody st) (defScope st) (.ref T) kV doc pm an cdv ct), osl⟩)
    (lT : K.lookup T = some ⟨tc, td, .seq its.toArray n, tsl⟩) (r : Vals dvs its)
    (c : PySem.W.codeIn K cdv qual = true) (k : PySem.W.keepIn K (.ref f) = true) : FunT K x qual st dvs f (PySem.W.fnOf x qual (defArgs st) (defBody st) (defScope st) (.ref T) kV doc pm an cdv ct) := ⟨⟨oc, od, T, _, n, its, kV, doc, pm, an, cdv, ct, osl, rfl, l, c, lT, rfl, r⟩, k⟩
theorem shape_ofD (F : FunT K x qual st dvs f fd) (sh : Shape) (hok : sh.src.all (Src.ok sh.np sh.ks.length) = true) (hc : ∀ s ∈ sh.src, s.isC dvs)
    (h : ∀ (T : Addr) (kV doc pm : Value) (an : Option Addr) (cdv ct : Value) (us ws its : List Value), us.length = sh.np → ws.length = sh.ks.length → its.length = dvs.length →
      ∃ k, bindArgs (PySem.W.fnOf x qual (defArgs st) (defBody st) (defScope st) (.ref T) kV doc pm an cdv ct) ⟨us, sh.ks.zip ws⟩ = seqItems? (.ref T) >>= k ∧ k (some its.toArray) = pure (ps.zip (sh.src.map (Src.uD us ws its)))) : ∃ g, ShapeOk K fd ps sh g := by
  obtain ⟨oc, od, T, oT, n, its, kV, doc, pm, an, cdv, ct, osl, rfl, lk, hcd, lT, dT, rT⟩ := F.ex
  refine ⟨fun us ws => sh.src.map (Src.uD us ws its), fun s us ws X h1 h2 => ?_, fun r1 r2 h1 h2 => src_relD r1 r2 rT (by rw [h1, h2]; exact hok) hc⟩
  obtain ⟨k, e1, e2⟩ := h T kV doc pm an cdv ct us ws its h1 h2 rT.length.symm
  refine BindsTo.of_looks fun M => ?_
  rw [e1]
  exact looks_items X lT dT (.of_pure e2)
theorem fn_textD {io : Bool} {fb : DS} (F : FunT K x qual st dvs f fd) (S : FnScope N ps (defScope st))
    (hb : ∀ (cdv : Value) (A : Around) (outer : List Env) (s : Shared) (H : Hp) (E : XK), (A.deeper (envOfC qual (defScope st) s.heap.objs.size f cdv)).guards = some [] → Room k (A.deeper (envOfC qual (defScope st) s.heap.objs.size f cdv)) → SSs (CB P w K mg base N qual (defScope st) f cdv A outer s H E) E (defBody st) fb) :
    FnG P w K mg base (k + 1) f fd ps (spF ⟨K, mg⟩ ps.length io (runF io N.length fb)) := by
  obtain ⟨oc, od, T, oT, n, its, kV, doc, pm, an, cdv, ct, osl, rfl, lk, hcd, lT, dT, rT⟩ := F.ex
  exact fn_body lk hcd S fun A outer s H E hg hr => hb cdv A outer s H E hg hr
theorem un1 {k : Nat} {A : Around} (hr : Room k A) : A.units + 1 < cLine := by have := hr.un; omega
end
end G


set_option maxRecDepth 100000
set_option maxHeartbeats 4000000
/-! Kern22: how loops and comprehensions are read, once for all. -/
namespace G
open PySem PySem.Spec PyProof.Rows L2
/-- a loop whose turns all go on -/
theorem loop_inv {g : DG} {f : DS} (P : Nat → Env' → Prop) : ∀ (ds : List Dt) {k : Nat} {env : Env'}, P k env →
    (∀ i (hi : i < ds.length) e, P (k + i) e → ∃ e1 e2, g ds[i] e = .ok e1 ∧ f e1 = .ok (.nx, e2) ∧ P (k + i + 1) e2) → ∃ e', sLoop g f ds env = .ok (.nx, e') ∧ P (k + ds.length) e'
  | [], k, env, h0, _ => ⟨env, rfl, h0⟩
  | d :: ds, k, env, h0, h => by
    obtain ⟨e1, e2, h1, h2, h3⟩ := h 0 (by simp) env h0
    obtain ⟨e', h4, h5⟩ := loop_inv P ds (k := k + 1) (env := e2) h3 (fun i hi e pe => by
      have := h (i + 1) (by simpa using hi) e (by rw [show k + (i + 1) = k + 1 + i by omega]; exact pe)
      rw [show k + (i + 1) + 1 = k + 1 + i + 1 by omega] at this
      simpa using this)
    refine ⟨e', ?_, by rw [List.length_cons, show k + (ds.length + 1) = k + 1 + ds.length by omega]; exact h5⟩
    unfold sLoop
    rw [show g d env = .ok e1 from h1]
    dsimp only
    rw [h2, Res.bind_ok]
    exact h4
/-- a loop over a list that is told by α, a state that is told by β -/
theorem loop_fold {α β : Type} {g : DG} {f : DS} (nf : α → Dt) (step : β → α → β) (P : β → Env' → Prop) : ∀ (xs : List α) {b : β} {env : Env'}, P b env →
    (∀ x ∈ xs, ∀ b e, P b e → ∃ e1 e2, g (nf x) e = .ok e1 ∧ f e1 = .ok (.nx, e2) ∧ P (step b x) e2) → ∃ e', sLoop g f (xs.map nf) env = .ok (.nx, e') ∧ P (xs.foldl step b) e'
  | [], b, env, h0, _ => ⟨env, rfl, h0⟩
  | x :: xs, b, env, h0, h => by
    obtain ⟨e1, e2, h1, h2, h3⟩ := h x List.mem_cons_self b env h0
    obtain ⟨e', h4, h5⟩ := loop_fold nf step P xs h3 fun y hy => h y (List.mem_cons_of_mem _ hy)
    refine ⟨e', ?_, h5⟩
    rw [List.map_cons]
    unfold sLoop
    rw [h1]
    dsimp only
    rw [h2, Res.bind_ok]
    exact h4
theorem for_of {it : DA} {g : DG} {f : DS} {env e1 e2 : Env'} {ds : List Dt} (h1 : it env = .ok (ds, e1)) (h2 : sLoop g f ds e1 = .ok (.nx, e2)) : sFor it g f env = .ok (.nx, e2) := by
  unfold sFor
  rw [h1, Res.bind_ok]
  exact h2
/-- a comprehension whose turns leave all as it was -/
theorem lc_pure {α : Type} {vs : List Nat} {g : DG} {t : DT} {f : DE} {env : Env'} (nf φ : α → Dt) : ∀ (xs : List α), (∀ x ∈ xs, lcTurn vs g t f (nf x) env = .ok (some (φ x), env)) → lcLoop vs g t f (xs.map nf) env = .ok (xs.map φ, env)
  | [], _ => rfl
  | x :: xs, h => by
    rw [List.map_cons]
    unfold lcLoop
    rw [h x List.mem_cons_self, Res.bind_ok, lc_pure nf φ xs fun y hy => h y (List.mem_cons_of_mem _ hy)]
    rfl
/-- .. and that may leave items out -/
theorem lc_filter {α : Type} {vs : List Nat} {g : DG} {t : DT} {f : DE} {env : Env'} (nf φ : α → Dt) (p : α → Bool) : ∀ (xs : List α), (∀ x ∈ xs, lcTurn vs g t f (nf x) env = .ok (if p x = true then some (φ x) else none, env)) → lcLoop vs g t f (xs.map nf) env = .ok ((xs.filter p).map φ, env)
  | [], _ => rfl
  | x :: xs, h => by
    rw [List.map_cons]
    unfold lcLoop
    rw [h x List.mem_cons_self, Res.bind_ok, lc_filter nf φ p xs fun y hy => h y (List.mem_cons_of_mem _ hy)]
    by_cases hp : p x = true
    · rw [if_pos hp, List.filter_cons_of_pos hp]
      rfl
    · rw [if_neg hp, List.filter_cons_of_neg hp]
      rfl
/-- .. with a state -/
theorem lc_state {α : Type} {vs : List Nat} {g : DG} {t : DT} {f : DE} (nf : α → Dt) (P : Env' → Prop) (R : α → Dt → Prop) : ∀ (xs : List α) {env : Env'}, P env →
    (∀ x ∈ xs, ∀ e, P e → ∃ d e', lcTurn vs g t f (nf x) e = .ok (some d, e') ∧ R x d ∧ P e') → ∃ ds e', lcLoop vs g t f (xs.map nf) env = .ok (ds, e') ∧ ds.length = xs.length ∧ (∀ i (h : i < xs.length) (h' : i < ds.length), R xs[i] ds[i]) ∧ P e'
  | [], env, h0, _ => ⟨[], env, rfl, rfl, fun i h => absurd h (Nat.not_lt_zero _), h0⟩
  | x :: xs, env, h0, h => by
    obtain ⟨d, e1, h1, h2, h3⟩ := h x List.mem_cons_self env h0
    obtain ⟨ds, e2, h4, h5, h6, h7⟩ := lc_state nf P R xs h3 fun y hy => h y (List.mem_cons_of_mem _ hy)
    refine ⟨d :: ds, e2, ?_, by rw [List.length_cons, List.length_cons, h5], fun i hi hi' => ?_, h7⟩
    · rw [List.map_cons]
      unfold lcLoop
      rw [h1, Res.bind_ok, h4]
      rfl
    · cases i with
      | zero => exact h2
      | succ i => exact h6 i (by simpa using hi) (by simpa using hi')
theorem dlc_of {vs : List Nat} {it : DA} {g : DG} {t : DT} {f : DE} {env e1 e2 : Env'} {ds os : List Dt} (h1 : it env = .ok (ds, e1)) (h2 : lcOk e1 vs = true) (h3 : ds.length ≤ sizeLine) (h4 : lcLoop vs g t f ds (wipeE e1 vs) = .ok (os, e2)) :
    dLc vs it g t f env = .ok (.fresh (.lst os), backE e1 e2 vs) := by
  unfold dLc
  rw [h1, Res.bind_ok]
  dsimp only
  rw [if_pos ⟨h2, h3⟩, h4]
  rfl
theorem sizeLine_is : sizeLine = 16777216 := by decide
end G


set_option maxRecDepth 100000
set_option maxHeartbeats 4000000
set_option exponentiation.threshold 30000
/-! Kern23: what is shown and compared; steps through a body. -/
namespace G
open PySem PySem.Spec PyProof.Rows L2
/-- shown in at most k signs, nested at most n deep -/
def Sh (k n : Nat) (d : Dt) : Prop := ∃ p, dToP d = some p ∧ okP p = true ∧ p.canLay0 = true ∧ wtP p ≤ k ∧ p.depth ≤ n
theorem Sh.int {i : Int} (h : i.natAbs < 2 ^ 12900) : Sh 12901 0 (.int i) := ⟨.int i, rfl, decide_eq_true h, rfl, Nat.le_refl _, Nat.le_refl _⟩
theorem Sh.mono {k n k' n' : Nat} {d : Dt} (h : Sh k n d) (h1 : k ≤ k') (h2 : n ≤ n') : Sh k' n' d := by
  obtain ⟨p, a, b, c, e, f⟩ := h
  exact ⟨p, a, b, c, Nat.le_trans e h1, Nat.le_trans f h2⟩
theorem shs {k n : Nat} : ∀ {ds : List Dt}, (∀ d ∈ ds, Sh k n d) → ∃ ps, dToPs ds = some ps ∧ okPs ps = true ∧ PyData.canLayAll0 ps = true ∧ wtPs ps ≤ ds.length * (k + 2) ∧ PyData.depthAll ps ≤ n
  | [], _ => ⟨[], rfl, rfl, rfl, Nat.zero_le _, Nat.zero_le _⟩
  | d :: ds, h => by
    obtain ⟨p, a, b, c, e, f⟩ := h d List.mem_cons_self
    obtain ⟨ps, a', b', c', e', f'⟩ := shs fun x hx => h x (List.mem_cons_of_mem _ hx)
    refine ⟨p :: ps, by simp [dToPs, a, a'], by simp [okPs, b, b'], by simp [PyData.canLayAll0, c, c'], ?_, ?_⟩
    · rw [List.length_cons, Nat.succ_mul]
      show (wtP p + 2) + wtPs ps ≤ _
      omega
    · show max p.depth (PyData.depthAll ps) ≤ n
      omega
theorem Sh.lst {k n : Nat} {ds : List Dt} (h : ∀ d ∈ ds, Sh k n d) : Sh (2 + ds.length * (k + 2)) (n + 1) (.lst ds) := by
  obtain ⟨ps, a, b, c, e, f⟩ := shs h
  refine ⟨.list ps, by simp [dToP, a], by simpa [okP] using b, by simpa [PyData.canLay0] using c, ?_, ?_⟩
  · show 2 + wtPs ps ≤ _
    omega
  · show PyData.depthAll ps + 1 ≤ _
    omega
theorem Sh.tup {k n : Nat} {ds : List Dt} (h : ∀ d ∈ ds, Sh k n d) : Sh (3 + ds.length * (k + 2)) (n + 1) (.tup ds) := by
  obtain ⟨ps, a, b, c, e, f⟩ := shs h
  refine ⟨.tuple ps, by simp [dToP, a], by simpa [okP] using b, by simpa [PyData.canLay0] using c, ?_, ?_⟩
  · show 3 + wtPs ps ≤ _
    omega
  · show PyData.depthAll ps + 1 ≤ _
    omega
theorem Sh.repr {k n : Nat} {d : Dt} (h : Sh k n d) (h1 : k ≤ 16777216) (h2 : n ≤ 100) : ∃ s, bRepr [d] = .ok (.imm (.str s)) := by
  obtain ⟨p, a, b, c, e, f⟩ := h
  refine ⟨p.shown, ?_⟩
  have ok : reprOk p = true := by
    unfold reprOk
    rw [b, decide_eq_true (by rw [sizeLine_is]; omega), decide_eq_true (by omega)]
    rfl
  show (match dToP d with
    | some p => if reprOk p = true then Res.ok (Val.imm (Dt.str p.shown)) else Res.bad
    | none => Res.bad) = _
  rw [a]
  show (if reprOk p = true then Res.ok (Val.imm (Dt.str p.shown)) else Res.bad) = _
  rw [if_pos ok]
theorem str_neS (x : Str) : eqS true (.str x) (.str x) = .ok (.imm (.bl false)) := by
  show vB (!decide (V.str x = V.str x)) = _
  rw [decide_eq_true rfl]
  rfl
theorem str_eqS (x : Str) : eqS false (.str x) (.str x) = .ok (.imm (.bl true)) := by
  show vB (decide (V.str x = V.str x)) = _
  rw [decide_eq_true rfl]
  rfl
theorem Sh.same {k n : Nat} {d : Dt} (h : Sh k n d) (h2 : n ≤ 64) : eqS false d d = .ok (.imm (.bl true)) ∧ eqS true d d = .ok (.imm (.bl false)) := by
  obtain ⟨p, a, b, c, e, f⟩ := h
  have sh : SeqAt.shaped p = true := by
    unfold SeqAt.shaped
    rw [c, decide_eq_true (by omega)]
    rfl
  have q := SeqAt.eqv_refl p c
  have key : ∀ neg, eqD neg d d = .ok (.imm (.bl (if neg = true then false else true))) := fun neg => by
    unfold eqD
    rw [a]
    dsimp only
    rw [sh, q]
    cases neg <;> rfl
  constructor
  · rcases eqS_split false d d with ⟨x, y, rfl, e⟩ | e
    · cases e
      exact str_eqS x
    · rw [e, key]
      rfl
  · rcases eqS_split true d d with ⟨x, y, rfl, e⟩ | e
    · cases e
      exact str_neS x
    · rw [e, key]
      rfl
/-! steps -/
theorem seq_nx {f g : DS} {env e : Env'} (h : f env = .ok (.nx, e)) : sSeq f g env = g e := by
  unfold sSeq
  rw [h]
  rfl
theorem run_rt {n : Nat} {f : DS} {ds : List Dt} {e e' : Env'} {v : Val} (h0 : env0 false n ds = e) (h : f e = .ok (.rt v, e')) : runF false n f ds = .ok (v, none) := by
  unfold runF
  rw [h0, h]
  rfl
theorem if_no {env e : Env'} {t : DT} {f : DS} (h : t env = .ok (false, e)) : sIf t f sNext env = .ok (.nx, e) := by
  unfold sIf
  rw [h]
  rfl
end G


set_option maxRecDepth 100000
set_option maxHeartbeats 4000000
set_option exponentiation.threshold 30000
/-! Kern15: natural numbers as data; the pen that the laws draw with. -/
namespace G
open PySem PySem.Spec PyProof.Rows L2
theorem fmod_nat (a b : Nat) : Int.fmod (a : Int) (b : Int) = ((a % b : Nat) : Int) := by
  rw [Int.fmod_eq_emod_of_nonneg _ (by omega)]; rfl
theorem fdiv_nat (a b : Nat) : Int.fdiv (a : Int) (b : Int) = ((a / b : Nat) : Int) := by
  rw [Int.fdiv_eq_ediv_of_nonneg _ (by omega)]; rfl
theorem log_lt {n k : Nat} (hk : 0 < k) (h : n < 2 ^ k) : n.log2 < k := by
  by_cases h0 : n = 0
  · rw [h0]; simpa using hk
  · exact (Nat.log2_lt h0).mpr h
theorem pyl_y {a b : Nat} (h : b < 2 ^ 9000) : Builtin.divisionGoesByPylong (a : Int) (b : Int) = false := by
  have hl := log_lt (by decide) h
  clear h
  unfold Builtin.divisionGoesByPylong
  rw [Bool.and_eq_false_iff]
  left
  simp only [Int.natAbs_natCast]
  rw [decide_eq_false_iff_not]
  split <;> omega
theorem pyl_x {a b : Nat} (h : a < 2 ^ 13500) : Builtin.divisionGoesByPylong (a : Int) (b : Int) = false := by
  have hl := log_lt (by decide) h
  clear h
  unfold Builtin.divisionGoesByPylong
  simp only [Int.natAbs_natCast]
  rw [Bool.and_eq_false_iff, decide_eq_false_iff_not, decide_eq_false_iff_not]
  split <;> split <;> omega
theorem mul_small {a b : Nat} (ha : a < 2 ^ 20000) (hb : b < 2 ^ 20000) : mulOk (a : Int) (b : Int) = true := by
  have h1 := log_lt (by decide) ha
  have h2 := log_lt (by decide) hb
  clear ha hb
  unfold mulOk
  rw [Bool.or_eq_true]
  right
  rw [decide_eq_true_eq]
  unfold Builtin.Int.intBits
  simp only [Int.natAbs_natCast]
  split <;> split <;> omega
theorem mul_left_small {a b : Nat} (ha : a < 2 ^ 64) : mulOk (a : Int) (b : Int) = true := by
  unfold mulOk
  rw [Bool.or_eq_true, Bool.or_eq_true]
  left
  left
  exact decide_eq_true (by simpa using ha)
/-- a natural number as data -/
def ni (n : Nat) : Dt := .int n
theorem ni_def (n : Nat) : ni n = .int n := rfl
theorem ni_mod {a b : Nat} (hb : 0 < b) : opMod (ni a) (ni b) = .ok (.imm (ni (a % b))) := by
  show (if (b : Int) ≠ 0 then vI (Int.fmod a b) else .bad) = _
  rw [if_pos (by omega), fmod_nat]
  rfl
theorem ni_mulG {a b : Nat} (h : mulOk (a : Int) (b : Int) = true) : opMul (ni a) (ni b) = .ok (.imm (ni (a * b))) := by
  show (if mulOk (a : Int) (b : Int) = true then vI ((a : Int) * b) else .bad) = _
  rw [if_pos h]
  show Res.ok (Val.imm (Dt.int ((a : Int) * b))) = .ok (.imm (.int ((a * b : Nat) : Int)))
  rw [Int.natCast_mul]
theorem ni_mul {a b : Nat} (ha : a < 2 ^ 20000) (hb : b < 2 ^ 20000) : opMul (ni a) (ni b) = .ok (.imm (ni (a * b))) := ni_mulG (mul_small ha hb)
theorem ni_mulL {a b : Nat} (ha : a < 2 ^ 64) : opMul (ni a) (ni b) = .ok (.imm (ni (a * b))) := ni_mulG (mul_left_small ha)
theorem ni_fdivG {a b : Nat} (hb : 0 < b) (h : Builtin.divisionGoesByPylong (a : Int) (b : Int) = false) : opFDiv (ni a) (ni b) = .ok (.imm (ni (a / b))) := by
  show (if (b : Int) ≠ 0 ∧ Builtin.divisionGoesByPylong (a : Int) (b : Int) = false then vI (Int.fdiv a b) else .bad) = _
  rw [if_pos ⟨by omega, h⟩, fdiv_nat]
  rfl
theorem ni_fdivy {a b : Nat} (hb : 0 < b) (h : b < 2 ^ 9000) : opFDiv (ni a) (ni b) = .ok (.imm (ni (a / b))) := ni_fdivG hb (pyl_y h)
theorem ni_fdivx {a b : Nat} (hb : 0 < b) (h : a < 2 ^ 13500) : opFDiv (ni a) (ni b) = .ok (.imm (ni (a / b))) := ni_fdivG hb (pyl_x h)
theorem ni_add (a b : Nat) : opAdd (ni a) (ni b) = .ok (.imm (ni (a + b))) := by
  show vI ((a : Int) + b) = .ok (.imm (.int ((a + b : Nat) : Int)))
  rw [Int.natCast_add]
  rfl
theorem ni_sub {a b : Nat} (h : b ≤ a) : opSub (ni a) (ni b) = .ok (.imm (ni (a - b))) := by
  show vI ((a : Int) - b) = .ok (.imm (.int ((a - b : Nat) : Int)))
  rw [Int.ofNat_sub h]
  rfl
theorem ni_pow {a b : Nat} (hb : b ≤ 1000000) (ha : a < 2 ^ 64) : opPow (ni a) (ni b) = .ok (.imm (ni (a ^ b))) := by
  show (if 0 ≤ (b : Int) ∧ (b : Int).natAbs ≤ 1000000 ∧ (a : Int).natAbs < 2 ^ 64 then vI ((a : Int) ^ (b : Int).toNat) else .bad) = .ok (.imm (.int ((a ^ b : Nat) : Int)))
  rw [if_pos ⟨by omega, by simpa using hb, by simpa using ha⟩, Int.natCast_pow]
  rfl
theorem ni_gt (a c : Nat) : opGt (ni a) (ni c) = .ok (.imm (.bl (decide (c < a)))) := by
  show vB (decide ((c : Int) < (a : Int))) = _
  unfold vB
  congr 3
  simp
theorem ni_lt (a c : Nat) : opLt (ni a) (ni c) = .ok (.imm (.bl (decide (a < c)))) := by
  show vB (decide ((a : Int) < (c : Int))) = _
  unfold vB
  congr 3
  simp
theorem ni_le (a c : Nat) : opLe (ni a) (ni c) = .ok (.imm (.bl (decide (a ≤ c)))) := by
  show vB (decide ((a : Int) ≤ (c : Int))) = _
  unfold vB
  congr 3
  simp
theorem ni_ge (a c : Nat) : opGe (ni a) (ni c) = .ok (.imm (.bl (decide (c ≤ a)))) := by
  show vB (decide ((c : Int) ≤ (a : Int))) = _
  unfold vB
  congr 3
  simp
theorem ni_neg (a : Nat) : opNeg (ni a) = .ok (.imm (.int (-(a : Int)))) := rfl
theorem ni_abs (a : Nat) : bAbs [ni a] = .ok (.imm (ni a)) := by
  show vI (if (a : Int) < 0 then -(a : Int) else a) = _
  rw [if_neg (by omega)]
  rfl
theorem ni_int (a : Nat) : bInt [ni a] = .ok (.imm (ni a)) := rfl
theorem eqv_ni (a b : Nat) : PyData.eqv (.int a) (.int b) = decide (a = b) := by
  show ((a : Int) == b) = _
  by_cases h : a = b
  · subst h; simp
  · rw [decide_eq_false h]
    simp
    omega
theorem ni_eq (a b : Nat) : eqS false (ni a) (ni b) = .ok (.imm (.bl (decide (a = b)))) := by
  show vB (PyData.eqv (.int a) (.int b)) = _
  rw [eqv_ni]
  rfl
theorem ni_ne (a b : Nat) : eqS true (ni a) (ni b) = .ok (.imm (.bl (!decide (a = b)))) := by
  show vB (!PyData.eqv (.int a) (.int b)) = _
  rw [eqv_ni]
  rfl
theorem ni_isi (a : Nat) : isiD "int" (ni a) = .ok (.imm (.bl true)) := by
  have h : kitB "int" "int" = some true := by decide +kernel
  show (match (some "int").bind fun t => kitB t "int" with
    | some b => vB b
    | none => .bad) = _
  rw [show ((some "int").bind fun t => kitB t "int") = some true from h]
  rfl
theorem ni_isb (a : Nat) : isiD "bool" (ni a) = .ok (.imm (.bl false)) := by
  have h : kitB "int" "bool" = some false := by decide +kernel
  show (match (some "int").bind fun t => kitB t "bool" with
    | some b => vB b
    | none => .bad) = _
  rw [show ((some "int").bind fun t => kitB t "bool") = some false from h]
  rfl
theorem bLen_l (ds : List Dt) : bLen [.lst ds] = .ok (.imm (ni ds.length)) := rfl
theorem bLen_t (ds : List Dt) : bLen [.tup ds] = .ok (.imm (ni ds.length)) := rfl
theorem ix_l {ds : List Dt} {k : Nat} {d : Dt} (h : ds[k]? = some d) : opIx (.lst ds) (ni k) = .ok (.imm d) := by
  show (match L2.atI ds (k : Int) with
    | some d => Res.ok (Val.imm d)
    | none => Res.bad) = _
  rw [L2.atI_nat h]
theorem ix_t {ds : List Dt} {k : Nat} {d : Dt} (h : ds[k]? = some d) : opIx (.tup ds) (ni k) = .ok (.imm d) := by
  show (match L2.atI ds (k : Int) with
    | some d => Res.ok (Val.imm d)
    | none => Res.bad) = _
  rw [L2.atI_nat h]
theorem ixt0 (x : Dt) (xs : List Dt) : opIx (.tup (x :: xs)) (ni 0) = .ok (.imm x) := ix_t rfl
theorem ixt1 (x y : Dt) (xs : List Dt) : opIx (.tup (x :: y :: xs)) (ni 1) = .ok (.imm y) := ix_t rfl
theorem ixl0 (x : Dt) (xs : List Dt) : opIx (.lst (x :: xs)) (ni 0) = .ok (.imm x) := ix_l rfl
theorem ixl1 (x y : Dt) (xs : List Dt) : opIx (.lst (x :: y :: xs)) (ni 1) = .ok (.imm y) := ix_l rfl
theorem ixl2 (x y z : Dt) (xs : List Dt) : opIx (.lst (x :: y :: z :: xs)) (ni 2) = .ok (.imm z) := ix_l rfl
theorem putN {ds : List Dt} {k : Nat} (x : Dt) (h : k < ds.length) : putD (ni k) x (.lst ds) = some (.lst (ds.set k x)) := by
  have e : L2.ixN ds.length (k : Int) = some k := by
    unfold L2.ixN
    have : (k : Int) < (ds.length : Int) := by omega
    simp [this]
  show (match L2.ixN ds.length (k : Int) with
      | some j => some (Dt.lst (ds.set j x))
      | none => none) = _
  rw [e]
theorem put1 (x a b c : Dt) : putD (ni 1) x (.lst [a, b, c]) = some (.lst [a, x, c]) := putN x (by simp)
theorem put2 (x a b c : Dt) : putD (ni 2) x (.lst [a, b, c]) = some (.lst [a, b, x]) := putN x (by simp)
theorem lit0 : Dt.int 0 = ni 0 := rfl
theorem lit1 : Dt.int 1 = ni 1 := rfl
theorem lit2 : Dt.int 2 = ni 2 := rfl
theorem lit3 : Dt.int 3 = ni 3 := rfl
theorem lit5 : Dt.int 5 = ni 5 := rfl
theorem lit10 : Dt.int 10 = ni 10 := rfl
theorem lit18 : Dt.int 18 = ni 18 := rfl
theorem lit64 : Dt.int 64 = ni 64 := rfl
theorem i_abs (c : Int) : bAbs [.int c] = .ok (.imm (ni c.natAbs)) := by
  show vI (if c < 0 then -c else c) = .ok (.imm (.int (c.natAbs : Int)))
  have : (if c < 0 then -c else c) = (c.natAbs : Int) := by split <;> omega
  rw [this]
  rfl
theorem i_mod (c : Int) {p : Nat} (hp : 0 < p) : opMod (.int c) (ni p) = .ok (.imm (ni (c % p).toNat)) := by
  show (if (p : Int) ≠ 0 then vI (Int.fmod c p) else .bad) = .ok (.imm (.int ((c % p).toNat : Int)))
  rw [if_pos (by omega), Int.fmod_eq_emod_of_nonneg _ (by omega), Int.toNat_of_nonneg (Int.emod_nonneg _ (by omega))]
  rfl
theorem i_mod_lt (c : Int) {p : Nat} (hp : 0 < p) : (c % p).toNat < p := by
  have h1 := Int.emod_nonneg c (show (p : Int) ≠ 0 by omega)
  have h2 := Int.emod_lt_of_pos c (show (0 : Int) < p by omega)
  omega
theorem i_lt0 (c : Int) : opLt (.int c) (ni 0) = .ok (.imm (.bl (decide (c < 0)))) := rfl
theorem i_int (c : Int) : bInt [.int c] = .ok (.imm (.int c)) := rfl
theorem b_int (b : Bool) : bInt [.bl b] = .ok (.imm (ni (if b = true then 1 else 0))) := by cases b <;> rfl
theorem str_ne (x : Str) : eqS true (.str x) (.str x) = .ok (.imm (.bl false)) := by
  show vB (!decide (V.str x = V.str x)) = _
  rw [decide_eq_true rfl]
  rfl
theorem dps_ints : ∀ cs : List Int, dToPs (cs.map .int) = some (cs.map .int)
  | [] => rfl
  | c :: cs => by
    have ih := dps_ints cs
    simp [dToPs, dToP, ih]
theorem eq_nil (cs : List Int) : eqS false (.lst (cs.map .int)) (.lst []) = .ok (.imm (.bl cs.isEmpty)) := by
  have h1 : dToP (.lst (cs.map .int)) = some (.list (cs.map .int)) := by simp [dToP, dps_ints]
  have h2 : dToP (.lst []) = some (.list []) := rfl
  show eqD false _ _ = _
  unfold eqD
  rw [h1, h2]
  have sh : ∀ cs : List Int, PyData.canLayAll0 (cs.map PyData.int) = true ∧ PyData.depthAll (cs.map PyData.int) = 0 := fun cs => by
    induction cs with
    | nil => exact ⟨by simp [PyData.canLayAll0], by simp [PyData.depthAll]⟩
    | cons c cs ih => exact ⟨by simp [PyData.canLayAll0, PyData.canLay0, ih.1], by simp [PyData.depthAll, PyData.depth, ih.2]⟩
  have h3 : SeqAt.shaped (.list (cs.map .int)) = true := by simp [SeqAt.shaped, PyData.canLay0, PyData.depth, (sh cs).1, (sh cs).2]
  have h4 : SeqAt.shaped (.list []) = true := by simp [SeqAt.shaped, PyData.canLay0, PyData.depth, PyData.canLayAll0, PyData.depthAll]
  simp only [h3, h4, Bool.and_self, if_true]
  cases cs with
  | nil => rfl
  | cons c cs => rfl
end G


set_option maxRecDepth 100000
set_option maxHeartbeats 4000000
set_option exponentiation.threshold 30000
/-! Kern24: the pen that the laws draw with. -/
namespace G
open PySem PySem.Spec PyProof.Rows L2
def drawB (p1 c1 c2 p2 c3 p3 : Int) : DS := (sSeq (sSet 2 (dCallB bInt (aCons (dIxS 0 (dC (.int 2))) aNil)))
    (sSeq (sIf (dTest (dBin opGt (dVar 2) (dC (.int 0)))) (sSeq (sPut 0 (dC (.int 2)) (dBin opFDiv (dVar 2) (dVar 1)))
    (sRet (dBin opMod (dVar 2) (dVar 1)))) sNext)
    (sSeq (sIf (dTest (dBin (eqS false) (dIxS 0 (dC (.int 0))) (dLst aNil))) (sRet (dC (.int 0))) sNext)
    (sSeq (sSet 3 (dIxS 0 (dC (.int 1))))
    (sSeq (sPut 0 (dC (.int 1)) (dBin opAdd (dVar 3) (dC (.int 1))))
    (sSeq (sSet 4 (dBin opIx (dIxS 0 (dC (.int 0))) (dBin opMod (dCallB bInt (aCons (dVar 3) aNil)) (dCallB bLen (aCons (dIxS 0 (dC (.int 0))) aNil)))))
    (sSeq (sIf (tAndD (dTest (dBin opLt (dVar 3) (dCallB bLen (aCons (dIxS 0 (dC (.int 0))) aNil)))) (dTest (dBin opGe (dCallB bAbs (aCons (dVar 4) aNil)) (dBin opPow (dC (.int 10)) (dC (.int 18)))))) (sSeq (sSet 2 (dBin opAdd (dBin opMul (dC (.int 2)) (dBin opSub (dCallB bAbs (aCons (dVar 4) aNil)) (dBin opPow (dC (.int 10)) (dC (.int 18))))) (dCallB bInt (aCons (dBin opLt (dVar 4) (dC (.int 0))) aNil))))
    (sSeq (sPut 0 (dC (.int 2)) (dBin opFDiv (dVar 2) (dVar 1)))
    (sRet (dBin opMod (dVar 2) (dVar 1))))) sNext)
    (sSeq (sSet 5 (dBin opMod (dCallB bInt (aCons (dBin opPow (dBin opAdd (dBin opAdd (dBin opMod (dCallB bInt (aCons (dVar 4) aNil)) (dC (.int p1))) (dBin opMul (dC (.int c1)) (dVar 3))) (dC (.int c2))) (dC (.int 5))) aNil)) (dC (.int p2))))
    (sSeq (sSet 5 (dBin opMod (dCallB bInt (aCons (dBin opPow (dBin opAdd (dBin opAdd (dBin opMul (dVar 5) (dBin opAdd (dBin opMul (dC (.int 2)) (dVar 3)) (dC (.int c3)))) (dBin opMul (dBin opMul (dC (.int c1)) (dVar 3)) (dVar 3))) (dC (.int c2))) (dC (.int 3))) aNil)) (dC (.int p3))))
    (sRet (dBin opMod (dCallB bInt (aCons (dBin opFDiv (dVar 5) (dC (.int 64))) aNil)) (dVar 1))))))))))))
/-- the pen: cells, place, what is left -/
def PenD (cs : List Int) (p r : Nat) : Dt := .lst [.lst (cs.map .int), ni p, ni r]
section
variable {cs : List Int} {pl rest many : Nat} {s2 s3 s4 s5 : Slot}
abbrev PE6 (cs : List Int) (pl rest many : Nat) (s2 s3 s4 s5 : Slot) : Env' := [.io (PenD cs pl rest), .imm (ni many), s2, s3, s4, s5]
theorem pen_ix0 : dIxS 0 (dC (.int 0)) (PE6 cs pl rest many s2 s3 s4 s5) = .ok (.imm (.lst (cs.map .int)), PE6 cs pl rest many s2 s3 s4 s5) := rfl
theorem pen_ix1 : dIxS 0 (dC (.int 1)) (PE6 cs pl rest many s2 s3 s4 s5) = .ok (.imm (ni pl), PE6 cs pl rest many s2 s3 s4 s5) := rfl
theorem pen_ix2 : dIxS 0 (dC (.int 2)) (PE6 cs pl rest many s2 s3 s4 s5) = .ok (.imm (ni rest), PE6 cs pl rest many s2 s3 s4 s5) := rfl
theorem pen_put1 {f : DE} {x : Nat} {s2' s3' s4' s5' : Slot} (h : f (PE6 cs pl rest many s2 s3 s4 s5) = .ok (.imm (ni x), PE6 cs pl rest many s2' s3' s4' s5')) : sPut 0 (dC (.int 1)) f (PE6 cs pl rest many s2 s3 s4 s5) = .ok (.nx, PE6 cs x rest many s2' s3' s4' s5') := by
  unfold sPut
  rw [h, Res.bind_ok]
  rfl
theorem pen_put2 {f : DE} {x : Nat} {s2' s3' s4' s5' : Slot} (h : f (PE6 cs pl rest many s2 s3 s4 s5) = .ok (.imm (ni x), PE6 cs pl rest many s2' s3' s4' s5')) : sPut 0 (dC (.int 2)) f (PE6 cs pl rest many s2 s3 s4 s5) = .ok (.nx, PE6 cs pl x many s2' s3' s4' s5') := by
  unfold sPut
  rw [h, Res.bind_ok]
  rfl
theorem bin_ok {g : Dt → Dt → Res Val} {fa fb : DE} {e e1 e2 : Env'} {v w x : Val} (h1 : fa e = .ok (v, e1)) (h2 : fb e1 = .ok (w, e2)) (h3 : g v.d w.d = .ok x) : dBin g fa fb e = .ok (x, e2) := by
  unfold dBin
  rw [h1, Res.bind_ok, h2, Res.bind_ok, h3]
  rfl
theorem blt_ok {g : List Dt → Res Val} {fa : DE} {e e1 : Env'} {v x : Val} (h1 : fa e = .ok (v, e1)) (h3 : g [v.d] = .ok x) : dCallB g (aCons fa aNil) e = .ok (x, e1) := by
  unfold dCallB aCons aNil
  rw [h1, Res.bind_ok, Res.bind_ok, Res.bind_ok, h3]
  rfl
theorem test_ok {f : DE} {e e1 : Env'} {b : Bool} (h : f e = .ok (.imm (.bl b), e1)) : dTest f e = .ok (b, e1) := by
  unfold dTest
  rw [h]
  rfl
theorem if_yes {env e : Env'} {t : DT} {f h : DS} (ht : t env = .ok (true, e)) : sIf t f h env = f e := by
  unfold sIf
  rw [ht]
  rfl
theorem ret_ok {f : DE} {e e1 : Env'} {v : Val} (h : f e = .ok (v, e1)) : sRet f e = .ok (.rt v, e1) := by
  unfold sRet
  rw [h]
  rfl
theorem and_no {t u : DT} {e e1 : Env'} (h : t e = .ok (false, e1)) : tAndD t u e = .ok (false, e1) := by
  unfold tAndD
  rw [h]
  rfl
theorem and_yes {t u : DT} {e e1 : Env'} (h : t e = .ok (true, e1)) : tAndD t u e = u e1 := by
  unfold tAndD
  rw [h]
  rfl
theorem set_at {i : Nat} {f : DE} {e e1 e2 : Env'} {d : Dt} (h : f e = .ok (.imm d, e1)) (h1 : canSet e1 i = true) (h2 : e1.set i (.imm d) = e2) : sSet i f e = .ok (.nx, e2) := by
  unfold sSet
  rw [h, Res.bind_ok]
  unfold setVal
  dsimp only
  rw [if_pos h1, h2]
end
section
variable {p1 c1 c2 p2 c3 p3 : Nat} {cs : List Int} {pl rest many : Nat}
/-- a digit of what is left -/
theorem draw_rest (hm : 0 < many) (hm2 : many < 2 ^ 64) (hr : 0 < rest) : runF true 6 (drawB p1 c1 c2 p2 c3 p3) [PenD cs pl rest, ni many] = .ok (.imm (ni (rest % many)), some (PenD cs pl (rest / many))) := by
  have hm3 : many < 2 ^ 9000 := Nat.lt_of_lt_of_le hm2 (Nat.pow_le_pow_right (by decide) (by decide))
  have g0 := ni_gt rest 0
  rw [decide_eq_true hr] at g0
  have m := ni_mod (a := rest) hm
  have d := ni_fdivy (a := rest) hm hm3
  have b0 : sSet 2 (dCallB bInt (aCons (dIxS 0 (dC (.int 2))) aNil)) (PE6 cs pl rest many .un .un .un .un) = .ok (.nx, PE6 cs pl rest many (.imm (ni rest)) .un .un .un) := set_at (blt_ok pen_ix2 (ni_int rest)) rfl rfl
  have b1 : sPut 0 (dC (.int 2)) (dBin opFDiv (dVar 2) (dVar 1)) (PE6 cs pl rest many (.imm (ni rest)) .un .un .un) = .ok (.nx, PE6 cs pl (rest / many) many (.imm (ni rest)) .un .un .un) := pen_put2 (bin_ok (v := .imm (ni rest)) (w := .imm (ni many)) rfl rfl d)
  have b2 : sRet (dBin opMod (dVar 2) (dVar 1)) (PE6 cs pl (rest / many) many (.imm (ni rest)) .un .un .un) = .ok (.rt (.imm (ni (rest % many))), PE6 cs pl (rest / many) many (.imm (ni rest)) .un .un .un) := ret_ok (bin_ok (v := .imm (ni rest)) (w := .imm (ni many)) rfl rfl m)
  have t : dTest (dBin opGt (dVar 2) (dC (.int 0))) (PE6 cs pl rest many (.imm (ni rest)) .un .un .un) = .ok (true, PE6 cs pl rest many (.imm (ni rest)) .un .un .un) := test_ok (bin_ok (v := .imm (ni rest)) (w := .imm (ni 0)) rfl rfl g0)
  have all : drawB p1 c1 c2 p2 c3 p3 (PE6 cs pl rest many .un .un .un .un) = .ok (.rt (.imm (ni (rest % many))), PE6 cs pl (rest / many) many (.imm (ni rest)) .un .un .un) := by
    unfold drawB
    rw [seq_nx b0]
    have i : ∀ h : DS, sSeq (sIf (dTest (dBin opGt (dVar 2) (dC (.int 0)))) (sSeq (sPut 0 (dC (.int 2)) (dBin opFDiv (dVar 2) (dVar 1))) (sRet (dBin opMod (dVar 2) (dVar 1)))) sNext) h (PE6 cs pl rest many (.imm (ni rest)) .un .un .un) = .ok (.rt (.imm (ni (rest % many))), PE6 cs pl (rest / many) many (.imm (ni rest)) .un .un .un) := fun h => by
      unfold sSeq
      rw [if_yes t]
      have : sSeq (sPut 0 (dC (.int 2)) (dBin opFDiv (dVar 2) (dVar 1))) (sRet (dBin opMod (dVar 2) (dVar 1))) (PE6 cs pl rest many (.imm (ni rest)) .un .un .un) = _ := (seq_nx b1).trans b2
      unfold sSeq at this
      rw [this]
      rfl
    exact i _
  unfold runF
  rw [show env0 true 6 [PenD cs pl rest, ni many] = PE6 cs pl rest many .un .un .un .un from rfl, all]
  rfl
/-- the first steps, with nothing left -/
theorem draw_head {B : DS} {r : Res (Fl × Env')} (h : B (PE6 cs pl 0 many (.imm (ni 0)) .un .un .un) = r) : sSeq (sSet 2 (dCallB bInt (aCons (dIxS 0 (dC (.int 2))) aNil))) (sSeq (sIf (dTest (dBin opGt (dVar 2) (dC (.int 0)))) (sSeq (sPut 0 (dC (.int 2)) (dBin opFDiv (dVar 2) (dVar 1))) (sRet (dBin opMod (dVar 2) (dVar 1)))) sNext) B) (PE6 cs pl 0 many .un .un .un .un) = r := by
  have b0 : sSet 2 (dCallB bInt (aCons (dIxS 0 (dC (.int 2))) aNil)) (PE6 cs pl 0 many .un .un .un .un) = .ok (.nx, PE6 cs pl 0 many (.imm (ni 0)) .un .un .un) := set_at (blt_ok pen_ix2 (ni_int 0)) rfl rfl
  have t : dTest (dBin opGt (dVar 2) (dC (.int 0))) (PE6 cs pl 0 many (.imm (ni 0)) .un .un .un) = .ok (false, PE6 cs pl 0 many (.imm (ni 0)) .un .un .un) := test_ok (bin_ok (v := .imm (ni 0)) (w := .imm (ni 0)) rfl rfl (ni_gt 0 0))
  rw [seq_nx b0, seq_nx (if_no t)]
  exact h
theorem nil_test : dTest (dBin (eqS false) (dIxS 0 (dC (.int 0))) (dLst aNil)) (PE6 cs pl 0 many (.imm (ni 0)) .un .un .un) = .ok (cs.isEmpty, PE6 cs pl 0 many (.imm (ni 0)) .un .un .un) := by
  refine test_ok (bin_ok (v := .imm (.lst (cs.map .int))) (w := .fresh (.lst [])) pen_ix0 ?_ (eq_nil cs))
  unfold dLst aNil
  rw [Res.bind_ok]
  exact if_pos (Nat.zero_le _)
theorem draw_none : runF true 6 (drawB p1 c1 c2 p2 c3 p3) [PenD [] pl 0, ni many] = .ok (.imm (ni 0), some (PenD [] pl 0)) := by
  have all : drawB p1 c1 c2 p2 c3 p3 (PE6 [] pl 0 many .un .un .un .un) = .ok (.rt (.imm (ni 0)), PE6 [] pl 0 many (.imm (ni 0)) .un .un .un) := by
    unfold drawB
    refine draw_head ?_
    unfold sSeq
    rw [if_yes nil_test]
    rfl
  unfold runF
  rw [show env0 true 6 [PenD [] pl 0, ni many] = PE6 [] pl 0 many .un .un .un .un from rfl, all]
  rfl
/-- the cell that is begun -/
theorem draw_cell {B : DS} {c : Int} {r : Res (Fl × Env')} (hc : cs.isEmpty = false) (hl : 0 < cs.length) (X : opIx (.lst (cs.map .int)) (ni (pl % cs.length)) = .ok (.imm (.int c))) (h : B (PE6 cs (pl + 1) 0 many (.imm (ni 0)) (.imm (ni pl)) (.imm (.int c)) .un) = r) :
    sSeq (sSet 2 (dCallB bInt (aCons (dIxS 0 (dC (.int 2))) aNil))) (sSeq (sIf (dTest (dBin opGt (dVar 2) (dC (.int 0)))) (sSeq (sPut 0 (dC (.int 2)) (dBin opFDiv (dVar 2) (dVar 1))) (sRet (dBin opMod (dVar 2) (dVar 1)))) sNext)
      (sSeq (sIf (dTest (dBin (eqS false) (dIxS 0 (dC (.int 0))) (dLst aNil))) (sRet (dC (.int 0))) sNext)
      (sSeq (sSet 3 (dIxS 0 (dC (.int 1))))
      (sSeq (sPut 0 (dC (.int 1)) (dBin opAdd (dVar 3) (dC (.int 1))))
      (sSeq (sSet 4 (dBin opIx (dIxS 0 (dC (.int 0))) (dBin opMod (dCallB bInt (aCons (dVar 3) aNil)) (dCallB bLen (aCons (dIxS 0 (dC (.int 0))) aNil))))) B))))) (PE6 cs pl 0 many .un .un .un .un) = r := by
  refine draw_head ?_
  have nt := nil_test (cs := cs) (pl := pl) (many := many)
  rw [hc] at nt
  have s3 : sSet 3 (dIxS 0 (dC (.int 1))) (PE6 cs pl 0 many (.imm (ni 0)) .un .un .un) = .ok (.nx, PE6 cs pl 0 many (.imm (ni 0)) (.imm (ni pl)) .un .un) := set_at pen_ix1 rfl rfl
  have p1 : sPut 0 (dC (.int 1)) (dBin opAdd (dVar 3) (dC (.int 1))) (PE6 cs pl 0 many (.imm (ni 0)) (.imm (ni pl)) .un .un) = .ok (.nx, PE6 cs (pl + 1) 0 many (.imm (ni 0)) (.imm (ni pl)) .un .un) := pen_put1 (bin_ok (v := .imm (ni pl)) (w := .imm (ni 1)) rfl rfl (ni_add pl 1))
  have s4 : sSet 4 (dBin opIx (dIxS 0 (dC (.int 0))) (dBin opMod (dCallB bInt (aCons (dVar 3) aNil)) (dCallB bLen (aCons (dIxS 0 (dC (.int 0))) aNil)))) (PE6 cs (pl + 1) 0 many (.imm (ni 0)) (.imm (ni pl)) .un .un) = .ok (.nx, PE6 cs (pl + 1) 0 many (.imm (ni 0)) (.imm (ni pl)) (.imm (.int c)) .un) := by
    refine set_at (bin_ok (v := .imm (.lst (cs.map .int))) (w := .imm (ni (pl % cs.length))) pen_ix0 (bin_ok (v := .imm (ni pl)) (w := .imm (ni cs.length)) (blt_ok (v := .imm (ni pl)) rfl (ni_int pl)) (blt_ok pen_ix0 ?_) (ni_mod hl)) X) rfl rfl
    show bLen [.lst (cs.map .int)] = _
    rw [bLen_l, List.length_map]
  rw [seq_nx (if_no nt), seq_nx s3, seq_nx p1, seq_nx s4]
  exact h
theorem draw_big (hm : 0 < many) (hm2 : many < 2 ^ 64) {c : Int} (hc : cs.isEmpty = false) (hl : 0 < cs.length) (X : opIx (.lst (cs.map .int)) (ni (pl % cs.length)) = .ok (.imm (.int c))) (q1 : pl < cs.length) (q2 : 10 ^ 18 ≤ c.natAbs) :
    runF true 6 (drawB p1 c1 c2 p2 c3 p3) [PenD cs pl 0, ni many] = .ok (.imm (ni ((2 * (c.natAbs - 10 ^ 18) + (if decide (c < 0) = true then 1 else 0)) % many)), some (PenD cs (pl + 1) ((2 * (c.natAbs - 10 ^ 18) + (if decide (c < 0) = true then 1 else 0)) / many))) := by
  have hm3 : many < 2 ^ 9000 := Nat.lt_of_lt_of_le hm2 (Nat.pow_le_pow_right (by decide) (by decide))
  have S := ni_sub q2
  have S2 := ni_mulL (a := 2) (b := c.natAbs - 10 ^ 18) (by decide)
  have P10 := ni_pow (a := 10) (b := 18) (by decide) (by decide)
  generalize hR : 2 * (c.natAbs - 10 ^ 18) + (if decide (c < 0) = true then 1 else 0) = R
  have AD := ni_add (2 * (c.natAbs - 10 ^ 18)) (if decide (c < 0) = true then 1 else 0)
  rw [hR] at AD
  have m := ni_mod (a := R) hm
  have d := ni_fdivy (a := R) hm hm3
  have l1 := ni_lt pl cs.length
  rw [decide_eq_true q1] at l1
  have l2 := ni_ge c.natAbs (10 ^ 18)
  rw [decide_eq_true q2] at l2
  let E := PE6 cs (pl + 1) 0 many (.imm (ni 0)) (.imm (ni pl)) (.imm (.int c)) .un
  have pw : dBin opPow (dC (.int 10)) (dC (.int 18)) E = .ok (.imm (ni (10 ^ 18)), E) := bin_ok (v := .imm (ni 10)) (w := .imm (ni 18)) rfl rfl P10
  have ab : dCallB bAbs (aCons (dVar 4) aNil) E = .ok (.imm (ni c.natAbs), E) := blt_ok (v := .imm (.int c)) rfl (i_abs c)
  have ln : dCallB bLen (aCons (dIxS 0 (dC (.int 0))) aNil) E = .ok (.imm (ni cs.length), E) := blt_ok pen_ix0 (by
    show bLen [.lst (cs.map .int)] = _
    rw [bLen_l, List.length_map])
  have t : tAndD (dTest (dBin opLt (dVar 3) (dCallB bLen (aCons (dIxS 0 (dC (.int 0))) aNil)))) (dTest (dBin opGe (dCallB bAbs (aCons (dVar 4) aNil)) (dBin opPow (dC (.int 10)) (dC (.int 18))))) E = .ok (true, E) := by
    rw [and_yes (test_ok (bin_ok (v := .imm (ni pl)) rfl ln l1))]
    exact test_ok (bin_ok ab pw l2)
  have b2 : sSet 2 (dBin opAdd (dBin opMul (dC (.int 2)) (dBin opSub (dCallB bAbs (aCons (dVar 4) aNil)) (dBin opPow (dC (.int 10)) (dC (.int 18))))) (dCallB bInt (aCons (dBin opLt (dVar 4) (dC (.int 0))) aNil))) E = .ok (.nx, PE6 cs (pl + 1) 0 many (.imm (ni R)) (.imm (ni pl)) (.imm (.int c)) .un) :=
    set_at (bin_ok (bin_ok (v := .imm (ni 2)) rfl (bin_ok ab pw S) S2) (blt_ok (bin_ok (v := .imm (.int c)) (w := .imm (ni 0)) rfl rfl (i_lt0 c)) (b_int (decide (c < 0)))) AD) rfl rfl
  have b3 : sPut 0 (dC (.int 2)) (dBin opFDiv (dVar 2) (dVar 1)) (PE6 cs (pl + 1) 0 many (.imm (ni R)) (.imm (ni pl)) (.imm (.int c)) .un) = .ok (.nx, PE6 cs (pl + 1) (R / many) many (.imm (ni R)) (.imm (ni pl)) (.imm (.int c)) .un) := pen_put2 (bin_ok (v := .imm (ni R)) (w := .imm (ni many)) rfl rfl d)
  have b4 : sRet (dBin opMod (dVar 2) (dVar 1)) (PE6 cs (pl + 1) (R / many) many (.imm (ni R)) (.imm (ni pl)) (.imm (.int c)) .un) = .ok (.rt (.imm (ni (R % many))), PE6 cs (pl + 1) (R / many) many (.imm (ni R)) (.imm (ni pl)) (.imm (.int c)) .un) := ret_ok (bin_ok (v := .imm (ni R)) (w := .imm (ni many)) rfl rfl m)
  have all : drawB p1 c1 c2 p2 c3 p3 (PE6 cs pl 0 many .un .un .un .un) = .ok (.rt (.imm (ni (R % many))), PE6 cs (pl + 1) (R / many) many (.imm (ni R)) (.imm (ni pl)) (.imm (.int c)) .un) := by
    unfold drawB
    refine draw_cell hc hl X ?_
    have i := if_yes (f := sSeq (sSet 2 (dBin opAdd (dBin opMul (dC (.int 2)) (dBin opSub (dCallB bAbs (aCons (dVar 4) aNil)) (dBin opPow (dC (.int 10)) (dC (.int 18))))) (dCallB bInt (aCons (dBin opLt (dVar 4) (dC (.int 0))) aNil)))) (sSeq (sPut 0 (dC (.int 2)) (dBin opFDiv (dVar 2) (dVar 1))) (sRet (dBin opMod (dVar 2) (dVar 1))))) (h := sNext) t
    rw [seq_nx b2, seq_nx b3, b4] at i
    unfold sSeq at i ⊢
    rw [i]
    rfl
  unfold runF
  rw [show env0 true 6 [PenD cs pl 0, ni many] = PE6 cs pl 0 many .un .un .un .un from rfl, all]
  rfl
theorem draw_mix (h1 : 0 < p1 ∧ p1 < 2 ^ 32) (g1 : c1 < 2 ^ 20) (g2 : c2 < 2 ^ 20) (h2 : 0 < p2 ∧ p2 < 2 ^ 32) (g3 : c3 < 2 ^ 20) (h3 : 0 < p3 ∧ p3 < 2 ^ 32) (hm : 0 < many) (hpl : pl < 2 ^ 10) {c : Int} (hc : cs.isEmpty = false) (hl : 0 < cs.length) (X : opIx (.lst (cs.map .int)) (ni (pl % cs.length)) = .ok (.imm (.int c)))
    (hb : ¬ (pl < cs.length ∧ 10 ^ 18 ≤ c.natAbs)) : ∃ r, r < many ∧ runF true 6 (drawB p1 c1 c2 p2 c3 p3) [PenD cs pl 0, ni many] = .ok (.imm (ni r), some (PenD cs (pl + 1) 0)) := by
  have P10 := ni_pow (a := 10) (b := 18) (by decide) (by decide)
  have x1 := i_mod_lt c h1.1
  have bnd : c1 * pl < 2 ^ 30 := by
    have := Nat.mul_lt_mul_of_lt_of_lt g1 hpl
    rw [← Nat.pow_add] at this
    exact this
  have m1 := ni_mulL (a := c1) (b := pl) (by omega)
  have e1 := i_mod c h1.1
  generalize (c % p1).toNat = x at x1 e1
  have w1 := ni_pow (a := x + c1 * pl + c2) (b := 5) (by decide) (by omega)
  have e2 := ni_mod (a := (x + c1 * pl + c2) ^ 5) h2.1
  have x2 := Nat.mod_lt ((x + c1 * pl + c2) ^ 5) h2.1
  generalize hy : (x + c1 * pl + c2) ^ 5 % p2 = y at e2 x2
  have m2 := ni_mulL (a := 2) (b := pl) (by decide)
  have m3 := ni_mulL (a := y) (b := 2 * pl + c3) (by omega)
  have b4 : c1 * pl * pl < 2 ^ 40 := by
    have := Nat.mul_lt_mul_of_lt_of_lt bnd hpl
    rw [← Nat.pow_add] at this
    exact this
  have m4 := ni_mulL (a := c1 * pl) (b := pl) (by omega)
  have b5 : y * (2 * pl + c3) < 2 ^ 53 := by
    have := Nat.mul_lt_mul_of_lt_of_lt (a := y) (c := 2 ^ 32) (b := 2 * pl + c3) (d := 2 ^ 21) (by omega) (by omega)
    rw [← Nat.pow_add] at this
    exact this
  have w2 := ni_pow (a := y * (2 * pl + c3) + c1 * pl * pl + c2) (b := 3) (by decide) (by omega)
  have e3 := ni_mod (a := (y * (2 * pl + c3) + c1 * pl * pl + c2) ^ 3) h3.1
  generalize hz : (y * (2 * pl + c3) + c1 * pl * pl + c2) ^ 3 % p3 = z at e3
  have d64 := ni_fdivy (a := z) (b := 64) (by decide) (by decide)
  refine ⟨z / 64 % many, Nat.mod_lt _ hm, ?_⟩
  have mm := ni_mod (a := z / 64) hm
  have l1 := ni_lt pl cs.length
  have l2 := ni_ge c.natAbs (10 ^ 18)
  let E := PE6 cs (pl + 1) 0 many (.imm (ni 0)) (.imm (ni pl)) (.imm (.int c)) .un
  have pw : dBin opPow (dC (.int 10)) (dC (.int 18)) E = .ok (.imm (ni (10 ^ 18)), E) := bin_ok (v := .imm (ni 10)) (w := .imm (ni 18)) rfl rfl P10
  have ab : dCallB bAbs (aCons (dVar 4) aNil) E = .ok (.imm (ni c.natAbs), E) := blt_ok (v := .imm (.int c)) rfl (i_abs c)
  have ln : dCallB bLen (aCons (dIxS 0 (dC (.int 0))) aNil) E = .ok (.imm (ni cs.length), E) := blt_ok pen_ix0 (by
    show bLen [.lst (cs.map .int)] = _
    rw [bLen_l, List.length_map])
  have t : tAndD (dTest (dBin opLt (dVar 3) (dCallB bLen (aCons (dIxS 0 (dC (.int 0))) aNil)))) (dTest (dBin opGe (dCallB bAbs (aCons (dVar 4) aNil)) (dBin opPow (dC (.int 10)) (dC (.int 18))))) E = .ok (false, E) := by
    by_cases q1 : pl < cs.length
    · have q2 : ¬ 10 ^ 18 ≤ c.natAbs := fun h => hb ⟨q1, h⟩
      rw [decide_eq_true q1] at l1
      rw [decide_eq_false q2] at l2
      rw [and_yes (test_ok (bin_ok (v := .imm (ni pl)) rfl ln l1))]
      exact test_ok (bin_ok ab pw l2)
    · rw [decide_eq_false q1] at l1
      exact and_no (test_ok (bin_ok (v := .imm (ni pl)) rfl ln l1))
  have b5 : sSet 5 (dBin opMod (dCallB bInt (aCons (dBin opPow (dBin opAdd (dBin opAdd (dBin opMod (dCallB bInt (aCons (dVar 4) aNil)) (dC (.int p1))) (dBin opMul (dC (.int c1)) (dVar 3))) (dC (.int c2))) (dC (.int 5))) aNil)) (dC (.int p2))) E = .ok (.nx, PE6 cs (pl + 1) 0 many (.imm (ni 0)) (.imm (ni pl)) (.imm (.int c)) (.imm (ni y))) :=
    set_at (bin_ok (w := .imm (ni p2)) (blt_ok (bin_ok (w := .imm (ni 5)) (bin_ok (w := .imm (ni c2)) (bin_ok (bin_ok (w := .imm (ni p1)) (blt_ok (v := .imm (.int c)) rfl (i_int c)) rfl e1) (bin_ok (v := .imm (ni c1)) (w := .imm (ni pl)) rfl rfl m1) (ni_add _ _)) rfl (ni_add _ _)) rfl w1) (ni_int _)) rfl e2) rfl rfl
  have b6 : sSet 5 (dBin opMod (dCallB bInt (aCons (dBin opPow (dBin opAdd (dBin opAdd (dBin opMul (dVar 5) (dBin opAdd (dBin opMul (dC (.int 2)) (dVar 3)) (dC (.int c3)))) (dBin opMul (dBin opMul (dC (.int c1)) (dVar 3)) (dVar 3))) (dC (.int c2))) (dC (.int 3))) aNil)) (dC (.int p3))) (PE6 cs (pl + 1) 0 many (.imm (ni 0)) (.imm (ni pl)) (.imm (.int c)) (.imm (ni y))) = .ok (.nx, PE6 cs (pl + 1) 0 many (.imm (ni 0)) (.imm (ni pl)) (.imm (.int c)) (.imm (ni z))) :=
    set_at (bin_ok (w := .imm (ni p3)) (blt_ok (bin_ok (w := .imm (ni 3)) (bin_ok (w := .imm (ni c2)) (bin_ok (bin_ok (v := .imm (ni y)) rfl (bin_ok (w := .imm (ni c3)) (bin_ok (v := .imm (ni 2)) (w := .imm (ni pl)) rfl rfl m2) rfl (ni_add _ _)) m3) (bin_ok (w := .imm (ni pl)) (bin_ok (v := .imm (ni c1)) (w := .imm (ni pl)) rfl rfl m1) rfl m4) (ni_add _ _)) rfl (ni_add _ _)) rfl w2) (ni_int _)) rfl e3) rfl rfl
  have b7 : sRet (dBin opMod (dCallB bInt (aCons (dBin opFDiv (dVar 5) (dC (.int 64))) aNil)) (dVar 1)) (PE6 cs (pl + 1) 0 many (.imm (ni 0)) (.imm (ni pl)) (.imm (.int c)) (.imm (ni z))) = .ok (.rt (.imm (ni (z / 64 % many))), PE6 cs (pl + 1) 0 many (.imm (ni 0)) (.imm (ni pl)) (.imm (.int c)) (.imm (ni z))) :=
    ret_ok (bin_ok (w := .imm (ni many)) (blt_ok (bin_ok (v := .imm (ni z)) (w := .imm (ni 64)) rfl rfl d64) (ni_int _)) rfl mm)
  have all : drawB p1 c1 c2 p2 c3 p3 (PE6 cs pl 0 many .un .un .un .un) = .ok (.rt (.imm (ni (z / 64 % many))), PE6 cs (pl + 1) 0 many (.imm (ni 0)) (.imm (ni pl)) (.imm (.int c)) (.imm (ni z))) := by
    unfold drawB
    refine draw_cell hc hl X ?_
    rw [seq_nx (if_no t), seq_nx b5, seq_nx b6]
    exact b7
  unfold runF
  rw [show env0 true 6 [PenD cs pl 0, ni many] = PE6 cs pl 0 many .un .un .un .un from rfl, all]
  rfl
theorem draw_ok (h1 : 0 < p1 ∧ p1 < 2 ^ 32) (g1 : c1 < 2 ^ 20) (g2 : c2 < 2 ^ 20) (h2 : 0 < p2 ∧ p2 < 2 ^ 32) (g3 : c3 < 2 ^ 20) (h3 : 0 < p3 ∧ p3 < 2 ^ 32) {cs : List Int} {pl rest many : Nat} (hm : 0 < many) (hm2 : many < 2 ^ 64) (hpl : pl < 2 ^ 10) :
    ∃ r pl' rest', r < many ∧ pl' ≤ pl + 1 ∧ runF true 6 (drawB p1 c1 c2 p2 c3 p3) [PenD cs pl rest, ni many] = .ok (.imm (ni r), some (PenD cs pl' rest')) := by
  by_cases hr : 0 < rest
  · exact ⟨_, _, _, Nat.mod_lt _ hm, Nat.le_succ _, draw_rest hm hm2 hr⟩
  · obtain rfl : rest = 0 := by omega
    by_cases hc : cs = []
    · subst hc
      exact ⟨0, pl, 0, hm, Nat.le_succ _, draw_none⟩
    · have hl : 0 < cs.length := List.length_pos_iff.mpr hc
      have hne : cs.isEmpty = false := by simpa using hc
      have hix : pl % cs.length < cs.length := Nat.mod_lt _ hl
      have X := ix_l (ds := cs.map .int) (k := pl % cs.length) (d := .int cs[pl % cs.length]) (by simp [hix])
      by_cases hbig : pl < cs.length ∧ 10 ^ 18 ≤ (cs[pl % cs.length]).natAbs
      · exact ⟨_, _, _, Nat.mod_lt _ hm, Nat.le_refl _, draw_big hm hm2 hne hl X hbig.1 hbig.2⟩
      · obtain ⟨r, hr, e⟩ := draw_mix h1 g1 g2 h2 g3 h3 hm hpl hne hl X hbig
        exact ⟨r, _, _, hr, Nat.le_refl _, e⟩
end
end G


set_option maxRecDepth 100000
set_option exponentiation.threshold 30000
namespace G
/-! numbers: choose, factorials, even weights -/
def ch : Nat → Nat → Nat
  | _, 0 => 1
  | 0, _ + 1 => 0
  | n + 1, k + 1 => ch n k + ch n (k + 1)
theorem ch_zero (n : Nat) : ch n 0 = 1 := by cases n <;> rfl
theorem ch_succ (n k : Nat) : ch (n + 1) (k + 1) = ch n k + ch n (k + 1) := rfl
theorem ch_mul : ∀ n k, (k + 1) * ch (n + 1) (k + 1) = (n + 1) * ch n k
  | 0, 0 => rfl
  | 0, k + 1 => by simp [ch]
  | n + 1, 0 => by
    have h : ch (n + 1) 1 = n + 1 := by simpa [ch_zero] using ch_mul n 0
    have h2 : ch (n + 1 + 1) (0 + 1) = ch (n + 1) 0 + ch (n + 1) 1 := rfl
    rw [h2, ch_zero, h]
    omega
  | n + 1, k + 1 => by
    have h1 := ch_mul n k
    have h2 := ch_mul n (k + 1)
    rw [ch_succ (n + 1) (k + 1)]
    have h3 := ch_succ n k
    grind
theorem ch_step : ∀ n k, (k + 1) * ch n (k + 1) + k * ch n k = n * ch n k
  | 0, 0 => rfl
  | 0, k + 1 => by simp [ch]
  | n + 1, 0 => by
    have h := ch_mul n 0
    rw [ch_zero] at h ⊢
    omega
  | n + 1, k + 1 => by
    have h1 := ch_mul n k
    have h2 := ch_mul n (k + 1)
    have h3 := ch_succ n k
    grind
theorem ch_diag : ∀ n, ch n n = 1 ∧ ch n (n + 1) = 0
  | 0 => ⟨rfl, rfl⟩
  | n + 1 => by
    obtain ⟨h1, h2⟩ := ch_diag n
    have h3 : ch n (n + 2) = 0 := by
      have := ch_step n (n + 1)
      rw [h2] at this
      have h4 : (n + 1 + 1) * ch n (n + 1 + 1) = 0 := by simpa using this
      exact (Nat.mul_eq_zero.mp h4).resolve_left (by omega)
    exact ⟨by rw [ch_succ, h1, h2], by rw [ch_succ, h2, h3]⟩
theorem ch_pos : ∀ m c, 0 < ch (m + c) c
  | m, 0 => by rw [ch_zero]; exact Nat.one_pos
  | m, c + 1 => by
    show 0 < ch (m + c + 1) (c + 1)
    rw [ch_succ]
    have := ch_pos m c
    omega
theorem ch_le : ∀ n k, ch n k ≤ 2 ^ n
  | n, 0 => by rw [ch_zero]; exact Nat.one_le_two_pow
  | 0, k + 1 => by simp [ch]
  | n + 1, k + 1 => by
    rw [ch_succ, Nat.pow_succ]
    have h1 := ch_le n k
    have h2 := ch_le n (k + 1)
    omega
def fac : Nat → Nat
  | 0 => 1
  | n + 1 => (n + 1) * fac n
theorem fac_pos : ∀ n, 0 < fac n
  | 0 => Nat.one_pos
  | n + 1 => Nat.mul_pos (Nat.succ_pos _) (fac_pos n)
theorem fac_ch : ∀ m c, fac m * fac c * ch (m + c) c = fac (m + c)
  | m, 0 => by rw [ch_zero]; simp [fac]
  | m, c + 1 => by
    have h := ch_mul (m + c) c
    have ih := fac_ch m c
    show fac m * ((c + 1) * fac c) * ch (m + c + 1) (c + 1) = (m + c + 1) * fac (m + c)
    rw [← ih]
    calc fac m * ((c + 1) * fac c) * ch (m + c + 1) (c + 1) = fac m * fac c * ((c + 1) * ch (m + c + 1) (c + 1)) := by grind
      _ = _ := by rw [h]; grind
def pfac : List Nat → Nat
  | [] => 1
  | c :: cs => fac c * pfac cs
theorem pfac_pos : ∀ cs, 0 < pfac cs
  | [] => Nat.one_pos
  | c :: cs => Nat.mul_pos (fac_pos c) (pfac_pos cs)
/-- one over the weight -/
def Mw : Nat → List Nat → Nat
  | _, [] => 1
  | m, c :: cs => ch (m + c) c * Mw (m + c) cs
theorem Mw_pos : ∀ cs m, 0 < Mw m cs
  | [], _ => Nat.one_pos
  | c :: cs, m => Nat.mul_pos (ch_pos m c) (Mw_pos cs (m + c))
theorem Mw_fac : ∀ cs m, fac m * pfac cs * Mw m cs = fac (m + cs.sum)
  | [], m => by simp [pfac, Mw]
  | c :: cs, m => by
    have h1 := fac_ch m c
    have h2 := Mw_fac cs (m + c)
    show fac m * (fac c * pfac cs) * (ch (m + c) c * Mw (m + c) cs) = fac (m + (c :: cs).sum)
    rw [List.sum_cons, ← Nat.add_assoc, ← h2, ← h1]
    grind
theorem Mw_le : ∀ cs m, Mw m cs ≤ 2 ^ ((m + cs.sum) * cs.length)
  | [], m => by simp [Mw]
  | c :: cs, m => by
    have h1 := ch_le (m + c) c
    have h2 := Mw_le cs (m + c)
    show ch (m + c) c * Mw (m + c) cs ≤ _
    rw [List.sum_cons, List.length_cons, ← Nat.add_assoc, Nat.mul_succ, Nat.pow_add, Nat.mul_comm (2 ^ _)]
    exact Nat.mul_le_mul (Nat.le_trans h1 (Nat.pow_le_pow_right (by decide) (by omega))) h2
/-- one more of the good at g -/
def bump (cs : List Nat) (g : Nat) : List Nat := cs.take g ++ [cs.getD g 0 + 1] ++ cs.drop (g + 1)
theorem pfac_append : ∀ as bs, pfac (as ++ bs) = pfac as * pfac bs
  | [], bs => by simp [pfac]
  | a :: as, bs => by
    show fac a * pfac (as ++ bs) = _
    rw [pfac_append as bs]
    show _ = fac a * pfac as * pfac bs
    rw [Nat.mul_assoc]
theorem split_at {cs : List Nat} {g : Nat} (h : g < cs.length) : cs = cs.take g ++ [cs.getD g 0] ++ cs.drop (g + 1) := by
  have e : cs.getD g 0 = cs[g] := by simp [h]
  rw [e, List.append_assoc, List.singleton_append, ← List.drop_eq_getElem_cons h, List.take_append_drop]
theorem bump_sum {cs : List Nat} {g : Nat} (h : g < cs.length) : (bump cs g).sum = cs.sum + 1 := by
  have e := congrArg List.sum (split_at h)
  unfold bump
  simp only [List.sum_append, List.sum_cons, List.sum_nil] at e ⊢
  omega
theorem bump_len {cs : List Nat} {g : Nat} (h : g < cs.length) : (bump cs g).length = cs.length := by
  unfold bump
  simp
  omega
theorem bump_pfac {cs : List Nat} {g : Nat} (h : g < cs.length) : pfac (bump cs g) = (cs.getD g 0 + 1) * pfac cs := by
  have e : pfac cs = _ := congrArg pfac (split_at h)
  rw [e]
  unfold bump
  rw [pfac_append, pfac_append, pfac_append, pfac_append]
  show pfac _ * (fac (cs.getD g 0 + 1) * 1) * _ = _ * (_ * (fac (cs.getD g 0) * 1) * _)
  show pfac _ * ((cs.getD g 0 + 1) * fac (cs.getD g 0) * 1) * _ = _ * (_ * (fac (cs.getD g 0) * 1) * _)
  grind
theorem Mw_bump {cs : List Nat} {g m : Nat} (h : g < cs.length) : Mw m (bump cs g) * (cs.getD g 0 + 1) = Mw m cs * (m + cs.sum + 1) := by
  have h1 := Mw_fac cs m
  have h2 := Mw_fac (bump cs g) m
  rw [bump_sum h, bump_pfac h] at h2
  have h3 : fac (m + (cs.sum + 1)) = (m + cs.sum + 1) * fac (m + cs.sum) := rfl
  rw [h3, ← h1] at h2
  have hp : 0 < fac m * pfac cs := Nat.mul_pos (fac_pos m) (pfac_pos cs)
  apply Nat.eq_of_mul_eq_mul_left hp
  grind
/-- lowest terms -/
theorem red_eq {a b c d : Nat} (hb : 0 < b) (hd : 0 < d) (h : a * d = c * b) : a / Nat.gcd a b = c / Nat.gcd c d ∧ b / Nat.gcd a b = d / Nat.gcd c d := by
  have g1 : 0 < Nat.gcd a b := Nat.gcd_pos_of_pos_right a hb
  have g2 : 0 < Nat.gcd c d := Nat.gcd_pos_of_pos_right c hd
  have e1 : Nat.gcd a b * d = b * Nat.gcd c d := by
    rw [← Nat.gcd_mul_right, h, Nat.mul_comm c b, Nat.gcd_mul_left]
  generalize q1 : Nat.gcd a b = g at *
  generalize q2 : Nat.gcd c d = k at *
  obtain ⟨x, hx⟩ := q1 ▸ Nat.gcd_dvd_left a b
  obtain ⟨y, hy⟩ := q1 ▸ Nat.gcd_dvd_right a b
  obtain ⟨z, hz⟩ := q2 ▸ Nat.gcd_dvd_left c d
  obtain ⟨w, hw⟩ := q2 ▸ Nat.gcd_dvd_right c d
  clear q1 q2
  subst hx hy hz hw
  have hy : 0 < y := Nat.pos_of_ne_zero fun e => by rw [e, Nat.mul_zero] at hb; exact absurd hb (Nat.lt_irrefl _)
  have e2 : y = w := by
    apply Nat.eq_of_mul_eq_mul_left (Nat.mul_pos g1 g2)
    grind
  subst e2
  have e3 : x = z := by
    apply Nat.eq_of_mul_eq_mul_left (Nat.mul_pos (Nat.mul_pos g1 g2) hy)
    grind
  subst e3
  rw [Nat.mul_div_cancel_left _ g1, Nat.mul_div_cancel_left _ g1, Nat.mul_div_cancel_left _ g2, Nat.mul_div_cancel_left _ g2]
  exact ⟨rfl, rfl⟩
/-- a fraction in lowest terms -/
def red (a b : Nat) : Nat × Nat := (a / Nat.gcd a b, b / Nat.gcd a b)
theorem red_of {a b c d : Nat} (hb : 0 < b) (hd : 0 < d) (h : a * d = c * b) : red a b = red c d := Prod.ext (red_eq hb hd h).1 (red_eq hb hd h).2
theorem red_one (M : Nat) : red 1 M = (1, M) := by unfold red; simp
theorem red_le (a b : Nat) : (red a b).1 ≤ a ∧ (red a b).2 ≤ b := ⟨Nat.div_le_self _ _, Nat.div_le_self _ _⟩
theorem red_cross (a b : Nat) : (red a b).1 * b = a * (red a b).2 := by
  show a / Nat.gcd a b * b = a * (b / Nat.gcd a b)
  obtain ⟨x, hx⟩ := Nat.gcd_dvd_left a b
  obtain ⟨y, hy⟩ := Nat.gcd_dvd_right a b
  by_cases h : Nat.gcd a b = 0
  · rw [h]
    have := Nat.gcd_eq_zero_iff.mp h
    rw [this.1, this.2]
  · generalize Nat.gcd a b = g at *
    subst hx hy
    rw [Nat.mul_div_cancel_left _ (Nat.pos_of_ne_zero h), Nat.mul_div_cancel_left _ (Nat.pos_of_ne_zero h)]
    grind
theorem red_pos {a b : Nat} (hb : 0 < b) : 0 < (red a b).2 := Nat.div_gcd_pos_of_pos_right a hb
end G


set_option maxRecDepth 100000
set_option exponentiation.threshold 30000
namespace G
/-! Rt1: rational numbers with a bound; sums of lists. -/
/-- q is n / D, n at most N -/
def Bz (D N : Nat) (q : Rat) : Prop := 0 < D ∧ ∃ n : Int, q * (D : Rat) = (n : Rat) ∧ n.natAbs ≤ N
theorem ratD {D : Nat} (h : 0 < D) : (D : Rat) ≠ 0 := fun e => by
  have := Rat.natCast_eq_zero_iff.mp e
  omega
theorem Bz.pos {D N : Nat} {q : Rat} (h : Bz D N q) : 0 < D := h.1
theorem Bz.eq {D N : Nat} {q : Rat} (h : Bz D N q) : ∃ n : Int, n.natAbs ≤ N ∧ q = mkRat n D := by
  obtain ⟨hD, n, e, hn⟩ := h
  refine ⟨n, hn, ?_⟩
  have := ratD hD
  rw [Rat.mkRat_eq_div]
  rw [← e]
  grind
theorem Bz.den {D N : Nat} {q : Rat} (h : Bz D N q) : q.den ≤ D := by
  obtain ⟨n, _, rfl⟩ := h.eq
  rw [Rat.den_mkRat, if_neg (by have := h.1; omega)]
  exact Nat.div_le_self _ _
theorem Bz.num {D N : Nat} {q : Rat} (h : Bz D N q) : q.num.natAbs ≤ N := by
  obtain ⟨n, hn, rfl⟩ := h.eq
  rw [Rat.num_mkRat, if_neg (by have := h.1; omega)]
  exact Nat.le_trans (Int.natAbs_ediv_le_natAbs _ _) hn
theorem Bz.mono {D N M : Nat} {q : Rat} (h : Bz D N q) (hl : N ≤ M) : Bz D M q := by
  obtain ⟨h1, n, h2, h3⟩ := h
  exact ⟨h1, n, h2, by omega⟩
theorem Bz.add {D N M : Nat} {p q : Rat} (h : Bz D N p) (k : Bz D M q) : Bz D (N + M) (p + q) := by
  obtain ⟨h1, n, h2, h3⟩ := h
  obtain ⟨k1, m, k2, k3⟩ := k
  refine ⟨h1, n + m, ?_, by omega⟩
  rw [Rat.intCast_add, ← h2, ← k2]
  grind
theorem Bz.neg {D N : Nat} {p : Rat} (h : Bz D N p) : Bz D N (-p) := by
  obtain ⟨h1, n, h2, h3⟩ := h
  refine ⟨h1, -n, ?_, by omega⟩
  rw [Rat.intCast_neg, ← h2]
  grind
theorem Bz.mul {D N E M : Nat} {p q : Rat} (h : Bz D N p) (k : Bz E M q) : Bz (D * E) (N * M) (p * q) := by
  obtain ⟨h1, n, h2, h3⟩ := h
  obtain ⟨k1, m, k2, k3⟩ := k
  refine ⟨Nat.mul_pos h1 k1, n * m, ?_, ?_⟩
  · rw [Rat.intCast_mul, ← h2, ← k2, Rat.natCast_mul]
    grind
  · rw [Int.natAbs_mul]
    exact Nat.mul_le_mul h3 k3
theorem Bz.wide {D N : Nat} {p : Rat} (h : Bz D N p) {k : Nat} (hk : 0 < k) : Bz (D * k) (N * k) p := by
  have := h.mul (E := k) (M := k) (q := 1) ⟨hk, k, by rw [Rat.intCast_natCast, Rat.one_mul], by omega⟩
  rw [Rat.mul_one] at this
  exact this
theorem Bz.zero {D : Nat} (h : 0 < D) : Bz D 0 0 := ⟨h, 0, by grind, by omega⟩
theorem Bz.one {D : Nat} (h : 0 < D) : Bz D D 1 := ⟨h, D, by rw [Rat.intCast_natCast, Rat.one_mul], by omega⟩
theorem Bz.ofDiv (a : Int) {b : Nat} (h : 0 < b) : Bz b a.natAbs ((a : Rat) / (b : Rat)) := by
  have := ratD h
  exact ⟨h, a, by grind, Nat.le_refl _⟩
theorem Bz.nat (a : Nat) {D : Nat} (h : 0 < D) : Bz D (a * D) (a : Rat) := ⟨h, ((a * D : Nat) : Int), by rw [Rat.intCast_natCast, Rat.natCast_mul], by omega⟩
theorem Bz.self (q : Rat) : Bz q.den q.num.natAbs q := by
  refine ⟨q.den_pos, q.num, ?_, Nat.le_refl _⟩
  have h := Rat.mkRat_self q
  rw [Rat.mkRat_eq_div] at h
  have := ratD q.den_pos
  grind
theorem num_div (q : Rat) : (q.num : Rat) / (q.den : Rat) = q := by
  rw [← Rat.mkRat_eq_div, Rat.mkRat_self]
/-! sums -/
def rsum : List Rat → Rat
  | [] => 0
  | x :: xs => x + rsum xs
theorem rsum_append : ∀ xs ys, rsum (xs ++ ys) = rsum xs + rsum ys
  | [], ys => by simp only [List.nil_append, rsum]; grind
  | x :: xs, ys => by simp only [List.cons_append, rsum, rsum_append xs ys]; grind
theorem rsum_map_add {α : Type} (f g : α → Rat) : ∀ xs : List α, rsum (xs.map fun x => f x + g x) = rsum (xs.map f) + rsum (xs.map g)
  | [] => by simp only [List.map_nil, rsum]; grind
  | x :: xs => by simp only [List.map_cons, rsum, rsum_map_add f g xs]; grind
theorem rsum_map_mul {α : Type} (c : Rat) (f : α → Rat) : ∀ xs : List α, rsum (xs.map fun x => c * f x) = c * rsum (xs.map f)
  | [] => by simp only [List.map_nil, rsum]; grind
  | x :: xs => by simp only [List.map_cons, rsum, rsum_map_mul c f xs]; grind
theorem rsum_congr {α : Type} {f g : α → Rat} : ∀ {xs : List α}, (∀ x ∈ xs, f x = g x) → rsum (xs.map f) = rsum (xs.map g)
  | [], _ => rfl
  | x :: xs, h => by
    simp only [List.map_cons, rsum, h x List.mem_cons_self, rsum_congr fun y hy => h y (List.mem_cons_of_mem _ hy)]
theorem rsum_flatMap {α β : Type} (f : α → List β) (g : β → Rat) : ∀ xs : List α, rsum ((xs.flatMap f).map g) = rsum (xs.map fun x => rsum ((f x).map g))
  | [] => rfl
  | x :: xs => by
    rw [List.flatMap_cons, List.map_append, rsum_append, rsum_flatMap f g xs]
    rfl
theorem rsum_zero {α : Type} {f : α → Rat} : ∀ {xs : List α}, (∀ x ∈ xs, f x = 0) → rsum (xs.map f) = 0
  | [], _ => rfl
  | x :: xs, h => by
    simp only [List.map_cons, rsum, h x List.mem_cons_self, rsum_zero fun y hy => h y (List.mem_cons_of_mem _ hy)]
    grind
/-- one hits -/
theorem rsum_one {α : Type} {f : α → Rat} {a : α} : ∀ {xs : List α}, xs.Nodup → a ∈ xs → (∀ x ∈ xs, x ≠ a → f x = 0) → rsum (xs.map f) = f a
  | [], _, h, _ => by cases h
  | x :: xs, hn, h, k => by
    obtain ⟨h1, h2⟩ := List.nodup_cons.mp hn
    simp only [List.map_cons, rsum]
    rcases List.mem_cons.mp h with rfl | h
    · rw [rsum_zero fun y hy => k y (List.mem_cons_of_mem _ hy) fun e => h1 (by rw [← e]; exact hy)]
      grind
    · rw [rsum_one h2 h fun y hy => k y (List.mem_cons_of_mem _ hy), k x List.mem_cons_self fun e => h1 (by rw [e]; exact h)]
      grind
theorem rsum_comm {α β : Type} (f : α → β → Rat) (ys : List β) : ∀ xs : List α, rsum (xs.map fun x => rsum (ys.map fun y => f x y)) = rsum (ys.map fun y => rsum (xs.map fun x => f x y))
  | [] => (rsum_zero fun _ _ => rfl).symm
  | x :: xs => by
    simp only [List.map_cons, rsum, rsum_comm f ys xs]
    rw [← rsum_map_add]
theorem rsum_bz {D N : Nat} (hD : 0 < D) : ∀ {xs : List Rat}, (∀ x ∈ xs, Bz D N x) → Bz D (xs.length * N) (rsum xs)
  | [], _ => by simpa [rsum] using Bz.zero hD
  | x :: xs, h => by
    have h1 := h x List.mem_cons_self
    have h2 := rsum_bz hD fun y hy => h y (List.mem_cons_of_mem _ hy)
    exact (h1.add h2).mono (by rw [List.length_cons, Nat.succ_mul]; omega)
theorem rsum_nonneg : ∀ {xs : List Rat}, (∀ x ∈ xs, 0 ≤ x) → 0 ≤ rsum xs
  | [], _ => by simp only [rsum]; exact Rat.le_refl
  | x :: xs, h => Rat.add_nonneg (h x List.mem_cons_self) (rsum_nonneg fun y hy => h y (List.mem_cons_of_mem _ hy))
theorem rsum_le {α : Type} {f g : α → Rat} : ∀ {xs : List α}, (∀ x ∈ xs, f x ≤ g x) → rsum (xs.map f) ≤ rsum (xs.map g)
  | [], _ => Rat.le_refl
  | x :: xs, h => by
    have h1 := h x List.mem_cons_self
    have h2 := rsum_le fun y hy => h y (List.mem_cons_of_mem _ hy)
    simp only [List.map_cons, rsum]
    grind
end G


set_option maxRecDepth 100000
namespace G
theorem revI {α : Type} {P : List α → Prop} (h0 : P []) (h1 : ∀ w i, P w → P (w ++ [i])) (w : List α) : P w := by
  have key : ∀ l : List α, P l.reverse := fun l => by
    induction l with
    | nil => exact h0
    | cons a l ih => rw [List.reverse_cons]; exact h1 _ _ ih
  have := key w.reverse
  rwa [List.reverse_reverse] at this
/-! Rt2: words, their weights, counts, dicts of counts. -/
def wordsN (g : Nat) : Nat → List (List Nat)
  | 0 => [[]]
  | n + 1 => (wordsN g n).flatMap fun w => (List.range g).map fun i => w ++ [i]
theorem wordsN_mem {g : Nat} : ∀ {n : Nat} {w : List Nat}, w ∈ wordsN g n → w.length = n ∧ ∀ i ∈ w, i < g
  | 0, w, h => by
    have : w = [] := by simpa [wordsN] using h
    subst this
    exact ⟨rfl, fun _ h => by cases h⟩
  | n + 1, w, h => by
    obtain ⟨v, hv, hw⟩ := List.mem_flatMap.mp h
    obtain ⟨i, hi, rfl⟩ := List.mem_map.mp hw
    obtain ⟨h1, h2⟩ := wordsN_mem hv
    refine ⟨by rw [List.length_append, h1]; rfl, fun j hj => ?_⟩
    rcases List.mem_append.mp hj with hj | hj
    · exact h2 j hj
    · rw [List.mem_singleton.mp hj]
      exact List.mem_range.mp hi
theorem wordsN_len (g : Nat) : ∀ n, (wordsN g n).length = g ^ n
  | 0 => rfl
  | n + 1 => by
    have key : ∀ l : List (List Nat), (l.flatMap fun w => (List.range g).map fun i => w ++ [i]).length = l.length * g := by
      intro l
      induction l with
      | nil => simp
      | cons x l ih => rw [List.flatMap_cons, List.length_append, ih, List.length_map, List.length_range, List.length_cons, Nat.succ_mul, Nat.add_comm]
    show ((wordsN g n).flatMap _).length = _
    rw [key, wordsN_len g n, Nat.pow_succ]
/-- the product of a market's numbers for a word's goods -/
def wt : List (List Rat) → List Nat → Rat
  | d :: m, i :: w => d.getD i 0 * wt m w
  | _, _ => 1
theorem wt_snoc (d : List Rat) (i : Nat) : ∀ (m : List (List Rat)) (w : List Nat), m.length = w.length → wt (m ++ [d]) (w ++ [i]) = wt m w * d.getD i 0
  | [], [], _ => by simp only [List.nil_append, wt]; grind
  | e :: m, j :: w, h => by
    simp only [List.cons_append, wt, wt_snoc d i m w (by simpa using h)]
    grind
  | [], _ :: _, h => by cases h
  | _ :: _, [], h => by cases h
/-- the sum, over all words, of weight times what h tells -/
def vs (g : Nat) (m : List (List Rat)) (h : List Nat → Rat) : Rat := rsum ((wordsN g m.length).map fun w => wt m w * h w)
theorem vs_nil (g : Nat) (h : List Nat → Rat) : vs g [] h = h [] := by
  show 1 * h [] + 0 = _
  grind
theorem vs_snoc (g : Nat) (m : List (List Rat)) (d : List Rat) (h : List Nat → Rat) : vs g (m ++ [d]) h = vs g m fun w => rsum ((List.range g).map fun i => d.getD i 0 * h (w ++ [i])) := by
  unfold vs
  rw [List.length_append]
  show rsum (((wordsN g m.length).flatMap _).map _) = _
  rw [rsum_flatMap]
  refine rsum_congr fun w hw => ?_
  rw [List.map_map, ← rsum_map_mul]
  refine rsum_congr fun i _ => ?_
  show wt (m ++ [d]) (w ++ [i]) * h (w ++ [i]) = _
  rw [wt_snoc d i m w (wordsN_mem hw).1.symm]
  grind
theorem vs_congr {g : Nat} {m : List (List Rat)} {h k : List Nat → Rat} (e : ∀ w, w.length = m.length → (∀ i ∈ w, i < g) → h w = k w) : vs g m h = vs g m k := by
  unfold vs
  exact rsum_congr fun w hw => by rw [e w (wordsN_mem hw).1 (wordsN_mem hw).2]
theorem vs_add (g : Nat) (m : List (List Rat)) (h k : List Nat → Rat) : vs g m (fun w => h w + k w) = vs g m h + vs g m k := by
  unfold vs
  rw [← rsum_map_add]
  exact rsum_congr fun w _ => by grind
theorem vs_sum {α : Type} (g : Nat) (m : List (List Rat)) (h : α → List Nat → Rat) (xs : List α) : vs g m (fun w => rsum (xs.map fun x => h x w)) = rsum (xs.map fun x => vs g m (h x)) := by
  unfold vs
  rw [← rsum_comm]
  exact rsum_congr fun w _ => by rw [← rsum_map_mul]
/-- how often goods come in a word -/
def cnt (w : List Nat) (i : Nat) : Nat := w.count i
def counts (g : Nat) (w : List Nat) : List Nat := (List.range g).map fun i => w.count i
theorem counts_len (g : Nat) (w : List Nat) : (counts g w).length = g := by unfold counts; rw [List.length_map, List.length_range]
theorem counts_get {g : Nat} {w : List Nat} {i : Nat} (h : i < g) : (counts g w).getD i 0 = w.count i := by
  unfold counts
  rw [List.getD_eq_getElem?_getD, List.getElem?_map, List.getElem?_range h]
  rfl
theorem bump_set {cs : List Nat} {i : Nat} (h : i < cs.length) : bump cs i = cs.set i (cs.getD i 0 + 1) := by
  unfold bump
  rw [List.set_eq_take_append_cons_drop, if_pos h, List.append_assoc]
  rfl
theorem counts_snoc {g : Nat} {w : List Nat} {i : Nat} (h : i < g) : counts g (w ++ [i]) = bump (counts g w) i := by
  rw [bump_set (by rw [counts_len]; exact h), counts_get h]
  apply List.ext_getElem?
  intro j
  by_cases hj : j < g
  · unfold counts
    rw [List.getElem?_map, List.getElem?_range hj]
    by_cases e : i = j
    · subst e
      rw [List.getElem?_set_self (by simp [hj])]
      simp
    · rw [List.getElem?_set_ne e, List.getElem?_map, List.getElem?_range hj]
      simp [List.count_append, e]
  · rw [List.getElem?_eq_none (by rw [counts_len]; omega), List.getElem?_eq_none (by rw [List.length_set, counts_len]; omega)]
theorem counts_nil (g : Nat) : counts g [] = List.replicate g 0 := by
  unfold counts
  simp
  rw [List.map_const', List.length_range]
theorem sum_set : ∀ (cs : List Nat) (i : Nat), i < cs.length → (cs.set i (cs.getD i 0 + 1)).sum = cs.sum + 1
  | [], _, h => by simp at h
  | c :: cs, 0, _ => by simp; omega
  | c :: cs, i + 1, h => by
    have := sum_set cs i (by simpa using h)
    simp only [List.set_cons_succ, List.sum_cons, List.getD_cons_succ] at this ⊢
    omega
theorem counts_sum {g : Nat} : ∀ w : List Nat, (∀ i ∈ w, i < g) → (counts g w).sum = w.length := by
  intro w
  revert w
  refine revI ?_ ?_
  · intro _; rw [counts_nil]; simp
  · intro w i ih h
    have hi := h i (by simp)
    rw [counts_snoc hi, bump_set (by rw [counts_len]; exact hi), sum_set _ _ (by rw [counts_len]; exact hi), ih fun j hj => h j (by simp [hj])]
    simp
/-- lightnings -/
def bright (g i : Nat) : List Rat := (List.range g).map fun j => if i = j then 1 else 0
theorem bright_get {g i j : Nat} (h : j < g) : (bright g i).getD j 0 = if i = j then 1 else 0 := by
  unfold bright
  rw [List.getD_eq_getElem?_getD, List.getElem?_map, List.getElem?_range h]
  rfl
theorem vs_bright {g : Nat} : ∀ w : List Nat, (∀ i ∈ w, i < g) → ∀ h : List Nat → Rat, vs g (w.map (bright g)) h = h w := by
  intro w
  revert w
  refine revI ?_ ?_
  · intro _ h; exact vs_nil g h
  · intro w i ih hw h
    have hi := hw i (by simp)
    rw [List.map_append, List.map_cons, List.map_nil, vs_snoc, ih fun j hj => hw j (by simp [hj])]
    rw [rsum_one (a := i) List.nodup_range (List.mem_range.mpr hi) fun j hj ne => ?_]
    · rw [bright_get hi, if_pos rfl]
      grind
    · rw [bright_get (List.mem_range.mp hj), if_neg (Ne.symm ne)]
      grind
end G


set_option maxRecDepth 100000
set_option exponentiation.threshold 30000
namespace G
/-! Rt3: even weights; dicts of counts. -/
theorem Mw_zeros (m : Nat) : ∀ g, Mw m (List.replicate g 0) = 1
  | 0 => rfl
  | g + 1 => by
    show ch (m + 0) 0 * Mw (m + 0) (List.replicate g 0) = 1
    rw [ch_zero, Nat.add_zero, Mw_zeros m g]
/-- the even weight of counts -/
def hw (g : Nat) (cs : List Nat) : Rat := (1 : Rat) / (Mw (g - 1) cs : Rat)
/-- the even weight of a word, letter by letter, behind a beginning -/
def evF (g : Nat) : List Nat → List Nat → Rat
  | _, [] => 1
  | pre, x :: r => (((1 + pre.count x : Nat) : Rat) / ((pre.length + g : Nat) : Rat)) * evF g (pre ++ [x]) r
theorem evF_snoc (g : Nat) (i : Nat) : ∀ (r pre : List Nat), evF g pre (r ++ [i]) = evF g pre r * (((1 + (pre ++ r).count i : Nat) : Rat) / (((pre ++ r).length + g : Nat) : Rat))
  | [], pre => by simp only [List.nil_append, evF, List.append_nil]; grind
  | x :: r, pre => by
    simp only [List.cons_append, evF, evF_snoc g i r (pre ++ [x]), List.append_assoc, List.singleton_append, List.nil_append]
    grind
def ev (g : Nat) (w : List Nat) : Rat := evF g [] w
theorem ev_snoc (g : Nat) (w : List Nat) (i : Nat) : ev g (w ++ [i]) = ev g w * (((1 + w.count i : Nat) : Rat) / ((w.length + g : Nat) : Rat)) := by
  unfold ev
  rw [evF_snoc, List.nil_append]
theorem ev_hw {g : Nat} (hg : 0 < g) : ∀ w : List Nat, (∀ i ∈ w, i < g) → ev g w = hw g (counts g w) := by
  intro w
  revert w
  refine revI ?_ ?_
  · intro _
    unfold hw
    rw [counts_nil, Mw_zeros]
    show (1 : Rat) = 1 / (1 : Rat)
    grind
  · intro w i ih h
    have hi := h i (by simp)
    have hw' : ∀ j ∈ w, j < g := fun j hj => h j (by simp [hj])
    rw [ev_snoc, ih hw', counts_snoc hi]
    have e := Mw_bump (cs := counts g w) (g := i) (m := g - 1) (by rw [counts_len]; exact hi)
    rw [counts_get hi, counts_sum w hw'] at e
    have p1 := ratD (Mw_pos (counts g w) (g - 1))
    have p2 := ratD (Mw_pos (bump (counts g w) i) (g - 1))
    have p3 : ((w.length + g : Nat) : Rat) ≠ 0 := ratD (by omega)
    have e' : (Mw (g - 1) (bump (counts g w) i) : Rat) * ((1 + w.count i : Nat) : Rat) = (Mw (g - 1) (counts g w) : Rat) * ((w.length + g : Nat) : Rat) := by
      rw [← Rat.natCast_mul, ← Rat.natCast_mul]
      congr 1
      rw [show w.length + g = g - 1 + w.length + 1 by omega, Nat.add_comm 1]
      exact e
    unfold hw
    generalize (Mw (g - 1) (bump (counts g w) i) : Rat) = A at *
    generalize (Mw (g - 1) (counts g w) : Rat) = B at *
    generalize ((1 + w.count i : Nat) : Rat) = C at *
    generalize ((w.length + g : Nat) : Rat) = D at *
    grind
theorem rsum_nat : ∀ xs : List Nat, rsum (xs.map fun n : Nat => (n : Rat)) = ((xs.sum : Nat) : Rat)
  | [] => rfl
  | x :: xs => by
    rw [List.map_cons, List.sum_cons, Rat.natCast_add, ← rsum_nat xs]
    rfl
theorem sum_add_one : ∀ xs : List Nat, (xs.map fun n => 1 + n).sum = xs.sum + xs.length
  | [] => rfl
  | x :: xs => by
    rw [List.map_cons, List.sum_cons, List.sum_cons, List.length_cons, sum_add_one xs]
    omega
theorem ev_sum {g : Nat} (hg : 0 < g) {w : List Nat} (h : ∀ i ∈ w, i < g) : rsum ((List.range g).map fun i => ev g (w ++ [i])) = ev g w := by
  rw [rsum_congr (fun i _ => ev_snoc g w i), rsum_map_mul]
  have e : rsum ((List.range g).map fun i => ((1 + w.count i : Nat) : Rat) / ((w.length + g : Nat) : Rat)) = 1 := by
    have p3 : ((w.length + g : Nat) : Rat) ≠ 0 := ratD (by omega)
    rw [rsum_congr (g := fun i => (1 / ((w.length + g : Nat) : Rat)) * ((1 + w.count i : Nat) : Rat)) (fun i _ => by grind), rsum_map_mul]
    have e2 : rsum ((List.range g).map fun i => ((1 + w.count i : Nat) : Rat)) = ((w.length + g : Nat) : Rat) := by
      have e3 := rsum_nat ((counts g w).map fun n => 1 + n)
      rw [sum_add_one, counts_sum w h, counts_len] at e3
      unfold counts at e3
      rw [List.map_map, List.map_map] at e3
      exact e3
    rw [e2]
    grind
  rw [e]
  grind
/-! dicts of counts -/
abbrev Dic := List (List Nat × Rat)
def dget : Dic → List Nat → Option Rat
  | [], _ => none
  | p :: d, k => if p.1 = k then some p.2 else dget d k
def drep : Dic → List Nat → Rat → Dic
  | [], _, _ => []
  | p :: d, k, v => (if p.1 = k then (p.1, v) else p) :: drep d k v
def dput (d : Dic) (k : List Nat) (v : Rat) : Dic := if (dget d k).isSome then drep d k v else d ++ [(k, v)]
def dsum (f : List Nat → Rat) (d : Dic) : Rat := rsum (d.map fun p => f p.1 * p.2)
theorem drep_keys (k : List Nat) (v : Rat) : ∀ d : Dic, (drep d k v).map (·.1) = d.map (·.1)
  | [] => rfl
  | p :: d => by
    show (if p.1 = k then (p.1, v) else p).1 :: (drep d k v).map (·.1) = _
    rw [drep_keys k v d]
    split <;> rfl
theorem drep_none (k : List Nat) (v : Rat) : ∀ {d : Dic}, k ∉ d.map (·.1) → drep d k v = d
  | [], _ => rfl
  | p :: d, h => by
    simp only [List.map_cons, List.mem_cons, not_or] at h
    show (if p.1 = k then (p.1, v) else p) :: drep d k v = _
    rw [if_neg (Ne.symm h.1), drep_none k v h.2]
theorem dget_none {k : List Nat} : ∀ {d : Dic}, dget d k = none ↔ k ∉ d.map (·.1)
  | [] => by simp [dget]
  | p :: d => by
    unfold dget
    by_cases h : p.1 = k
    · simp [h]
    · rw [if_neg h, dget_none]
      simp [Ne.symm h]
theorem dsum_rep (f : List Nat → Rat) (k : List Nat) (x : Rat) : ∀ {d : Dic} {v : Rat}, (d.map (·.1)).Nodup → dget d k = some v → dsum f (drep d k (v + x)) = dsum f d + f k * x
  | [], v, _, h => by cases h
  | p :: d, v, hn, h => by
    rw [List.map_cons, List.nodup_cons] at hn
    unfold dget at h
    by_cases e : p.1 = k
    · rw [if_pos e] at h
      cases h
      have hk : k ∉ d.map (·.1) := by rw [← e]; exact hn.1
      show dsum f ((if p.1 = k then (p.1, p.2 + x) else p) :: drep d k (p.2 + x)) = _
      rw [if_pos e, drep_none _ _ hk]
      show f p.1 * (p.2 + x) + dsum f d = f p.1 * p.2 + dsum f d + f k * x
      rw [e]
      grind
    · rw [if_neg e] at h
      show dsum f ((if p.1 = k then (p.1, v + x) else p) :: drep d k (v + x)) = _
      rw [if_neg e]
      show f p.1 * p.2 + dsum f (drep d k (v + x)) = f p.1 * p.2 + dsum f d + f k * x
      rw [dsum_rep f k x hn.2 h]
      grind
theorem dsum_put (f : List Nat → Rat) (k : List Nat) (x : Rat) {d : Dic} (hn : (d.map (·.1)).Nodup) : dsum f (dput d k ((dget d k).getD 0 + x)) = dsum f d + f k * x := by
  unfold dput
  cases h : dget d k with
  | none =>
    rw [if_neg (by simp)]
    unfold dsum
    rw [List.map_append, rsum_append]
    show _ + (f k * (0 + x) + 0) = _
    grind
  | some v =>
    rw [if_pos (by simp)]
    exact dsum_rep f k x hn h
theorem dput_nodup {d : Dic} (hn : (d.map (·.1)).Nodup) (k : List Nat) (v : Rat) : ((dput d k v).map (·.1)).Nodup := by
  unfold dput
  split
  · rw [drep_keys]
    exact hn
  · rename_i h
    rw [List.map_append, List.nodup_append]
    refine ⟨hn, by simp, fun a ha b hb e => ?_⟩
    simp at hb
    subst hb e
    exact dget_none.mp (by simpa using h) ha
theorem dput_len (d : Dic) (k : List Nat) (v : Rat) : (dput d k v).length ≤ d.length + 1 := by
  have e : (drep d k v).length = d.length := by
    have := congrArg List.length (drep_keys k v d)
    simpa using this
  unfold dput
  split
  · omega
  · simp
theorem dput_mem {d : Dic} {k : List Nat} {v : Rat} {q : List Nat × Rat} (h : q ∈ dput d k v) : q ∈ d ∨ q = (k, v) := by
  unfold dput at h
  split at h
  · have key : ∀ d : Dic, q ∈ drep d k v → q ∈ d ∨ q = (k, v) := by
      intro d
      induction d with
      | nil => intro h; cases h
      | cons p d ih =>
        intro h
        rcases List.mem_cons.mp (show q ∈ (if p.1 = k then (p.1, v) else p) :: drep d k v from h) with e | h
        · split at e
          · rename_i hk
            right
            rw [e, hk]
          · left
            rw [e]
            exact List.mem_cons_self
        · rcases ih h with h | h
          · exact .inl (List.mem_cons_of_mem _ h)
          · exact .inr h
    exact key d h
  · rcases List.mem_append.mp h with h | h
    · exact .inl h
    · exact .inr (by simpa using h)
theorem dget_mem {k : List Nat} {v : Rat} : ∀ {d : Dic}, dget d k = some v → (k, v) ∈ d
  | [], h => by cases h
  | p :: d, h => by
    unfold dget at h
    split at h
    · rename_i e
      cases h
      rw [← e]
      exact List.mem_cons_self
    · exact List.mem_cons_of_mem _ (dget_mem h)
/-- a number goes to all goods -/
def stepI (day : List Rat) (cs : List Nat) (v : Rat) : List Nat → Dic → Dic
  | [], later => later
  | i :: is, later => stepI day cs v is (dput later (bump cs i) ((dget later (bump cs i)).getD 0 + v * day.getD i 0))
def stepD (g : Nat) (day : List Rat) : Dic → Dic → Dic
  | [], later => later
  | p :: d, later => stepD g day d (stepI day p.1 p.2 (List.range g) later)
theorem stepI_nodup {day : List Rat} {cs : List Nat} {v : Rat} : ∀ (is : List Nat) {later : Dic}, (later.map (·.1)).Nodup → ((stepI day cs v is later).map (·.1)).Nodup
  | [], _, h => h
  | i :: is, _, h => stepI_nodup is (dput_nodup h _ _)
theorem stepD_nodup {g : Nat} {day : List Rat} : ∀ (d : Dic) {later : Dic}, (later.map (·.1)).Nodup → ((stepD g day d later).map (·.1)).Nodup
  | [], _, h => h
  | p :: d, _, h => stepD_nodup d (stepI_nodup _ h)
theorem stepI_sum {day : List Rat} {cs : List Nat} {v : Rat} (f : List Nat → Rat) : ∀ (is : List Nat) {later : Dic}, (later.map (·.1)).Nodup → dsum f (stepI day cs v is later) = dsum f later + v * rsum (is.map fun i => day.getD i 0 * f (bump cs i))
  | [], later, _ => by simp only [stepI, List.map_nil, rsum]; grind
  | i :: is, later, h => by
    show dsum f (stepI day cs v is _) = _
    rw [stepI_sum f is (dput_nodup h _ _), dsum_put f _ _ h]
    simp only [List.map_cons, rsum]
    grind
theorem stepD_sum {g : Nat} {day : List Rat} (f : List Nat → Rat) : ∀ (d : Dic) {later : Dic}, (later.map (·.1)).Nodup → dsum f (stepD g day d later) = dsum f later + dsum (fun cs => rsum ((List.range g).map fun i => day.getD i 0 * f (bump cs i))) d
  | [], later, _ => by
    show dsum f later = dsum f later + 0
    grind
  | p :: d, later, h => by
    show dsum f (stepD g day d (stepI day p.1 p.2 (List.range g) later)) = dsum f later + (rsum ((List.range g).map fun i => day.getD i 0 * f (bump p.1 i)) * p.2 + dsum (fun cs => rsum ((List.range g).map fun i => day.getD i 0 * f (bump cs i))) d)
    rw [stepD_sum f d (stepI_nodup _ h), stepI_sum f _ h]
    grind
/-- the dict behind a market -/
def grp (g : Nat) : List (List Rat) → Dic → Dic
  | [], d => d
  | day :: m, d => grp g m (stepD g day d [])
def grp0 (g : Nat) : Dic := [(List.replicate g 0, 1)]
theorem grp_nodup {g : Nat} : ∀ (m : List (List Rat)) {d : Dic}, (d.map (·.1)).Nodup → ((grp g m d).map (·.1)).Nodup
  | [], _, h => h
  | day :: m, d, h => grp_nodup m (stepD_nodup d (by simp))
theorem grp_snoc (g : Nat) (day : List Rat) : ∀ (m : List (List Rat)) (d : Dic), grp g (m ++ [day]) d = stepD g day (grp g m d) []
  | [], d => rfl
  | e :: m, d => grp_snoc g day m (stepD g e d [])
theorem grp_sum {g : Nat} : ∀ (m : List (List Rat)) (f : List Nat → Rat), dsum f (grp g m (grp0 g)) = vs g m fun w => f (counts g w) := by
  refine revI ?_ ?_
  · intro f
    rw [vs_nil, counts_nil]
    show f _ * 1 + 0 = _
    grind
  · intro m day ih f
    rw [grp_snoc, stepD_sum f _ (by simp), ih, vs_snoc]
    show 0 + _ = _
    rw [vs_congr (k := fun w => rsum ((List.range g).map fun i => day.getD i 0 * f (counts g (w ++ [i])))) fun w _ hw => rsum_congr fun i hi => by rw [counts_snoc (List.mem_range.mp hi)]]
    grind
/-! bounds -/
structure DicB (g n L D N : Nat) (d : Dic) : Prop where
  len : d.length ≤ L
  key : ∀ p ∈ d, p.1.length = g ∧ p.1.sum = n
  val : ∀ p ∈ d, Bz D N p.2
theorem DicB.get {g n L D N : Nat} {d : Dic} (h : DicB g n L D N d) (hD : 0 < D) (k : List Nat) : Bz D N ((dget d k).getD 0) := by
  cases e : dget d k with
  | none => exact (Bz.zero hD).mono (Nat.zero_le _)
  | some v => exact h.val _ (dget_mem e)
theorem DicB.put {g n L D N M : Nat} {d : Dic} (h : DicB g n L D N d) {k : List Nat} {x : Rat} (hk : k.length = g ∧ k.sum = n) (hx : Bz D M x) : DicB g n (L + 1) D (N + M) (dput d k ((dget d k).getD 0 + x)) where
  len := Nat.le_trans (dput_len _ _ _) (Nat.succ_le_succ h.len)
  key := fun p hp => by
    rcases dput_mem hp with hp | rfl
    · exact h.key p hp
    · exact hk
  val := fun p hp => by
    rcases dput_mem hp with hp | rfl
    · exact (h.val p hp).mono (Nat.le_add_right _ _)
    · exact (h.get hx.1 k).add hx
theorem bump_key {g n i : Nat} {cs : List Nat} (h : cs.length = g ∧ cs.sum = n) (hi : i < g) : (bump cs i).length = g ∧ (bump cs i).sum = n + 1 := ⟨by rw [bump_len (by omega)]; exact h.1, by rw [bump_sum (by omega), h.2]⟩
theorem stepI_b {g n D E M B : Nat} {day : List Rat} {cs : List Nat} {v : Rat} (hc : cs.length = g ∧ cs.sum = n) (hv : Bz D M v) (hd : ∀ i, i < g → Bz E B (day.getD i 0)) : ∀ (is : List Nat) {L N : Nat} {later : Dic}, (∀ i ∈ is, i < g) → DicB g (n + 1) L (D * E) N later →
    DicB g (n + 1) (L + is.length) (D * E) (N + is.length * (M * B)) (stepI day cs v is later)
  | [], L, N, later, _, h => by simpa [stepI] using h
  | i :: is, L, N, later, hi, h => by
    have h1 := h.put (bump_key hc (hi i List.mem_cons_self)) (hv.mul (hd i (hi i List.mem_cons_self)))
    have h2 := stepI_b (E := E) hc hv hd is (fun j hj => hi j (List.mem_cons_of_mem _ hj)) h1
    rw [List.length_cons, Nat.succ_mul, show L + (is.length + 1) = L + 1 + is.length by omega, show N + (is.length * (M * B) + M * B) = N + M * B + is.length * (M * B) by omega]
    exact h2
theorem stepD_b {g n D E M B : Nat} {day : List Rat} (hd : ∀ i, i < g → Bz E B (day.getD i 0)) : ∀ (d : Dic) {L N K : Nat} {later : Dic}, DicB g n K D M d → DicB g (n + 1) L (D * E) N later →
    DicB g (n + 1) (L + d.length * g) (D * E) (N + d.length * g * (M * B)) (stepD g day d later)
  | [], L, N, K, later, _, h => by simpa [stepD] using h
  | p :: d, L, N, K, later, hq, h => by
    have h1 := stepI_b (E := E) (hq.key p List.mem_cons_self) (hq.val p List.mem_cons_self) hd (List.range g) (fun i hi => List.mem_range.mp hi) h
    rw [List.length_range] at h1
    have h2 := stepD_b hd d (K := d.length) ⟨Nat.le_refl _, fun p hp => hq.key p (List.mem_cons_of_mem _ hp), fun p hp => hq.val p (List.mem_cons_of_mem _ hp)⟩ h1
    rw [List.length_cons, Nat.succ_mul, Nat.add_mul, show L + (d.length * g + g) = L + g + d.length * g by omega, show N + (d.length * g * (M * B) + g * (M * B)) = N + g * (M * B) + d.length * g * (M * B) by omega]
    exact h2
def NN (g B : Nat) : Nat → Nat
  | 0 => 1
  | n + 1 => g ^ n * g * (NN g B n * B)
theorem DicB.mono {g n L L' D N N' : Nat} {d : Dic} (h : DicB g n L D N d) (h1 : L ≤ L') (h2 : N ≤ N') : DicB g n L' D N' d := ⟨Nat.le_trans h.len h1, h.key, fun p hp => (h.val p hp).mono h2⟩
theorem grp0_b (g : Nat) : DicB g 0 1 1 1 (grp0 g) where
  len := Nat.le_refl _
  key := fun p hp => by
    rw [List.mem_singleton.mp hp]
    simp
  val := fun p hp => by
    rw [List.mem_singleton.mp hp]
    exact Bz.one (by decide)
theorem step_b {g n E B : Nat} {day : List Rat} {d : Dic} (hd : ∀ i, i < g → Bz E B (day.getD i 0)) (h : DicB g n (g ^ n) (E ^ n) (NN g B n) d) (hE : 0 < E) : DicB g (n + 1) (g ^ (n + 1)) (E ^ (n + 1)) (NN g B (n + 1)) (stepD g day d []) := by
  have h0 : DicB g (n + 1) 0 (E ^ n * E) 0 [] := ⟨Nat.le_refl _, fun p hp => (nomatch hp), fun p hp => (nomatch hp)⟩
  have h1 := stepD_b hd d h h0
  have h2 := Nat.mul_le_mul_right g h.len
  refine h1.mono ?_ ?_
  · rw [Nat.pow_succ]
    omega
  · rw [Nat.zero_add]
    exact Nat.mul_le_mul_right _ h2
theorem NN_le {g B : Nat} (hg : 0 < g) (hB : 0 < B) : ∀ n, NN g B n ≤ (g ^ n * B) ^ n
  | 0 => by simp [NN]
  | n + 1 => by
    have ih := NN_le hg hB n
    show g ^ n * g * (NN g B n * B) ≤ _
    rw [← Nat.pow_succ, Nat.pow_succ (g ^ (n + 1) * B) n]
    have h1 : (g ^ n * B) ^ n ≤ (g ^ (n + 1) * B) ^ n := Nat.pow_le_pow_left (Nat.mul_le_mul_right _ (Nat.pow_le_pow_right hg (by omega))) _
    calc g ^ (n + 1) * (NN g B n * B) = NN g B n * (g ^ (n + 1) * B) := by rw [Nat.mul_comm (g ^ (n + 1)), Nat.mul_assoc, Nat.mul_comm B]
      _ ≤ _ := Nat.mul_le_mul_right _ (Nat.le_trans ih h1)
end G


set_option maxRecDepth 100000
set_option maxHeartbeats 4000000
set_option exponentiation.threshold 30000
namespace G
open PySem PySem.Spec PyProof.Rows L2
def topS (i : Nat) : Stmt := PySem.Challenge.pw_hindprice_k72_whole_even_purses_keep_a_s.main.body.getD i (.Pass ⟨0, 0, 0, 0⟩)
abbrev s__law_pen : Stmt := topS 52
theorem sc__law_pen : FnScope ["_law_script", "_law_cell"] ["_law_script"] (defScope s__law_pen) := ⟨rfl, rfl, rfl, by decide +kernel, rfl, by decide +kernel, by decide +kernel⟩
def b__law_pen : DS := (sRet (dLst (aCons (dLc [1] (itSeq (dSl (dVar 0) oNone (oSome (dC (.int 59))))) (gSet 1) dYes (dCallB bInt (aCons (dVar 1) aNil))) (aCons (dC (.int 0)) (aCons (dC (.int 0)) aNil)))))
def F__law_pen : List Dt → FR := runF false 2 b__law_pen
abbrev s__law_draw : Stmt := topS 53
theorem sc__law_draw : FnScope ["_law_pen_here", "_law_many", "_law_rest", "_law_at", "_law_cell", "_law_mixed"] ["_law_pen_here", "_law_many"] (defScope s__law_draw) := ⟨rfl, rfl, rfl, by decide +kernel, rfl, by decide +kernel, by decide +kernel⟩
def b__law_draw : DS := (sSeq (sSet 2 (dCallB bInt (aCons (dIxS 0 (dC (.int 2))) aNil)))
    (sSeq (sIf (dTest (dBin opGt (dVar 2) (dC (.int 0)))) (sSeq (sPut 0 (dC (.int 2)) (dBin opFDiv (dVar 2) (dVar 1)))
    (sRet (dBin opMod (dVar 2) (dVar 1)))) sNext)
    (sSeq (sIf (dTest (dBin (eqS false) (dIxS 0 (dC (.int 0))) (dLst aNil))) (sRet (dC (.int 0))) sNext)
    (sSeq (sSet 3 (dIxS 0 (dC (.int 1))))
    (sSeq (sPut 0 (dC (.int 1)) (dBin opAdd (dVar 3) (dC (.int 1))))
    (sSeq (sSet 4 (dBin opIx (dIxS 0 (dC (.int 0))) (dBin opMod (dCallB bInt (aCons (dVar 3) aNil)) (dCallB bLen (aCons (dIxS 0 (dC (.int 0))) aNil)))))
    (sSeq (sIf (tAndD (dTest (dBin opLt (dVar 3) (dCallB bLen (aCons (dIxS 0 (dC (.int 0))) aNil)))) (dTest (dBin opGe (dCallB bAbs (aCons (dVar 4) aNil)) (dBin opPow (dC (.int 10)) (dC (.int 18)))))) (sSeq (sSet 2 (dBin opAdd (dBin opMul (dC (.int 2)) (dBin opSub (dCallB bAbs (aCons (dVar 4) aNil)) (dBin opPow (dC (.int 10)) (dC (.int 18))))) (dCallB bInt (aCons (dBin opLt (dVar 4) (dC (.int 0))) aNil))))
    (sSeq (sPut 0 (dC (.int 2)) (dBin opFDiv (dVar 2) (dVar 1)))
    (sRet (dBin opMod (dVar 2) (dVar 1))))) sNext)
    (sSeq (sSet 5 (dBin opMod (dCallB bInt (aCons (dBin opPow (dBin opAdd (dBin opAdd (dBin opMod (dCallB bInt (aCons (dVar 4) aNil)) (dC (.int 2147483587))) (dBin opMul (dC (.int 52121)) (dVar 3))) (dC (.int 7079))) (dC (.int 5))) aNil)) (dC (.int 2147483563))))
    (sSeq (sSet 5 (dBin opMod (dCallB bInt (aCons (dBin opPow (dBin opAdd (dBin opAdd (dBin opMul (dVar 5) (dBin opAdd (dBin opMul (dC (.int 2)) (dVar 3)) (dC (.int 6079)))) (dBin opMul (dBin opMul (dC (.int 52121)) (dVar 3)) (dVar 3))) (dC (.int 7079))) (dC (.int 3))) aNil)) (dC (.int 2147483549))))
    (sRet (dBin opMod (dCallB bInt (aCons (dBin opFDiv (dVar 5) (dC (.int 64))) aNil)) (dVar 1))))))))))))
def F__law_draw : List Dt → FR := runF true 6 b__law_draw
abbrev s__law_one_of : Stmt := topS 54
theorem sc__law_one_of : FnScope ["_law_pen_here", "_law_some"] ["_law_pen_here", "_law_some"] (defScope s__law_one_of) := ⟨rfl, rfl, rfl, by decide +kernel, rfl, by decide +kernel, by decide +kernel⟩
def b__law_one_of : DS := (sRet (dIxS 1 (dCallIo 0 2 F__law_draw (aCons (dCallB bLen (aCons (dVar 1) aNil)) aNil))))
def F__law_one_of : List Dt → FR := runF true 2 b__law_one_of
abbrev s__law_number : Stmt := topS 60
theorem sc__law_number : FnScope ["_law_one"] ["_law_one"] (defScope s__law_number) := ⟨rfl, rfl, rfl, by decide +kernel, rfl, by decide +kernel, by decide +kernel⟩
def b__law_number : DS := (sRet (dIf (dTest (dBin (eqS false) (dIxS 0 (dC (.int 1))) (dC (.int 1)))) (dIxS 0 (dC (.int 0))) (dMove 0)))
def F__law_number : List Dt → FR := runF false 1 b__law_number
abbrev s__law_passed : Stmt := topS 65
theorem sc__law_passed : FnScope ["_law_market", "_law_day_here", "_law_each"] ["_law_market"] (defScope s__law_passed) := ⟨rfl, rfl, rfl, by decide +kernel, rfl, by decide +kernel, by decide +kernel⟩
def b__law_passed : DS := (sRet (dLc [1] (itSeq (dVar 0)) (gSet 1) dYes (dLc [2] (itSeq (dVar 1)) (gSet 2) dYes (dCall F__law_number ⟨1, [], [.pos 0]⟩ (aCons (dVar 2) aNil) aNil))))
def F__law_passed : List Dt → FR := runF false 3 b__law_passed
abbrev s__law_low : Stmt := topS 55
theorem sc__law_low : FnScope ["_law_above", "_law_below", "_law_one", "_law_other"] ["_law_above", "_law_below"] (defScope s__law_low) := ⟨rfl, rfl, rfl, by decide +kernel, rfl, by decide +kernel, by decide +kernel⟩
def b__law_low : DS := (sSeq (sPar 2 3 (aCons (dCallB bAbs (aCons (dVar 0) aNil)) (aCons (dCallB bAbs (aCons (dVar 1) aNil)) aNil)))
    (sSeq (sWhile (dTest (dBin opGt (dVar 3) (dC (.int 0)))) (sPar 2 3 (aCons (dVar 3) (aCons (dBin opMod (dCallB bInt (aCons (dVar 2) aNil)) (dVar 3)) aNil))) fuel)
    (sSeq (sSet 2 (dIf (dTest (dBin opGt (dVar 1) (dC (.int 0)))) (dMove 2) (dUn opNeg (dVar 2))))
    (sRet (dTup (aCons (dBin opFDiv (dCallB bInt (aCons (dVar 0) aNil)) (dVar 2)) (aCons (dBin opFDiv (dCallB bInt (aCons (dVar 1) aNil)) (dVar 2)) aNil)))))))
def F__law_low : List Dt → FR := runF false 4 b__law_low
abbrev s__law_plus : Stmt := topS 56
theorem sc__law_plus : FnScope ["_law_one", "_law_other"] ["_law_one", "_law_other"] (defScope s__law_plus) := ⟨rfl, rfl, rfl, by decide +kernel, rfl, by decide +kernel, by decide +kernel⟩
def b__law_plus : DS := (sRet (dCall F__law_low ⟨2, [], [.pos 0, .pos 1]⟩ (aCons (dBin opAdd (dBin opMul (dIxS 0 (dC (.int 0))) (dIxS 1 (dC (.int 1)))) (dBin opMul (dIxS 1 (dC (.int 0))) (dIxS 0 (dC (.int 1))))) (aCons (dBin opMul (dIxS 0 (dC (.int 1))) (dIxS 1 (dC (.int 1)))) aNil)) aNil))
def F__law_plus : List Dt → FR := runF false 2 b__law_plus
abbrev s__law_sum : Stmt := topS 59
theorem sc__law_sum : FnScope ["_law_some", "_law_found", "_law_each"] ["_law_some"] (defScope s__law_sum) := ⟨rfl, rfl, rfl, by decide +kernel, rfl, by decide +kernel, by decide +kernel⟩
def b__law_sum : DS := (sSeq (sSet 1 (dTup (aCons (dC (.int 0)) (aCons (dC (.int 1)) aNil))))
    (sSeq (sFor (itSeq (dVar 0)) (gSet 2) (sSet 1 (dCall F__law_plus ⟨2, [], [.pos 0, .pos 1]⟩ (aCons (dVar 1) (aCons (dVar 2) aNil)) aNil)))
    (sRet (dMove 1))))
def F__law_sum : List Dt → FR := runF false 3 b__law_sum
abbrev s__law_times : Stmt := topS 57
theorem sc__law_times : FnScope ["_law_one", "_law_other"] ["_law_one", "_law_other"] (defScope s__law_times) := ⟨rfl, rfl, rfl, by decide +kernel, rfl, by decide +kernel, by decide +kernel⟩
def b__law_times : DS := (sRet (dCall F__law_low ⟨2, [], [.pos 0, .pos 1]⟩ (aCons (dBin opMul (dIxS 0 (dC (.int 0))) (dIxS 1 (dC (.int 0)))) (aCons (dBin opMul (dIxS 0 (dC (.int 1))) (dIxS 1 (dC (.int 1)))) aNil)) aNil))
def F__law_times : List Dt → FR := runF false 2 b__law_times
abbrev s__law_mix : Stmt := topS 61
theorem sc__law_mix : FnScope ["_law_pen_here", "_law_goods", "_law_some", "_law_good", "_law_each"] ["_law_pen_here", "_law_goods"] (defScope s__law_mix) := ⟨rfl, rfl, rfl, by decide +kernel, rfl, by decide +kernel, by decide +kernel⟩
def b__law_mix : DS := (sSeq (sSet 2 (dCallIo 0 2 F__law_one_of (aCons (dLst (aCons (dLc [3] (itRng1 (aCons (dVar 1) aNil)) (gSet 3) dYes (dCallIo 0 2 F__law_draw (aCons (dC (.int 4)) aNil))) (aCons (dBin opMul (dLst (aCons (dC (.int 1)) aNil)) (dVar 1)) (aCons (dLc [3] (itRng1 (aCons (dVar 1) aNil)) (gSet 3) dYes (dCallB bInt (aCons (dBin (eqS false) (dVar 3) (dBin opSub (dVar 1) (dC (.int 1)))) aNil))) aNil)))) aNil)))
    (sSeq (sSet 2 (dIf (dTest (dBin opGt (dCallB bSum (aCons (dVar 2) aNil)) (dC (.int 0)))) (dMove 2) (dBin opAdd (dLst (aCons (dC (.int 1)) aNil)) (dBin opMul (dLst (aCons (dC (.int 0)) aNil)) (dBin opSub (dVar 1) (dC (.int 1)))))))
    (sRet (dLc [4] (itSeq (dVar 2)) (gSet 4) dYes (dCall F__law_low ⟨2, [], [.pos 0, .pos 1]⟩ (aCons (dVar 4) (aCons (dCallB bSum (aCons (dVar 2) aNil)) aNil)) aNil)))))
def F__law_mix : List Dt → FR := runF true 5 b__law_mix
abbrev s_is_integer : Stmt := topS 9
theorem sc_is_integer : FnScope ["value"] ["value"] (defScope s_is_integer) := ⟨rfl, rfl, rfl, by decide +kernel, rfl, by decide +kernel, by decide +kernel⟩
def b_is_integer : DS := (sRet (dAnd (dUn (isiD "int") (dVar 0)) (dNot (dUn (isiD "bool") (dVar 0)))))
def F_is_integer : List Dt → FR := runF false 1 b_is_integer
abbrev s_is_within : Stmt := topS 10
theorem sc_is_within : FnScope ["value", "least", "most"] ["value", "least", "most"] (defScope s_is_within) := ⟨rfl, rfl, rfl, by decide +kernel, rfl, by decide +kernel, by decide +kernel⟩
def b_is_within : DS := (sSeq (sIf (tNotD (dTru (dCall F_is_integer ⟨1, [], [.pos 0]⟩ (aCons (dVar 0) aNil) aNil))) (sRet (dC (.bl false))) sNext)
    (sRet (dAnd (dOr (dBin opIs (dVar 1) (dC .non)) (dBin opLe (dVar 1) (dVar 0))) (dOr (dBin opIs (dVar 2) (dC .non)) (dBin opLe (dVar 0) (dVar 2))))))
def F_is_within : List Dt → FR := runF false 3 b_is_within
abbrev s_need_integer : Stmt := topS 22
theorem sc_need_integer : FnScope ["value", "part", "least", "most"] ["value", "part", "least", "most"] (defScope s_need_integer) := ⟨rfl, rfl, rfl, by decide +kernel, rfl, by decide +kernel, by decide +kernel⟩
def b_need_integer : DS := (sIf (tNotD (dTru (dCall F_is_within ⟨3, [], [.pos 0, .pos 1, .pos 2]⟩ (aCons (dVar 0) (aCons (dVar 2) (aCons (dVar 3) aNil))) aNil))) sBad sNext)
def F_need_integer : List Dt → FR := runF false 4 b_need_integer
abbrev s_need_goods : Stmt := topS 23
theorem sc_need_goods : FnScope ["value"] ["value"] (defScope s_need_goods) := ⟨rfl, rfl, rfl, by decide +kernel, rfl, by decide +kernel, by decide +kernel⟩
def b_need_goods : DS := (sExpr (dCall F_need_integer ⟨4, [], [.pos 0, .pos 1, .pos 2, .pos 3]⟩ (aCons (dVar 0) (aCons (dC (.str "goods")) (aCons (dC (.int 1)) (aCons (dC (.int 5)) aNil)))) aNil))
def F_need_goods : List Dt → FR := runF false 1 b_need_goods
abbrev s_is_list : Stmt := topS 11
theorem sc_is_list : FnScope ["value"] ["value"] (defScope s_is_list) := ⟨rfl, rfl, rfl, by decide +kernel, rfl, by decide +kernel, by decide +kernel⟩
def b_is_list : DS := (sRet (dUn (isiD2 "list" "tuple") (dVar 0)))
def F_is_list : List Dt → FR := runF false 1 b_is_list
abbrev s_common : Stmt := topS 12
theorem sc_common : FnScope ["one", "other"] ["one", "other"] (defScope s_common) := ⟨rfl, rfl, rfl, by decide +kernel, rfl, by decide +kernel, by decide +kernel⟩
def b_common : DS := (sSeq (sPar 0 1 (aCons (dCallB bAbs (aCons (dVar 0) aNil)) (aCons (dCallB bAbs (aCons (dVar 1) aNil)) aNil)))
    (sSeq (sWhile (dTest (dBin opGt (dVar 1) (dC (.int 0)))) (sPar 0 1 (aCons (dVar 1) (aCons (dBin opMod (dVar 0) (dVar 1)) aNil))) fuel)
    (sRet (dMove 0))))
def F_common : List Dt → FR := runF false 2 b_common
abbrev s_is_number : Stmt := topS 13
theorem sc_is_number : FnScope ["value"] ["value"] (defScope s_is_number) := ⟨rfl, rfl, rfl, by decide +kernel, rfl, by decide +kernel, by decide +kernel⟩
def b_is_number : DS := (sSeq (sIf (dTru (dCall F_is_integer ⟨1, [], [.pos 0]⟩ (aCons (dVar 0) aNil) aNil)) (sRet (dC (.bl true))) sNext)
    (sSeq (sIf (tOrD (tNotD (dTru (dCall F_is_list ⟨1, [], [.pos 0]⟩ (aCons (dVar 0) aNil) aNil))) (tOrD (dTest (dBin (eqS true) (dCallB bLen (aCons (dVar 0) aNil)) (dC (.int 2)))) (tNotD (dTru (dCall F_is_integer ⟨1, [], [.pos 0]⟩ (aCons (dIxS 0 (dC (.int 0))) aNil) aNil))))) (sRet (dC (.bl false))) sNext)
    (sRet (dAnd (dCall F_is_within ⟨3, [], [.pos 0, .pos 1, .pos 2]⟩ (aCons (dIxS 0 (dC (.int 1))) (aCons (dC (.int 2)) (aCons (dC .non) aNil))) aNil) (dBin (eqS false) (dCall F_common ⟨2, [], [.pos 0, .pos 1]⟩ (aCons (dIxS 0 (dC (.int 0))) (aCons (dIxS 0 (dC (.int 1))) aNil)) aNil) (dC (.int 1)))))))
def F_is_number : List Dt → FR := runF false 1 b_is_number
abbrev s_above_in : Stmt := topS 14
theorem sc_above_in : FnScope ["number"] ["number"] (defScope s_above_in) := ⟨rfl, rfl, rfl, by decide +kernel, rfl, by decide +kernel, by decide +kernel⟩
def b_above_in : DS := (sRet (dIf (dTru (dCall F_is_list ⟨1, [], [.pos 0]⟩ (aCons (dVar 0) aNil) aNil)) (dIxS 0 (dC (.int 0))) (dMove 0)))
def F_above_in : List Dt → FR := runF false 1 b_above_in
abbrev s_is_from_0 : Stmt := topS 15
theorem sc_is_from_0 : FnScope ["value"] ["value"] (defScope s_is_from_0) := ⟨rfl, rfl, rfl, by decide +kernel, rfl, by decide +kernel, by decide +kernel⟩
def b_is_from_0 : DS := (sRet (dAnd (dCall F_is_number ⟨1, [], [.pos 0]⟩ (aCons (dVar 0) aNil) aNil) (dBin opGe (dCall F_above_in ⟨1, [], [.pos 0]⟩ (aCons (dVar 0) aNil) aNil) (dC (.int 0)))))
def F_is_from_0 : List Dt → FR := runF false 1 b_is_from_0
abbrev s_is_row : Stmt := topS 16
theorem sc_is_row : FnScope ["value", "many", "each"] ["value", "many"] (defScope s_is_row) := ⟨rfl, rfl, rfl, by decide +kernel, rfl, by decide +kernel, by decide +kernel⟩
def b_is_row : DS := (sRet (dAnd (dCall F_is_list ⟨1, [], [.pos 0]⟩ (aCons (dVar 0) aNil) aNil) (dAnd (dBin (eqS false) (dCallB bLen (aCons (dVar 0) aNil)) (dVar 1)) (dCallB bAll (aCons (dLc [2] (itSeq (dVar 0)) (gSet 2) dYes (dCall F_is_from_0 ⟨1, [], [.pos 0]⟩ (aCons (dVar 2) aNil) aNil)) aNil)))))
def F_is_row : List Dt → FR := runF false 3 b_is_row
abbrev s_is_market_of : Stmt := topS 19
theorem sc_is_market_of : FnScope ["value", "goods", "day"] ["value", "goods"] (defScope s_is_market_of) := ⟨rfl, rfl, rfl, by decide +kernel, rfl, by decide +kernel, by decide +kernel⟩
def b_is_market_of : DS := (sRet (dAnd (dCall F_is_list ⟨1, [], [.pos 0]⟩ (aCons (dVar 0) aNil) aNil) (dCallB bAll (aCons (dLc [2] (itSeq (dVar 0)) (gSet 2) dYes (dCall F_is_row ⟨2, [], [.pos 0, .pos 1]⟩ (aCons (dVar 2) (aCons (dVar 1) aNil)) aNil)) aNil))))
def F_is_market_of : List Dt → FR := runF false 3 b_is_market_of
abbrev s_kept : Stmt := topS 20
theorem sc_kept : FnScope ["number"] ["number"] (defScope s_kept) := ⟨rfl, rfl, rfl, by decide +kernel, rfl, by decide +kernel, by decide +kernel⟩
def b_kept : DS := (sRet (dIf (dTru (dUn (isiD2 "list" "tuple") (dVar 0))) (dCallB bTuple (aCons (dVar 0) aNil)) (dMove 0)))
def F_kept : List Dt → FR := runF false 1 b_kept
abbrev s_kept_row : Stmt := topS 21
theorem sc_kept_row : FnScope ["row", "each"] ["row"] (defScope s_kept_row) := ⟨rfl, rfl, rfl, by decide +kernel, rfl, by decide +kernel, by decide +kernel⟩
def b_kept_row : DS := (sRet (dCallB bTuple (aCons (dLc [1] (itSeq (dVar 0)) (gSet 1) dYes (dCall F_kept ⟨1, [], [.pos 0]⟩ (aCons (dVar 1) aNil) aNil)) aNil)))
def F_kept_row : List Dt → FR := runF false 2 b_kept_row
abbrev s_need_market : Stmt := topS 25
theorem sc_need_market : FnScope ["value", "goods", "part", "day"] ["value", "goods", "part"] (defScope s_need_market) := ⟨rfl, rfl, rfl, by decide +kernel, rfl, by decide +kernel, by decide +kernel⟩
def b_need_market : DS := (sSeq (sIf (tNotD (dTru (dCall F_is_market_of ⟨2, [], [.pos 0, .pos 1]⟩ (aCons (dVar 0) (aCons (dVar 1) aNil)) aNil))) sBad sNext)
    (sRet (dCallB bTuple (aCons (dLc [3] (itSeq (dVar 0)) (gSet 3) dYes (dCall F_kept_row ⟨1, [], [.pos 0]⟩ (aCons (dVar 3) aNil) aNil)) aNil))))
def F_need_market : List Dt → FR := runF false 4 b_need_market
abbrev s_is_sum_1 : Stmt := topS 17
theorem sc_is_sum_1 : FnScope ["row", "above", "under", "each", "one", "other"] ["row"] (defScope s_is_sum_1) := ⟨rfl, rfl, rfl, by decide +kernel, rfl, by decide +kernel, by decide +kernel⟩
def b_is_sum_1 : DS := (sSeq (sAsg (gTupD 2 (gsCons (gSet 1) (gsCons (gSet 2) gsNil))) (dTup (aCons (dC (.int 0)) (aCons (dC (.int 1)) aNil))))
    (sSeq (sFor (itSeq (dVar 0)) (gSet 3) (sSeq (sAsg (gTupD 2 (gsCons (gSet 4) (gsCons (gSet 5) gsNil))) (dIf (dTru (dCall F_is_list ⟨1, [], [.pos 0]⟩ (aCons (dVar 3) aNil) aNil)) (dTup (aCons (dIxS 3 (dC (.int 0))) (aCons (dIxS 3 (dC (.int 1))) aNil))) (dTup (aCons (dVar 3) (aCons (dC (.int 1)) aNil)))))
    (sPar 1 2 (aCons (dBin opAdd (dBin opMul (dVar 1) (dVar 5)) (dBin opMul (dVar 4) (dVar 2))) (aCons (dBin opMul (dVar 2) (dVar 5)) aNil)))))
    (sRet (dBin (eqS false) (dVar 1) (dVar 2)))))
def F_is_sum_1 : List Dt → FR := runF false 6 b_is_sum_1
abbrev s_is_mix_of : Stmt := topS 18
theorem sc_is_mix_of : FnScope ["value", "goods"] ["value", "goods"] (defScope s_is_mix_of) := ⟨rfl, rfl, rfl, by decide +kernel, rfl, by decide +kernel, by decide +kernel⟩
def b_is_mix_of : DS := (sRet (dAnd (dCall F_is_row ⟨2, [], [.pos 0, .pos 1]⟩ (aCons (dVar 0) (aCons (dVar 1) aNil)) aNil) (dCall F_is_sum_1 ⟨1, [], [.pos 0]⟩ (aCons (dVar 0) aNil) aNil)))
def F_is_mix_of : List Dt → FR := runF false 2 b_is_mix_of
abbrev s_need_mix : Stmt := topS 26
theorem sc_need_mix : FnScope ["value", "goods", "part"] ["value", "goods", "part"] (defScope s_need_mix) := ⟨rfl, rfl, rfl, by decide +kernel, rfl, by decide +kernel, by decide +kernel⟩
def b_need_mix : DS := (sSeq (sIf (tNotD (dTru (dCall F_is_mix_of ⟨2, [], [.pos 0, .pos 1]⟩ (aCons (dVar 0) (aCons (dVar 1) aNil)) aNil))) sBad sNext)
    (sRet (dCall F_kept_row ⟨1, [], [.pos 0]⟩ (aCons (dVar 0) aNil) aNil)))
def F_need_mix : List Dt → FR := runF false 3 b_need_mix
abbrev s_choose_in : Stmt := topS 38
theorem sc_choose_in : FnScope ["many", "some", "found", "turn"] ["many", "some"] (defScope s_choose_in) := ⟨rfl, rfl, rfl, by decide +kernel, rfl, by decide +kernel, by decide +kernel⟩
def b_choose_in : DS := (sSeq (sSet 2 (dC (.int 1)))
    (sSeq (sFor (itRng1 (aCons (dVar 1) aNil)) (gSet 3) (sSet 2 (dBin opFDiv (dBin opMul (dVar 2) (dBin opSub (dVar 0) (dVar 3))) (dBin opAdd (dVar 3) (dC (.int 1))))))
    (sRet (dMove 2))))
def F_choose_in : List Dt → FR := runF false 4 b_choose_in
abbrev s_factor_in : Stmt := topS 43
theorem sc_factor_in : FnScope ["goods", "days"] ["goods", "days"] (defScope s_factor_in) := ⟨rfl, rfl, rfl, by decide +kernel, rfl, by decide +kernel, by decide +kernel⟩
def b_factor_in : DS := (sRet (dCall F_choose_in ⟨2, [], [.pos 0, .pos 1]⟩ (aCons (dBin opSub (dBin opAdd (dVar 1) (dVar 0)) (dC (.int 1))) (aCons (dBin opSub (dVar 0) (dC (.int 1))) aNil)) aNil))
def F_factor_in : List Dt → FR := runF false 2 b_factor_in
abbrev s_need_few : Stmt := topS 47
theorem sc_need_few : FnScope ["goods", "market"] ["goods", "market"] (defScope s_need_few) := ⟨rfl, rfl, rfl, by decide +kernel, rfl, by decide +kernel, by decide +kernel⟩
def b_need_few : DS := (sIf (dTest (dBin opGt (dCall F_factor_in ⟨2, [], [.pos 0, .pos 1]⟩ (aCons (dVar 0) (aCons (dCallB bLen (aCons (dVar 1) aNil)) aNil)) aNil) (dC (.int 5000)))) sBad sNext)
def F_need_few : List Dt → FR := runF false 2 b_need_few
abbrev s_lowest : Stmt := topS 29
theorem sc_lowest : FnScope ["above", "under", "part"] ["above", "under"] (defScope s_lowest) := ⟨rfl, rfl, rfl, by decide +kernel, rfl, by decide +kernel, by decide +kernel⟩
def b_lowest : DS := (sSeq (sSet 2 (dCall F_common ⟨2, [], [.pos 0, .pos 1]⟩ (aCons (dVar 0) (aCons (dVar 1) aNil)) aNil))
    (sSeq (sSet 2 (dIf (dTest (dBin opLt (dVar 1) (dC (.int 0)))) (dUn opNeg (dVar 2)) (dMove 2)))
    (sSeq (sPar 0 1 (aCons (dBin opFDiv (dVar 0) (dVar 2)) (aCons (dBin opFDiv (dVar 1) (dVar 2)) aNil)))
    (sRet (dIf (dTest (dBin (eqS false) (dVar 1) (dC (.int 1)))) (dMove 0) (dTup (aCons (dVar 0) (aCons (dVar 1) aNil))))))))
def F_lowest : List Dt → FR := runF false 3 b_lowest
abbrev s_halves : Stmt := topS 28
theorem sc_halves : FnScope ["number"] ["number"] (defScope s_halves) := ⟨rfl, rfl, rfl, by decide +kernel, rfl, by decide +kernel, by decide +kernel⟩
def b_halves : DS := (sRet (dIf (dTru (dUn (isiD "int") (dVar 0))) (dTup (aCons (dVar 0) (aCons (dC (.int 1)) aNil))) (dTup (aCons (dIxS 0 (dC (.int 0))) (aCons (dIxS 0 (dC (.int 1))) aNil)))))
def F_halves : List Dt → FR := runF false 1 b_halves
abbrev s_product : Stmt := topS 33
theorem sc_product : FnScope ["one", "other", "above", "under", "its", "below_it"] ["one", "other"] (defScope s_product) := ⟨rfl, rfl, rfl, by decide +kernel, rfl, by decide +kernel, by decide +kernel⟩
def b_product : DS := (sSeq (sAsg (gTupD 2 (gsCons (gTupD 2 (gsCons (gSet 2) (gsCons (gSet 3) gsNil))) (gsCons (gTupD 2 (gsCons (gSet 4) (gsCons (gSet 5) gsNil))) gsNil))) (dTup (aCons (dCall F_halves ⟨1, [], [.pos 0]⟩ (aCons (dVar 0) aNil) aNil) (aCons (dCall F_halves ⟨1, [], [.pos 0]⟩ (aCons (dVar 1) aNil) aNil) aNil))))
    (sRet (dCall F_lowest ⟨2, [], [.pos 0, .pos 1]⟩ (aCons (dBin opMul (dVar 2) (dVar 4)) (aCons (dBin opMul (dVar 3) (dVar 5)) aNil)) aNil)))
def F_product : List Dt → FR := runF false 6 b_product
abbrev s_multiplied : Stmt := topS 36
theorem sc_multiplied : FnScope ["numbers", "found", "number"] ["numbers"] (defScope s_multiplied) := ⟨rfl, rfl, rfl, by decide +kernel, rfl, by decide +kernel, by decide +kernel⟩
def b_multiplied : DS := (sSeq (sSet 1 (dC (.int 1)))
    (sSeq (sFor (itSeq (dVar 0)) (gSet 2) (sSet 1 (dCall F_product ⟨2, [], [.pos 0, .pos 1]⟩ (aCons (dVar 1) (aCons (dVar 2) aNil)) aNil)))
    (sRet (dMove 1))))
def F_multiplied : List Dt → FR := runF false 3 b_multiplied
abbrev s_added : Stmt := topS 30
theorem sc_added : FnScope ["one", "other", "above", "under", "its", "below_it"] ["one", "other"] (defScope s_added) := ⟨rfl, rfl, rfl, by decide +kernel, rfl, by decide +kernel, by decide +kernel⟩
def b_added : DS := (sSeq (sAsg (gTupD 2 (gsCons (gTupD 2 (gsCons (gSet 2) (gsCons (gSet 3) gsNil))) (gsCons (gTupD 2 (gsCons (gSet 4) (gsCons (gSet 5) gsNil))) gsNil))) (dTup (aCons (dCall F_halves ⟨1, [], [.pos 0]⟩ (aCons (dVar 0) aNil) aNil) (aCons (dCall F_halves ⟨1, [], [.pos 0]⟩ (aCons (dVar 1) aNil) aNil) aNil))))
    (sRet (dCall F_lowest ⟨2, [], [.pos 0, .pos 1]⟩ (aCons (dBin opAdd (dBin opMul (dVar 2) (dVar 5)) (dBin opMul (dVar 4) (dVar 3))) (aCons (dBin opMul (dVar 3) (dVar 5)) aNil)) aNil)))
def F_added : List Dt → FR := runF false 6 b_added
abbrev s_turned : Stmt := topS 31
theorem sc_turned : FnScope ["number", "above", "under"] ["number"] (defScope s_turned) := ⟨rfl, rfl, rfl, by decide +kernel, rfl, by decide +kernel, by decide +kernel⟩
def b_turned : DS := (sSeq (sAsg (gTupD 2 (gsCons (gSet 1) (gsCons (gSet 2) gsNil))) (dCall F_halves ⟨1, [], [.pos 0]⟩ (aCons (dVar 0) aNil) aNil))
    (sRet (dIf (dTest (dBin (eqS false) (dVar 2) (dC (.int 1)))) (dUn opNeg (dVar 1)) (dTup (aCons (dUn opNeg (dVar 1)) (aCons (dVar 2) aNil))))))
def F_turned : List Dt → FR := runF false 3 b_turned
abbrev s_less_by : Stmt := topS 32
theorem sc_less_by : FnScope ["one", "other"] ["one", "other"] (defScope s_less_by) := ⟨rfl, rfl, rfl, by decide +kernel, rfl, by decide +kernel, by decide +kernel⟩
def b_less_by : DS := (sRet (dCall F_added ⟨2, [], [.pos 0, .pos 1]⟩ (aCons (dVar 0) (aCons (dCall F_turned ⟨1, [], [.pos 0]⟩ (aCons (dVar 1) aNil) aNil) aNil)) aNil))
def F_less_by : List Dt → FR := runF false 2 b_less_by
abbrev s_total : Stmt := topS 34
theorem sc_total : FnScope ["numbers", "found", "number"] ["numbers"] (defScope s_total) := ⟨rfl, rfl, rfl, by decide +kernel, rfl, by decide +kernel, by decide +kernel⟩
def b_total : DS := (sSeq (sSet 1 (dC (.int 0)))
    (sSeq (sFor (itSeq (dVar 0)) (gSet 2) (sSet 1 (dCall F_added ⟨2, [], [.pos 0, .pos 1]⟩ (aCons (dVar 1) (aCons (dVar 2) aNil)) aNil)))
    (sRet (dMove 1))))
def F_total : List Dt → FR := runF false 3 b_total
abbrev s_summed : Stmt := topS 35
theorem sc_summed : FnScope ["row", "other", "one", "its"] ["row", "other"] (defScope s_summed) := ⟨rfl, rfl, rfl, by decide +kernel, rfl, by decide +kernel, by decide +kernel⟩
def b_summed : DS := (sRet (dCall F_total ⟨1, [], [.pos 0]⟩ (aCons (dLc [2, 3] (itZip (aCons (dVar 0) (aCons (dVar 1) aNil))) (gTupD 2 (gsCons (gSet 2) (gsCons (gSet 3) gsNil))) dYes (dCall F_product ⟨2, [], [.pos 0, .pos 1]⟩ (aCons (dVar 2) (aCons (dVar 3) aNil)) aNil)) aNil) aNil))
def F_summed : List Dt → FR := runF false 4 b_summed
abbrev s_factorial : Stmt := topS 41
theorem sc_factorial : FnScope ["number", "found", "each"] ["number"] (defScope s_factorial) := ⟨rfl, rfl, rfl, by decide +kernel, rfl, by decide +kernel, by decide +kernel⟩
def b_factorial : DS := (sSeq (sSet 1 (dC (.int 1)))
    (sSeq (sFor (itRng2 (aCons (dC (.int 2)) (aCons (dBin opAdd (dVar 0) (dC (.int 1))) aNil))) (gSet 2) (sSet 1 (dBin opMul (dVar 1) (dVar 2))))
    (sRet (dMove 1))))
def F_factorial : List Dt → FR := runF false 3 b_factorial
abbrev s_weight_in : Stmt := topS 42
theorem sc_weight_in : FnScope ["counts", "above", "count"] ["counts"] (defScope s_weight_in) := ⟨rfl, rfl, rfl, by decide +kernel, rfl, by decide +kernel, by decide +kernel⟩
def b_weight_in : DS := (sSeq (sSet 1 (dCall F_factorial ⟨1, [], [.pos 0]⟩ (aCons (dBin opSub (dCallB bLen (aCons (dVar 0) aNil)) (dC (.int 1))) aNil) aNil))
    (sSeq (sFor (itSeq (dVar 0)) (gSet 2) (sSet 1 (dBin opMul (dVar 1) (dCall F_factorial ⟨1, [], [.pos 0]⟩ (aCons (dVar 2) aNil) aNil))))
    (sRet (dCall F_lowest ⟨2, [], [.pos 0, .pos 1]⟩ (aCons (dVar 1) (aCons (dCall F_factorial ⟨1, [], [.pos 0]⟩ (aCons (dBin opSub (dBin opAdd (dCallB bSum (aCons (dVar 0) aNil)) (dCallB bLen (aCons (dVar 0) aNil))) (dC (.int 1))) aNil) aNil) aNil)) aNil))))
def F_weight_in : List Dt → FR := runF false 3 b_weight_in
abbrev s_with_one : Stmt := topS 44
theorem sc_with_one : FnScope ["counts", "good"] ["counts", "good"] (defScope s_with_one) := ⟨rfl, rfl, rfl, by decide +kernel, rfl, by decide +kernel, by decide +kernel⟩
def b_with_one : DS := (sRet (dTup (aStar (dSl (dVar 0) oNone (oSome (dVar 1))) (aCons (dBin opAdd (dIxS 0 (dVar 1)) (dC (.int 1))) (aStar (dSl (dVar 0) (oSome (dBin opAdd (dVar 1) (dC (.int 1)))) oNone) aNil)))))
def F_with_one : List Dt → FR := runF false 2 b_with_one
abbrev s_grouped : Stmt := topS 45
theorem sc_grouped : FnScope ["goods", "market", "found", "day", "later", "counts", "number", "good", "key", "_"] ["goods", "market"] (defScope s_grouped) := ⟨rfl, rfl, rfl, by decide +kernel, rfl, by decide +kernel, by decide +kernel⟩
def b_grouped : DS := (sSeq (sSet 2 (dDisp1 (dCallB bTuple (aCons (dLc [9] (itRng1 (aCons (dVar 0) aNil)) (gSet 9) dYes (dC (.int 0))) aNil)) (dC (.int 1))))
    (sSeq (sFor (itSeq (dVar 1)) (gSet 3) (sSeq (sSet 4 dDNew)
    (sSeq (sFor (itItmS 2) (gTupD 2 (gsCons (gSet 5) (gsCons (gSet 6) gsNil))) (sFor (itRng1 (aCons (dVar 0) aNil)) (gSet 7) (sSeq (sSet 8 (dCall F_with_one ⟨2, [], [.pos 0, .pos 1]⟩ (aCons (dVar 5) (aCons (dVar 7) aNil)) aNil))
    (sDctPut 4 (dVar 8) (dCall F_added ⟨2, [], [.pos 0, .pos 1]⟩ (aCons (dDGet 4 (dVar 8) (dC (.int 0))) (aCons (dCall F_product ⟨2, [], [.pos 0, .pos 1]⟩ (aCons (dVar 6) (aCons (dIxS 3 (dVar 7)) aNil)) aNil) aNil)) aNil)))))
    (sSet 2 (dMove 4)))))
    (sRet (dMove 2))))
def F_grouped : List Dt → FR := runF false 10 b_grouped
abbrev s_purse_in : Stmt := topS 46
theorem sc_purse_in : FnScope ["goods", "market", "counts", "number"] ["goods", "market"] (defScope s_purse_in) := ⟨rfl, rfl, rfl, by decide +kernel, rfl, by decide +kernel, by decide +kernel⟩
def b_purse_in : DS := (sRet (dCall F_total ⟨1, [], [.pos 0]⟩ (aCons (dLc [2, 3] (itItmF (dCall F_grouped ⟨2, [], [.pos 0, .pos 1]⟩ (aCons (dVar 0) (aCons (dVar 1) aNil)) aNil)) (gTupD 2 (gsCons (gSet 2) (gsCons (gSet 3) gsNil))) dYes (dCall F_product ⟨2, [], [.pos 0, .pos 1]⟩ (aCons (dVar 3) (aCons (dCall F_weight_in ⟨1, [], [.pos 0]⟩ (aCons (dVar 2) aNil) aNil) aNil)) aNil)) aNil) aNil))
def F_purse_in : List Dt → FR := runF false 4 b_purse_in
abbrev s_even_spare : Stmt := topS 50
theorem sc_even_spare : FnScope ["goods", "market", "shares", "told", "mix", "worth", "day"] ["goods", "market", "shares"] (defScope s_even_spare) := ⟨rfl, rfl, rfl, by decide +kernel, rfl, by decide +kernel, by decide +kernel⟩
def b_even_spare : DS := (sSeq (sExpr (dCall F_need_goods ⟨1, [], [.pos 0]⟩ (aCons (dVar 0) aNil) aNil))
    (sSeq (sSet 3 (dCall F_need_market ⟨2, [], [.pos 0, .pos 1, .cst 0 (.str "market")]⟩ (aCons (dVar 1) (aCons (dVar 0) aNil)) aNil))
    (sSeq (sSet 4 (dCall F_need_mix ⟨2, [], [.pos 0, .pos 1, .cst 0 (.str "shares")]⟩ (aCons (dVar 2) (aCons (dVar 0) aNil)) aNil))
    (sSeq (sExpr (dCall F_need_few ⟨2, [], [.pos 0, .pos 1]⟩ (aCons (dVar 0) (aCons (dVar 3) aNil)) aNil))
    (sSeq (sSet 5 (dCall F_multiplied ⟨1, [], [.pos 0]⟩ (aCons (dLc [6] (itSeq (dVar 3)) (gSet 6) dYes (dCall F_summed ⟨2, [], [.pos 0, .pos 1]⟩ (aCons (dVar 4) (aCons (dVar 6) aNil)) aNil)) aNil) aNil))
    (sRet (dCall F_less_by ⟨2, [], [.pos 0, .pos 1]⟩ (aCons (dCall F_product ⟨2, [], [.pos 0, .pos 1]⟩ (aCons (dCall F_purse_in ⟨2, [], [.pos 0, .pos 1]⟩ (aCons (dVar 0) (aCons (dVar 3) aNil)) aNil) (aCons (dCall F_factor_in ⟨2, [], [.pos 0, .pos 1]⟩ (aCons (dVar 0) (aCons (dCallB bLen (aCons (dVar 3) aNil)) aNil)) aNil) aNil)) aNil) (aCons (dVar 5) aNil)) aNil)))))))
def F_even_spare : List Dt → FR := runF false 7 b_even_spare
abbrev s__law_words : Stmt := topS 62
theorem sc__law_words : FnScope ["_law_goods", "_law_days", "_law_found", "_law_turn", "_law_longer", "_law_word", "_law_good"] ["_law_goods", "_law_days"] (defScope s__law_words) := ⟨rfl, rfl, rfl, by decide +kernel, rfl, by decide +kernel, by decide +kernel⟩
def b__law_words : DS := (sSeq (sSet 2 (dLst (aCons (dTup aNil) aNil)))
    (sSeq (sFor (itRng1 (aCons (dVar 1) aNil)) (gSet 3) (sSeq (sSet 4 (dLst aNil))
    (sSeq (sFor (itSeq (dVar 2)) (gSet 5) (sExt 4 (dLc [6] (itRng1 (aCons (dVar 0) aNil)) (gSet 6) dYes (dBin opAdd (dVar 5) (dTup (aCons (dVar 6) aNil))))))
    (sSet 2 (dMove 4)))))
    (sRet (dMove 2))))
def F__law_words : List Dt → FR := runF false 7 b__law_words
abbrev s__law_price : Stmt := topS 70
theorem sc__law_price : FnScope ["_law_goods", "_law_days", "_law_found", "_law_word", "_law_worth_here", "_law_good", "_law_its"] ["_law_goods", "_law_days"] (defScope s__law_price) := ⟨rfl, rfl, rfl, by decide +kernel, rfl, by decide +kernel, by decide +kernel⟩
def b__law_price : DS := (sSeq (sSet 2 (dLst aNil))
    (sSeq (sFor (itSeq (dCall F__law_words ⟨2, [], [.pos 0, .pos 1]⟩ (aCons (dVar 0) (aCons (dVar 1) aNil)) aNil)) (gSet 3) (sSeq (sSet 4 (dTup (aCons (dC (.int 1)) (aCons (dC (.int 1)) aNil))))
    (sSeq (sFor (itSeq (dVar 3)) (gSet 5) (sSet 4 (dCall F__law_times ⟨2, [], [.pos 0, .pos 1]⟩ (aCons (dVar 4) (aCons (dTup (aCons (dCallB bLen (aCons (dLc [6] (itSeq (dVar 3)) (gSet 6) (dTest (dBin (eqS false) (dVar 6) (dVar 5))) (dC (.int 1))) aNil)) (aCons (dVar 1) aNil))) aNil)) aNil)))
    (sApp 2 (dVar 4)))))
    (sRet (dCall F__law_sum ⟨1, [], [.pos 0]⟩ (aCons (dVar 2) aNil) aNil))))
def F__law_price : List Dt → FR := runF false 7 b__law_price
abbrev s__law_day : Stmt := topS 63
theorem sc__law_day : FnScope ["_law_pen_here", "_law_goods", "_law_good"] ["_law_pen_here", "_law_goods"] (defScope s__law_day) := ⟨rfl, rfl, rfl, by decide +kernel, rfl, by decide +kernel, by decide +kernel⟩
def b__law_day : DS := (sRet (dLc [2] (itRng1 (aCons (dVar 1) aNil)) (gSet 2) dYes (dCallIo 0 2 F__law_one_of (aCons (dLst (aCons (dTup (aCons (dC (.int 1)) (aCons (dC (.int 1)) aNil))) (aCons (dTup (aCons (dC (.int 2)) (aCons (dC (.int 1)) aNil))) (aCons (dTup (aCons (dC (.int 0)) (aCons (dC (.int 1)) aNil))) (aCons (dTup (aCons (dC (.int 1)) (aCons (dC (.int 2)) aNil))) (aCons (dTup (aCons (dC (.int 3)) (aCons (dC (.int 2)) aNil))) (aCons (dTup (aCons (dCallIo 0 2 F__law_draw (aCons (dC (.int 9)) aNil)) (aCons (dC (.int 1)) aNil))) (aCons (dTup (aCons (dBin opAdd (dBin opPow (dC (.int 10)) (dC (.int 12))) (dC (.int 1))) (aCons (dC (.int 3)) aNil))) aNil)))))))) aNil))))
def F__law_day : List Dt → FR := runF true 3 b__law_day
abbrev s__law_paid : Stmt := topS 67
theorem sc__law_paid : FnScope ["_law_shares", "_law_day_here", "_law_share", "_law_number_here"] ["_law_shares", "_law_day_here"] (defScope s__law_paid) := ⟨rfl, rfl, rfl, by decide +kernel, rfl, by decide +kernel, by decide +kernel⟩
def b__law_paid : DS := (sRet (dCall F__law_sum ⟨1, [], [.pos 0]⟩ (aCons (dLc [2, 3] (itZip (aCons (dVar 0) (aCons (dVar 1) aNil))) (gTupD 2 (gsCons (gSet 2) (gsCons (gSet 3) gsNil))) dYes (dCall F__law_times ⟨2, [], [.pos 0, .pos 1]⟩ (aCons (dVar 2) (aCons (dVar 3) aNil)) aNil)) aNil) aNil))
def F__law_paid : List Dt → FR := runF false 4 b__law_paid
abbrev s__law_worth : Stmt := topS 68
theorem sc__law_worth : FnScope ["_law_shares", "_law_market", "_law_found", "_law_day_here"] ["_law_shares", "_law_market"] (defScope s__law_worth) := ⟨rfl, rfl, rfl, by decide +kernel, rfl, by decide +kernel, by decide +kernel⟩
def b__law_worth : DS := (sSeq (sSet 2 (dTup (aCons (dC (.int 1)) (aCons (dC (.int 1)) aNil))))
    (sSeq (sFor (itSeq (dVar 1)) (gSet 3) (sSet 2 (dCall F__law_times ⟨2, [], [.pos 0, .pos 1]⟩ (aCons (dVar 2) (aCons (dCall F__law_paid ⟨2, [], [.pos 0, .pos 1]⟩ (aCons (dVar 0) (aCons (dVar 3) aNil)) aNil) aNil)) aNil)))
    (sRet (dMove 2))))
def F__law_worth : List Dt → FR := runF false 4 b__law_worth
abbrev s__law_bettered : Stmt := topS 69
theorem sc__law_bettered : FnScope ["_law_shares", "_law_market", "_law_found", "_law_good", "_law_share", "_law_parts", "_law_day_here", "_law_paid_here"] ["_law_shares", "_law_market"] (defScope s__law_bettered) := ⟨rfl, rfl, rfl, by decide +kernel, rfl, by decide +kernel, by decide +kernel⟩
def b__law_bettered : DS := (sSeq (sIf (tOrD (dTest (dBin (eqS false) (dVar 1) (dLst aNil))) (dTest (dBin (eqS false) (dBin opIx (dCall F__law_worth ⟨2, [], [.pos 0, .pos 1]⟩ (aCons (dVar 0) (aCons (dVar 1) aNil)) aNil) (dC (.int 0))) (dC (.int 0))))) (sRet (dMove 0)) sNext)
    (sSeq (sSet 2 (dLst aNil))
    (sSeq (sFor (itEnum (dVar 0)) (gTupD 2 (gsCons (gSet 3) (gsCons (gSet 4) gsNil))) (sSeq (sSet 5 (dLst aNil))
    (sSeq (sFor (itSeq (dVar 1)) (gSet 6) (sSeq (sSet 7 (dCall F__law_paid ⟨2, [], [.pos 0, .pos 1]⟩ (aCons (dVar 0) (aCons (dVar 6) aNil)) aNil))
    (sApp 5 (dCall F__law_times ⟨2, [], [.pos 0, .pos 1]⟩ (aCons (dIxS 6 (dVar 3)) (aCons (dTup (aCons (dIxS 7 (dC (.int 1))) (aCons (dIxS 7 (dC (.int 0))) aNil))) aNil)) aNil))))
    (sApp 2 (dCall F__law_times ⟨2, [], [.pos 0, .pos 1]⟩ (aCons (dVar 4) (aCons (dCall F__law_times ⟨2, [], [.pos 0, .pos 1]⟩ (aCons (dCall F__law_sum ⟨1, [], [.pos 0]⟩ (aCons (dVar 5) aNil) aNil) (aCons (dTup (aCons (dC (.int 1)) (aCons (dCallB bLen (aCons (dVar 1) aNil)) aNil))) aNil)) aNil) aNil)) aNil)))))
    (sRet (dIf (dTest (dBin opLt (dCallB bMax (aCons (dLc [4] (itSeq (dVar 2)) (gSet 4) dYes (dIxS 4 (dC (.int 1)))) aNil)) (dBin opPow (dC (.int 10)) (dC (.int 40))))) (dMove 2) (dMove 0))))))
def F__law_bettered : List Dt → FR := runF false 8 b__law_bettered
abbrev s_need_days : Stmt := topS 24
theorem sc_need_days : FnScope ["value"] ["value"] (defScope s_need_days) := ⟨rfl, rfl, rfl, by decide +kernel, rfl, by decide +kernel, by decide +kernel⟩
def b_need_days : DS := (sExpr (dCall F_need_integer ⟨4, [], [.pos 0, .pos 1, .pos 2, .pos 3]⟩ (aCons (dVar 0) (aCons (dC (.str "days")) (aCons (dC (.int 0)) (aCons (dC (.int 1000)) aNil)))) aNil))
def F_need_days : List Dt → FR := runF false 1 b_need_days
abbrev s_even_factor : Stmt := topS 48
theorem sc_even_factor : FnScope ["goods", "days"] ["goods", "days"] (defScope s_even_factor) := ⟨rfl, rfl, rfl, by decide +kernel, rfl, by decide +kernel, by decide +kernel⟩
def b_even_factor : DS := (sSeq (sExpr (dCall F_need_goods ⟨1, [], [.pos 0]⟩ (aCons (dVar 0) aNil) aNil))
    (sSeq (sExpr (dCall F_need_days ⟨1, [], [.pos 0]⟩ (aCons (dVar 1) aNil) aNil))
    (sRet (dCall F_factor_in ⟨2, [], [.pos 0, .pos 1]⟩ (aCons (dVar 0) (aCons (dVar 1) aNil)) aNil))))
def F_even_factor : List Dt → FR := runF false 2 b_even_factor
abbrev s__law_less : Stmt := topS 58
theorem sc__law_less : FnScope ["_law_one", "_law_other"] ["_law_one", "_law_other"] (defScope s__law_less) := ⟨rfl, rfl, rfl, by decide +kernel, rfl, by decide +kernel, by decide +kernel⟩
def b__law_less : DS := (sRet (dBin opLt (dBin opMul (dIxS 0 (dC (.int 0))) (dIxS 1 (dC (.int 1)))) (dBin opMul (dIxS 1 (dC (.int 0))) (dIxS 0 (dC (.int 1))))))
def F__law_less : List Dt → FR := runF false 2 b__law_less
abbrev s_even_purse : Stmt := topS 49
theorem sc_even_purse : FnScope ["goods", "market", "told"] ["goods", "market"] (defScope s_even_purse) := ⟨rfl, rfl, rfl, by decide +kernel, rfl, by decide +kernel, by decide +kernel⟩
def b_even_purse : DS := (sSeq (sExpr (dCall F_need_goods ⟨1, [], [.pos 0]⟩ (aCons (dVar 0) aNil) aNil))
    (sSeq (sSet 2 (dCall F_need_market ⟨2, [], [.pos 0, .pos 1, .cst 0 (.str "market")]⟩ (aCons (dVar 1) (aCons (dVar 0) aNil)) aNil))
    (sSeq (sExpr (dCall F_need_few ⟨2, [], [.pos 0, .pos 1]⟩ (aCons (dVar 0) (aCons (dVar 2) aNil)) aNil))
    (sRet (dCall F_purse_in ⟨2, [], [.pos 0, .pos 1]⟩ (aCons (dVar 0) (aCons (dVar 2) aNil)) aNil)))))
def F_even_purse : List Dt → FR := runF false 3 b_even_purse
abbrev s__law_weight : Stmt := topS 64
theorem sc__law_weight : FnScope ["_law_market", "_law_word", "_law_found", "_law_day_here", "_law_good"] ["_law_market", "_law_word"] (defScope s__law_weight) := ⟨rfl, rfl, rfl, by decide +kernel, rfl, by decide +kernel, by decide +kernel⟩
def b__law_weight : DS := (sSeq (sSet 2 (dTup (aCons (dC (.int 1)) (aCons (dC (.int 1)) aNil))))
    (sSeq (sFor (itZip (aCons (dVar 0) (aCons (dVar 1) aNil))) (gTupD 2 (gsCons (gSet 3) (gsCons (gSet 4) gsNil))) (sSet 2 (dCall F__law_times ⟨2, [], [.pos 0, .pos 1]⟩ (aCons (dVar 2) (aCons (dIxS 3 (dVar 4)) aNil)) aNil)))
    (sRet (dMove 2))))
def F__law_weight : List Dt → FR := runF false 5 b__law_weight
abbrev s__law_even : Stmt := topS 66
theorem sc__law_even : FnScope ["_law_goods", "_law_word", "_law_found", "_law_at", "_law_good", "_law_its"] ["_law_goods", "_law_word"] (defScope s__law_even) := ⟨rfl, rfl, rfl, by decide +kernel, rfl, by decide +kernel, by decide +kernel⟩
def b__law_even : DS := (sSeq (sSet 2 (dTup (aCons (dC (.int 1)) (aCons (dC (.int 1)) aNil))))
    (sSeq (sFor (itEnum (dVar 1)) (gTupD 2 (gsCons (gSet 3) (gsCons (gSet 4) gsNil))) (sSet 2 (dCall F__law_times ⟨2, [], [.pos 0, .pos 1]⟩ (aCons (dVar 2) (aCons (dTup (aCons (dBin opAdd (dC (.int 1)) (dCallB bLen (aCons (dLc [5] (itSeq (dSl (dVar 1) oNone (oSome (dVar 3)))) (gSet 5) (dTest (dBin (eqS false) (dVar 5) (dVar 4))) (dC (.int 1))) aNil))) (aCons (dBin opAdd (dVar 3) (dVar 0)) aNil))) aNil)) aNil)))
    (sRet (dMove 2))))
def F__law_even : List Dt → FR := runF false 6 b__law_even
abbrev s_law : Stmt := topS 71
theorem sc_law : FnScope ["_law_script", "_law_pen_here", "_law_turn", "_law_goods", "_law_market", "_law_passed_here", "_law_purse", "_law_wide", "_law_mix_here", "_law_mixes", "_law_shares", "_law_spare", "_law_told", "_law_good", "_law_numbers", "_law_lone", "_law_days", "_law_price_here", "_law_factor", "_law_day_here", "_law_number_here", "_law_word", "_law_share", "_law_its"] ["_law_script"] (defScope s_law) := ⟨rfl, rfl, rfl, by decide +kernel, rfl, by decide +kernel, by decide +kernel⟩
def b_law : DS := (sSeq (sSet 1 (dCall F__law_pen ⟨1, [], [.pos 0]⟩ (aCons (dVar 0) aNil) aNil))
    (sSeq (sFor (itRng1 (aCons (dC (.int 2)) aNil)) (gSet 2) (sSeq (sSet 3 (dCallIo 1 2 F__law_one_of (aCons (dLst (aCons (dC (.int 2)) (aCons (dC (.int 3)) (aCons (dC (.int 1)) (aCons (dC (.int 4)) aNil))))) aNil)))
    (sSeq (sSet 4 (dLc [19] (itRng1 (aCons (dCallIo 1 2 F__law_one_of (aCons (dLst (aCons (dC (.int 3)) (aCons (dC (.int 0)) (aCons (dIf (dTest (dBin opLt (dVar 3) (dC (.int 4)))) (dC (.int 5)) (dC (.int 2))) (aCons (dC (.int 1)) (aCons (dIf (dTest (dBin opLt (dVar 3) (dC (.int 3)))) (dC (.int 6)) (dC (.int 4))) aNil)))))) aNil)) aNil)) (gSet 19) dYes (dCallIo 1 2 F__law_day (aCons (dVar 3) aNil))))
    (sSeq (sIf (tAndD (dTest (dBin (eqS true) (dVar 4) (dLst aNil))) (dTest (dBin (eqS false) (dCallIo 1 2 F__law_draw (aCons (dC (.int 4)) aNil)) (dC (.int 3))))) (sSet 4 (dLc [19] (itSeq (dVar 4)) (gSet 19) dYes (dLc [13, 20] (itEnum (dVar 19)) (gTupD 2 (gsCons (gSet 13) (gsCons (gSet 20) gsNil))) dYes (dIf (dTest (dBin (eqS false) (dVar 13) (dC (.int 0)))) (dVar 20) (dTup (aCons (dC (.int 0)) (aCons (dC (.int 1)) aNil))))))) sNext)
    (sSeq (sSet 5 (dCall F__law_passed ⟨1, [], [.pos 0]⟩ (aCons (dVar 4) aNil) aNil))
    (sSeq (sSet 6 (dCall F__law_sum ⟨1, [], [.pos 0]⟩ (aCons (dLc [21] (itSeq (dCall F__law_words ⟨2, [], [.pos 0, .pos 1]⟩ (aCons (dVar 3) (aCons (dCallB bLen (aCons (dVar 4) aNil)) aNil)) aNil)) (gSet 21) dYes (dCall F__law_times ⟨2, [], [.pos 0, .pos 1]⟩ (aCons (dCall F__law_weight ⟨2, [], [.pos 0, .pos 1]⟩ (aCons (dVar 4) (aCons (dVar 21) aNil)) aNil) (aCons (dCall F__law_even ⟨2, [], [.pos 0, .pos 1]⟩ (aCons (dVar 3) (aCons (dVar 21) aNil)) aNil) aNil)) aNil)) aNil) aNil))
    (sSeq (sSet 7 (dCall F__law_times ⟨2, [], [.pos 0, .pos 1]⟩ (aCons (dVar 6) (aCons (dTup (aCons (dCall F_even_factor ⟨2, [], [.pos 0, .pos 1]⟩ (aCons (dVar 3) (aCons (dCallB bLen (aCons (dVar 4) aNil)) aNil)) aNil) (aCons (dC (.int 1)) aNil))) aNil)) aNil))
    (sSeq (sIf (dTest (dBin (eqS true) (dCallB bRepr (aCons (dCall F_even_purse ⟨2, [], [.pos 0, .pos 1]⟩ (aCons (dVar 3) (aCons (dVar 5) aNil)) aNil) aNil)) (dCallB bRepr (aCons (dCall F__law_number ⟨1, [], [.pos 0]⟩ (aCons (dVar 6) aNil) aNil) aNil)))) (sRet (dC (.bl false))) sNext)
    (sSeq (sSet 8 (dCallIo 1 2 F__law_mix (aCons (dVar 3) aNil)))
    (sSeq (sSet 9 (dLst (aCons (dVar 8) (aCons (dCall F__law_bettered ⟨2, [], [.pos 0, .pos 1]⟩ (aCons (dVar 8) (aCons (dVar 4) aNil)) aNil) (aCons (dLc [13] (itRng1 (aCons (dVar 3) aNil)) (gSet 13) dYes (dTup (aCons (dCallB bInt (aCons (dBin (eqS false) (dVar 13) (dC (.int 0))) aNil)) (aCons (dC (.int 1)) aNil)))) (aCons (dCall F__law_bettered ⟨2, [], [.pos 0, .pos 1]⟩ (aCons (dBin opMul (dLst (aCons (dCall F__law_low ⟨2, [], [.pos 0, .pos 1]⟩ (aCons (dC (.int 1)) (aCons (dVar 3) aNil)) aNil) aNil)) (dVar 3)) (aCons (dVar 4) aNil)) aNil) aNil))))))
    (sFor (itSeq (dVar 9)) (gSet 10) (sSeq (sSet 11 (dCall F__law_plus ⟨2, [], [.pos 0, .pos 1]⟩ (aCons (dVar 7) (aCons (dCall F__law_times ⟨2, [], [.pos 0, .pos 1]⟩ (aCons (dTup (aCons (dUn opNeg (dC (.int 1))) (aCons (dC (.int 1)) aNil))) (aCons (dCall F__law_worth ⟨2, [], [.pos 0, .pos 1]⟩ (aCons (dVar 10) (aCons (dVar 4) aNil)) aNil) aNil)) aNil) aNil)) aNil))
    (sSeq (sSet 12 (dLc [22] (itSeq (dVar 10)) (gSet 22) dYes (dCall F__law_number ⟨1, [], [.pos 0]⟩ (aCons (dVar 22) aNil) aNil)))
    (sIf (tOrD (dTest (dBin (eqS true) (dCallB bRepr (aCons (dLst (aCons (dCall F_even_spare ⟨3, [], [.pos 0, .pos 1, .pos 2]⟩ (aCons (dVar 3) (aCons (dVar 5) (aCons (dVar 12) aNil))) aNil) (aCons (dCall F_even_spare ⟨0, ["shares", "market", "goods"], [.kw 2, .kw 1, .kw 0]⟩ aNil (aCons (dCallB bTuple (aCons (dVar 12) aNil)) (aCons (dVar 5) (aCons (dVar 3) aNil)))) aNil))) aNil)) (dCallB bRepr (aCons (dBin opMul (dLst (aCons (dCall F__law_number ⟨1, [], [.pos 0]⟩ (aCons (dVar 11) aNil) aNil) aNil)) (dC (.int 2))) aNil)))) (dTest (dBin opLt (dIxS 11 (dC (.int 0))) (dC (.int 0))))) (sRet (dC (.bl false))) sNext))))))))))))))
    (sSeq (sAsg (gTupD 3 (gsCons (gSet 13) (gsCons (gSet 3) (gsCons (gSet 14) gsNil)))) (dTup (aCons (dCallIo 1 2 F__law_draw (aCons (dC (.int 2)) aNil)) (aCons (dCallIo 1 2 F__law_one_of (aCons (dLst (aCons (dC (.int 2)) (aCons (dC (.int 3)) (aCons (dC (.int 5)) aNil)))) aNil)) (aCons (dLc [19] (itRng1 (aCons (dCallIo 1 2 F__law_draw (aCons (dC (.int 8)) aNil)) aNil)) (gSet 19) dYes (dCallIo 1 2 F__law_one_of (aCons (dLst (aCons (dTup (aCons (dC (.int 1)) (aCons (dC (.int 1)) aNil))) (aCons (dTup (aCons (dC (.int 7)) (aCons (dC (.int 2)) aNil))) (aCons (dTup (aCons (dC (.int 3)) (aCons (dC (.int 1)) aNil))) (aCons (dTup (aCons (dC (.int 0)) (aCons (dC (.int 1)) aNil))) aNil))))) aNil))) aNil)))))
    (sSeq (sSet 15 (dLc [20] (itSeq (dVar 14)) (gSet 20) dYes (dLc [23] (itRng1 (aCons (dVar 3) aNil)) (gSet 23) dYes (dIf (dTest (dBin (eqS false) (dVar 23) (dVar 13))) (dCall F__law_number ⟨1, [], [.pos 0]⟩ (aCons (dVar 20) aNil) aNil) (dC (.int 0))))))
    (sSeq (sIf (dTest (dBin (eqS true) (dCall F_even_spare ⟨3, [], [.pos 0, .pos 1, .pos 2]⟩ (aCons (dVar 3) (aCons (dVar 15) (aCons (dLc [23] (itRng1 (aCons (dVar 3) aNil)) (gSet 23) dYes (dCallB bInt (aCons (dBin (eqS false) (dVar 23) (dVar 13)) aNil))) aNil))) aNil) (dC (.int 0)))) (sRet (dC (.bl false))) sNext)
    (sSeq (sAsg (gTupD 2 (gsCons (gSet 3) (gsCons (gSet 16) gsNil))) (dTup (aCons (dCallIo 1 2 F__law_one_of (aCons (dLst (aCons (dC (.int 2)) (aCons (dC (.int 3)) (aCons (dC (.int 1)) aNil)))) aNil)) (aCons (dCallIo 1 2 F__law_draw (aCons (dC (.int 5)) aNil)) aNil))))
    (sSeq (sPar 17 18 (aCons (dCall F__law_price ⟨2, [], [.pos 0, .pos 1]⟩ (aCons (dVar 3) (aCons (dVar 16) aNil)) aNil) (aCons (dTup (aCons (dCall F_even_factor ⟨2, [], [.pos 0, .pos 1]⟩ (aCons (dVar 3) (aCons (dVar 16) aNil)) aNil) (aCons (dC (.int 1)) aNil))) aNil)))
    (sRet (dAnd (dNot (dCall F__law_less ⟨2, [], [.pos 0, .pos 1]⟩ (aCons (dVar 18) (aCons (dVar 17) aNil)) aNil)) (dBin (eqS false) (dCall F__law_less ⟨2, [], [.pos 0, .pos 1]⟩ (aCons (dVar 17) (aCons (dVar 18) aNil)) aNil) (dAnd (dBin opGt (dVar 3) (dC (.int 1))) (dBin opGt (dVar 16) (dC (.int 1))))))))))))))
def b_law_0 : DS := (sSet 1 (dCall F__law_pen ⟨1, [], [.pos 0]⟩ (aCons (dVar 0) aNil) aNil))
def b_law_1_0 : DS := (sSet 3 (dCallIo 1 2 F__law_one_of (aCons (dLst (aCons (dC (.int 2)) (aCons (dC (.int 3)) (aCons (dC (.int 1)) (aCons (dC (.int 4)) aNil))))) aNil)))
def b_law_1_1 : DS := (sSet 4 (dLc [19] (itRng1 (aCons (dCallIo 1 2 F__law_one_of (aCons (dLst (aCons (dC (.int 3)) (aCons (dC (.int 0)) (aCons (dIf (dTest (dBin opLt (dVar 3) (dC (.int 4)))) (dC (.int 5)) (dC (.int 2))) (aCons (dC (.int 1)) (aCons (dIf (dTest (dBin opLt (dVar 3) (dC (.int 3)))) (dC (.int 6)) (dC (.int 4))) aNil)))))) aNil)) aNil)) (gSet 19) dYes (dCallIo 1 2 F__law_day (aCons (dVar 3) aNil))))
def b_law_1_2 : DS := (sIf (tAndD (dTest (dBin (eqS true) (dVar 4) (dLst aNil))) (dTest (dBin (eqS false) (dCallIo 1 2 F__law_draw (aCons (dC (.int 4)) aNil)) (dC (.int 3))))) (sSet 4 (dLc [19] (itSeq (dVar 4)) (gSet 19) dYes (dLc [13, 20] (itEnum (dVar 19)) (gTupD 2 (gsCons (gSet 13) (gsCons (gSet 20) gsNil))) dYes (dIf (dTest (dBin (eqS false) (dVar 13) (dC (.int 0)))) (dVar 20) (dTup (aCons (dC (.int 0)) (aCons (dC (.int 1)) aNil))))))) sNext)
def b_law_1_3 : DS := (sSet 5 (dCall F__law_passed ⟨1, [], [.pos 0]⟩ (aCons (dVar 4) aNil) aNil))
def b_law_1_4 : DS := (sSet 6 (dCall F__law_sum ⟨1, [], [.pos 0]⟩ (aCons (dLc [21] (itSeq (dCall F__law_words ⟨2, [], [.pos 0, .pos 1]⟩ (aCons (dVar 3) (aCons (dCallB bLen (aCons (dVar 4) aNil)) aNil)) aNil)) (gSet 21) dYes (dCall F__law_times ⟨2, [], [.pos 0, .pos 1]⟩ (aCons (dCall F__law_weight ⟨2, [], [.pos 0, .pos 1]⟩ (aCons (dVar 4) (aCons (dVar 21) aNil)) aNil) (aCons (dCall F__law_even ⟨2, [], [.pos 0, .pos 1]⟩ (aCons (dVar 3) (aCons (dVar 21) aNil)) aNil) aNil)) aNil)) aNil) aNil))
def b_law_1_5 : DS := (sSet 7 (dCall F__law_times ⟨2, [], [.pos 0, .pos 1]⟩ (aCons (dVar 6) (aCons (dTup (aCons (dCall F_even_factor ⟨2, [], [.pos 0, .pos 1]⟩ (aCons (dVar 3) (aCons (dCallB bLen (aCons (dVar 4) aNil)) aNil)) aNil) (aCons (dC (.int 1)) aNil))) aNil)) aNil))
def b_law_1_6 : DS := (sIf (dTest (dBin (eqS true) (dCallB bRepr (aCons (dCall F_even_purse ⟨2, [], [.pos 0, .pos 1]⟩ (aCons (dVar 3) (aCons (dVar 5) aNil)) aNil) aNil)) (dCallB bRepr (aCons (dCall F__law_number ⟨1, [], [.pos 0]⟩ (aCons (dVar 6) aNil) aNil) aNil)))) (sRet (dC (.bl false))) sNext)
def b_law_1_7 : DS := (sSet 8 (dCallIo 1 2 F__law_mix (aCons (dVar 3) aNil)))
def b_law_1_8 : DS := (sSet 9 (dLst (aCons (dVar 8) (aCons (dCall F__law_bettered ⟨2, [], [.pos 0, .pos 1]⟩ (aCons (dVar 8) (aCons (dVar 4) aNil)) aNil) (aCons (dLc [13] (itRng1 (aCons (dVar 3) aNil)) (gSet 13) dYes (dTup (aCons (dCallB bInt (aCons (dBin (eqS false) (dVar 13) (dC (.int 0))) aNil)) (aCons (dC (.int 1)) aNil)))) (aCons (dCall F__law_bettered ⟨2, [], [.pos 0, .pos 1]⟩ (aCons (dBin opMul (dLst (aCons (dCall F__law_low ⟨2, [], [.pos 0, .pos 1]⟩ (aCons (dC (.int 1)) (aCons (dVar 3) aNil)) aNil) aNil)) (dVar 3)) (aCons (dVar 4) aNil)) aNil) aNil))))))
def b_law_1_9_0 : DS := (sSet 11 (dCall F__law_plus ⟨2, [], [.pos 0, .pos 1]⟩ (aCons (dVar 7) (aCons (dCall F__law_times ⟨2, [], [.pos 0, .pos 1]⟩ (aCons (dTup (aCons (dUn opNeg (dC (.int 1))) (aCons (dC (.int 1)) aNil))) (aCons (dCall F__law_worth ⟨2, [], [.pos 0, .pos 1]⟩ (aCons (dVar 10) (aCons (dVar 4) aNil)) aNil) aNil)) aNil) aNil)) aNil))
def b_law_1_9_1 : DS := (sSet 12 (dLc [22] (itSeq (dVar 10)) (gSet 22) dYes (dCall F__law_number ⟨1, [], [.pos 0]⟩ (aCons (dVar 22) aNil) aNil)))
def b_law_1_9_2 : DS := (sIf (tOrD (dTest (dBin (eqS true) (dCallB bRepr (aCons (dLst (aCons (dCall F_even_spare ⟨3, [], [.pos 0, .pos 1, .pos 2]⟩ (aCons (dVar 3) (aCons (dVar 5) (aCons (dVar 12) aNil))) aNil) (aCons (dCall F_even_spare ⟨0, ["shares", "market", "goods"], [.kw 2, .kw 1, .kw 0]⟩ aNil (aCons (dCallB bTuple (aCons (dVar 12) aNil)) (aCons (dVar 5) (aCons (dVar 3) aNil)))) aNil))) aNil)) (dCallB bRepr (aCons (dBin opMul (dLst (aCons (dCall F__law_number ⟨1, [], [.pos 0]⟩ (aCons (dVar 11) aNil) aNil) aNil)) (dC (.int 2))) aNil)))) (dTest (dBin opLt (dIxS 11 (dC (.int 0))) (dC (.int 0))))) (sRet (dC (.bl false))) sNext)
def b_law_1_9_b : DS := (sSeq b_law_1_9_0 (sSeq b_law_1_9_1 b_law_1_9_2))
def b_law_1_9 : DS := (sFor (itSeq (dVar 9)) (gSet 10) b_law_1_9_b)
def b_law_1_b : DS := (sSeq b_law_1_0 (sSeq b_law_1_1 (sSeq b_law_1_2 (sSeq b_law_1_3 (sSeq b_law_1_4 (sSeq b_law_1_5 (sSeq b_law_1_6 (sSeq b_law_1_7 (sSeq b_law_1_8 b_law_1_9)))))))))
def b_law_1 : DS := (sFor (itRng1 (aCons (dC (.int 2)) aNil)) (gSet 2) b_law_1_b)
def b_law_2 : DS := (sAsg (gTupD 3 (gsCons (gSet 13) (gsCons (gSet 3) (gsCons (gSet 14) gsNil)))) (dTup (aCons (dCallIo 1 2 F__law_draw (aCons (dC (.int 2)) aNil)) (aCons (dCallIo 1 2 F__law_one_of (aCons (dLst (aCons (dC (.int 2)) (aCons (dC (.int 3)) (aCons (dC (.int 5)) aNil)))) aNil)) (aCons (dLc [19] (itRng1 (aCons (dCallIo 1 2 F__law_draw (aCons (dC (.int 8)) aNil)) aNil)) (gSet 19) dYes (dCallIo 1 2 F__law_one_of (aCons (dLst (aCons (dTup (aCons (dC (.int 1)) (aCons (dC (.int 1)) aNil))) (aCons (dTup (aCons (dC (.int 7)) (aCons (dC (.int 2)) aNil))) (aCons (dTup (aCons (dC (.int 3)) (aCons (dC (.int 1)) aNil))) (aCons (dTup (aCons (dC (.int 0)) (aCons (dC (.int 1)) aNil))) aNil))))) aNil))) aNil)))))
def b_law_3 : DS := (sSet 15 (dLc [20] (itSeq (dVar 14)) (gSet 20) dYes (dLc [23] (itRng1 (aCons (dVar 3) aNil)) (gSet 23) dYes (dIf (dTest (dBin (eqS false) (dVar 23) (dVar 13))) (dCall F__law_number ⟨1, [], [.pos 0]⟩ (aCons (dVar 20) aNil) aNil) (dC (.int 0))))))
def b_law_4 : DS := (sIf (dTest (dBin (eqS true) (dCall F_even_spare ⟨3, [], [.pos 0, .pos 1, .pos 2]⟩ (aCons (dVar 3) (aCons (dVar 15) (aCons (dLc [23] (itRng1 (aCons (dVar 3) aNil)) (gSet 23) dYes (dCallB bInt (aCons (dBin (eqS false) (dVar 23) (dVar 13)) aNil))) aNil))) aNil) (dC (.int 0)))) (sRet (dC (.bl false))) sNext)
def b_law_5 : DS := (sAsg (gTupD 2 (gsCons (gSet 3) (gsCons (gSet 16) gsNil))) (dTup (aCons (dCallIo 1 2 F__law_one_of (aCons (dLst (aCons (dC (.int 2)) (aCons (dC (.int 3)) (aCons (dC (.int 1)) aNil)))) aNil)) (aCons (dCallIo 1 2 F__law_draw (aCons (dC (.int 5)) aNil)) aNil))))
def b_law_6 : DS := (sPar 17 18 (aCons (dCall F__law_price ⟨2, [], [.pos 0, .pos 1]⟩ (aCons (dVar 3) (aCons (dVar 16) aNil)) aNil) (aCons (dTup (aCons (dCall F_even_factor ⟨2, [], [.pos 0, .pos 1]⟩ (aCons (dVar 3) (aCons (dVar 16) aNil)) aNil) (aCons (dC (.int 1)) aNil))) aNil)))
def b_law_7 : DS := (sRet (dAnd (dNot (dCall F__law_less ⟨2, [], [.pos 0, .pos 1]⟩ (aCons (dVar 18) (aCons (dVar 17) aNil)) aNil)) (dBin (eqS false) (dCall F__law_less ⟨2, [], [.pos 0, .pos 1]⟩ (aCons (dVar 17) (aCons (dVar 18) aNil)) aNil) (dAnd (dBin opGt (dVar 3) (dC (.int 1))) (dBin opGt (dVar 16) (dC (.int 1)))))))
theorem b_law_eq : b_law = (sSeq b_law_0 (sSeq b_law_1 (sSeq b_law_2 (sSeq b_law_3 (sSeq b_law_4 (sSeq b_law_5 (sSeq b_law_6 b_law_7))))))) := rfl
def F_law : List Dt → FR := runF false 24 b_law
structure Md (K : PySem.W.Frag) (mg : Str → Option Value) where
  a__law_pen : Addr
  d__law_pen : FuncData
  t__law_pen : Fun K "_law_pen" "_law_pen" s__law_pen a__law_pen d__law_pen
  g__law_pen : mg "_law_pen" = some (.ref a__law_pen)
  a__law_draw : Addr
  d__law_draw : FuncData
  t__law_draw : Fun K "_law_draw" "_law_draw" s__law_draw a__law_draw d__law_draw
  g__law_draw : mg "_law_draw" = some (.ref a__law_draw)
  a__law_one_of : Addr
  d__law_one_of : FuncData
  t__law_one_of : Fun K "_law_one_of" "_law_one_of" s__law_one_of a__law_one_of d__law_one_of
  g__law_one_of : mg "_law_one_of" = some (.ref a__law_one_of)
  a__law_number : Addr
  d__law_number : FuncData
  t__law_number : Fun K "_law_number" "_law_number" s__law_number a__law_number d__law_number
  g__law_number : mg "_law_number" = some (.ref a__law_number)
  a__law_passed : Addr
  d__law_passed : FuncData
  t__law_passed : Fun K "_law_passed" "_law_passed" s__law_passed a__law_passed d__law_passed
  g__law_passed : mg "_law_passed" = some (.ref a__law_passed)
  a__law_low : Addr
  d__law_low : FuncData
  t__law_low : Fun K "_law_low" "_law_low" s__law_low a__law_low d__law_low
  g__law_low : mg "_law_low" = some (.ref a__law_low)
  a__law_plus : Addr
  d__law_plus : FuncData
  t__law_plus : Fun K "_law_plus" "_law_plus" s__law_plus a__law_plus d__law_plus
  g__law_plus : mg "_law_plus" = some (.ref a__law_plus)
  a__law_sum : Addr
  d__law_sum : FuncData
  t__law_sum : Fun K "_law_sum" "_law_sum" s__law_sum a__law_sum d__law_sum
  g__law_sum : mg "_law_sum" = some (.ref a__law_sum)
  a__law_times : Addr
  d__law_times : FuncData
  t__law_times : Fun K "_law_times" "_law_times" s__law_times a__law_times d__law_times
  g__law_times : mg "_law_times" = some (.ref a__law_times)
  a__law_mix : Addr
  d__law_mix : FuncData
  t__law_mix : Fun K "_law_mix" "_law_mix" s__law_mix a__law_mix d__law_mix
  g__law_mix : mg "_law_mix" = some (.ref a__law_mix)
  a_is_integer : Addr
  d_is_integer : FuncData
  t_is_integer : Fun K "is_integer" "is_integer" s_is_integer a_is_integer d_is_integer
  g_is_integer : mg "is_integer" = some (.ref a_is_integer)
  a_is_within : Addr
  d_is_within : FuncData
  t_is_within : Fun K "is_within" "is_within" s_is_within a_is_within d_is_within
  g_is_within : mg "is_within" = some (.ref a_is_within)
  a_need_integer : Addr
  d_need_integer : FuncData
  t_need_integer : Fun K "need_integer" "need_integer" s_need_integer a_need_integer d_need_integer
  g_need_integer : mg "need_integer" = some (.ref a_need_integer)
  a_need_goods : Addr
  d_need_goods : FuncData
  t_need_goods : Fun K "need_goods" "need_goods" s_need_goods a_need_goods d_need_goods
  g_need_goods : mg "need_goods" = some (.ref a_need_goods)
  a_is_list : Addr
  d_is_list : FuncData
  t_is_list : Fun K "is_list" "is_list" s_is_list a_is_list d_is_list
  g_is_list : mg "is_list" = some (.ref a_is_list)
  a_common : Addr
  d_common : FuncData
  t_common : Fun K "common" "common" s_common a_common d_common
  g_common : mg "common" = some (.ref a_common)
  a_is_number : Addr
  d_is_number : FuncData
  t_is_number : Fun K "is_number" "is_number" s_is_number a_is_number d_is_number
  g_is_number : mg "is_number" = some (.ref a_is_number)
  a_above_in : Addr
  d_above_in : FuncData
  t_above_in : Fun K "above_in" "above_in" s_above_in a_above_in d_above_in
  g_above_in : mg "above_in" = some (.ref a_above_in)
  a_is_from_0 : Addr
  d_is_from_0 : FuncData
  t_is_from_0 : Fun K "is_from_0" "is_from_0" s_is_from_0 a_is_from_0 d_is_from_0
  g_is_from_0 : mg "is_from_0" = some (.ref a_is_from_0)
  a_is_row : Addr
  d_is_row : FuncData
  t_is_row : Fun K "is_row" "is_row" s_is_row a_is_row d_is_row
  g_is_row : mg "is_row" = some (.ref a_is_row)
  a_is_market_of : Addr
  d_is_market_of : FuncData
  t_is_market_of : Fun K "is_market_of" "is_market_of" s_is_market_of a_is_market_of d_is_market_of
  g_is_market_of : mg "is_market_of" = some (.ref a_is_market_of)
  a_kept : Addr
  d_kept : FuncData
  t_kept : Fun K "kept" "kept" s_kept a_kept d_kept
  g_kept : mg "kept" = some (.ref a_kept)
  a_kept_row : Addr
  d_kept_row : FuncData
  t_kept_row : Fun K "kept_row" "kept_row" s_kept_row a_kept_row d_kept_row
  g_kept_row : mg "kept_row" = some (.ref a_kept_row)
  a_need_market : Addr
  d_need_market : FuncData
  t_need_market : FunT K "need_market" "need_market" s_need_market [.str "market"] a_need_market d_need_market
  g_need_market : mg "need_market" = some (.ref a_need_market)
  a_is_sum_1 : Addr
  d_is_sum_1 : FuncData
  t_is_sum_1 : Fun K "is_sum_1" "is_sum_1" s_is_sum_1 a_is_sum_1 d_is_sum_1
  g_is_sum_1 : mg "is_sum_1" = some (.ref a_is_sum_1)
  a_is_mix_of : Addr
  d_is_mix_of : FuncData
  t_is_mix_of : Fun K "is_mix_of" "is_mix_of" s_is_mix_of a_is_mix_of d_is_mix_of
  g_is_mix_of : mg "is_mix_of" = some (.ref a_is_mix_of)
  a_need_mix : Addr
  d_need_mix : FuncData
  t_need_mix : FunT K "need_mix" "need_mix" s_need_mix [.str "shares"] a_need_mix d_need_mix
  g_need_mix : mg "need_mix" = some (.ref a_need_mix)
  a_choose_in : Addr
  d_choose_in : FuncData
  t_choose_in : Fun K "choose_in" "choose_in" s_choose_in a_choose_in d_choose_in
  g_choose_in : mg "choose_in" = some (.ref a_choose_in)
  a_factor_in : Addr
  d_factor_in : FuncData
  t_factor_in : Fun K "factor_in" "factor_in" s_factor_in a_factor_in d_factor_in
  g_factor_in : mg "factor_in" = some (.ref a_factor_in)
  a_need_few : Addr
  d_need_few : FuncData
  t_need_few : Fun K "need_few" "need_few" s_need_few a_need_few d_need_few
  g_need_few : mg "need_few" = some (.ref a_need_few)
  a_lowest : Addr
  d_lowest : FuncData
  t_lowest : Fun K "lowest" "lowest" s_lowest a_lowest d_lowest
  g_lowest : mg "lowest" = some (.ref a_lowest)
  a_halves : Addr
  d_halves : FuncData
  t_halves : Fun K "halves" "halves" s_halves a_halves d_halves
  g_halves : mg "halves" = some (.ref a_halves)
  a_product : Addr
  d_product : FuncData
  t_product : Fun K "product" "product" s_product a_product d_product
  g_product : mg "product" = some (.ref a_product)
  a_multiplied : Addr
  d_multiplied : FuncData
  t_multiplied : Fun K "multiplied" "multiplied" s_multiplied a_multiplied d_multiplied
  g_multiplied : mg "multiplied" = some (.ref a_multiplied)
  a_added : Addr
  d_added : FuncData
  t_added : Fun K "added" "added" s_added a_added d_added
  g_added : mg "added" = some (.ref a_added)
  a_turned : Addr
  d_turned : FuncData
  t_turned : Fun K "turned" "turned" s_turned a_turned d_turned
  g_turned : mg "turned" = some (.ref a_turned)
  a_less_by : Addr
  d_less_by : FuncData
  t_less_by : Fun K "less_by" "less_by" s_less_by a_less_by d_less_by
  g_less_by : mg "less_by" = some (.ref a_less_by)
  a_total : Addr
  d_total : FuncData
  t_total : Fun K "total" "total" s_total a_total d_total
  g_total : mg "total" = some (.ref a_total)
  a_summed : Addr
  d_summed : FuncData
  t_summed : Fun K "summed" "summed" s_summed a_summed d_summed
  g_summed : mg "summed" = some (.ref a_summed)
  a_factorial : Addr
  d_factorial : FuncData
  t_factorial : Fun K "factorial" "factorial" s_factorial a_factorial d_factorial
  g_factorial : mg "factorial" = some (.ref a_factorial)
  a_weight_in : Addr
  d_weight_in : FuncData
  t_weight_in : Fun K "weight_in" "weight_in" s_weight_in a_weight_in d_weight_in
  g_weight_in : mg "weight_in" = some (.ref a_weight_in)
  a_with_one : Addr
  d_with_one : FuncData
  t_with_one : Fun K "with_one" "with_one" s_with_one a_with_one d_with_one
  g_with_one : mg "with_one" = some (.ref a_with_one)
  a_grouped : Addr
  d_grouped : FuncData
  t_grouped : Fun K "grouped" "grouped" s_grouped a_grouped d_grouped
  g_grouped : mg "grouped" = some (.ref a_grouped)
  a_purse_in : Addr
  d_purse_in : FuncData
  t_purse_in : Fun K "purse_in" "purse_in" s_purse_in a_purse_in d_purse_in
  g_purse_in : mg "purse_in" = some (.ref a_purse_in)
  a_even_spare : Addr
  d_even_spare : FuncData
  t_even_spare : Fun K "even_spare" "even_spare" s_even_spare a_even_spare d_even_spare
  g_even_spare : mg "even_spare" = some (.ref a_even_spare)
  a__law_words : Addr
  d__law_words : FuncData
  t__law_words : Fun K "_law_words" "_law_words" s__law_words a__law_words d__law_words
  g__law_words : mg "_law_words" = some (.ref a__law_words)
  a__law_price : Addr
  d__law_price : FuncData
  t__law_price : Fun K "_law_price" "_law_price" s__law_price a__law_price d__law_price
  g__law_price : mg "_law_price" = some (.ref a__law_price)
  a__law_day : Addr
  d__law_day : FuncData
  t__law_day : Fun K "_law_day" "_law_day" s__law_day a__law_day d__law_day
  g__law_day : mg "_law_day" = some (.ref a__law_day)
  a__law_paid : Addr
  d__law_paid : FuncData
  t__law_paid : Fun K "_law_paid" "_law_paid" s__law_paid a__law_paid d__law_paid
  g__law_paid : mg "_law_paid" = some (.ref a__law_paid)
  a__law_worth : Addr
  d__law_worth : FuncData
  t__law_worth : Fun K "_law_worth" "_law_worth" s__law_worth a__law_worth d__law_worth
  g__law_worth : mg "_law_worth" = some (.ref a__law_worth)
  a__law_bettered : Addr
  d__law_bettered : FuncData
  t__law_bettered : Fun K "_law_bettered" "_law_bettered" s__law_bettered a__law_bettered d__law_bettered
  g__law_bettered : mg "_law_bettered" = some (.ref a__law_bettered)
  a_need_days : Addr
  d_need_days : FuncData
  t_need_days : Fun K "need_days" "need_days" s_need_days a_need_days d_need_days
  g_need_days : mg "need_days" = some (.ref a_need_days)
  a_even_factor : Addr
  d_even_factor : FuncData
  t_even_factor : Fun K "even_factor" "even_factor" s_even_factor a_even_factor d_even_factor
  g_even_factor : mg "even_factor" = some (.ref a_even_factor)
  a__law_less : Addr
  d__law_less : FuncData
  t__law_less : Fun K "_law_less" "_law_less" s__law_less a__law_less d__law_less
  g__law_less : mg "_law_less" = some (.ref a__law_less)
  a_even_purse : Addr
  d_even_purse : FuncData
  t_even_purse : Fun K "even_purse" "even_purse" s_even_purse a_even_purse d_even_purse
  g_even_purse : mg "even_purse" = some (.ref a_even_purse)
  a__law_weight : Addr
  d__law_weight : FuncData
  t__law_weight : Fun K "_law_weight" "_law_weight" s__law_weight a__law_weight d__law_weight
  g__law_weight : mg "_law_weight" = some (.ref a__law_weight)
  a__law_even : Addr
  d__law_even : FuncData
  t__law_even : Fun K "_law_even" "_law_even" s__law_even a__law_even d__law_even
  g__law_even : mg "_law_even" = some (.ref a__law_even)
  a_law : Addr
  d_law : FuncData
  t_law : Fun K "law" "law" s_law a_law d_law
  g_law : mg "law" = some (.ref a_law)
  n_abs : mg "abs" = none
  n_all : mg "all" = none
  n_bool : mg "bool" = none
  n_enumerate : mg "enumerate" = none
  n_int : mg "int" = none
  n_isinstance : mg "isinstance" = none
  n_len : mg "len" = none
  n_list : mg "list" = none
  n_max : mg "max" = none
  n_range : mg "range" = none
  n_repr : mg "repr" = none
  n_sum : mg "sum" = none
  n_tuple : mg "tuple" = none
  n_zip : mg "zip" = none
  k_MOST_COUNTS : Tok
  c_MOST_COUNTS : mg "MOST_COUNTS" = some (.int 5000 k_MOST_COUNTS)
  k_MOST_DAYS : Tok
  c_MOST_DAYS : mg "MOST_DAYS" = some (.int 1000 k_MOST_DAYS)
  k_MOST_GOODS : Tok
  c_MOST_GOODS : mg "MOST_GOODS" = some (.int 5 k_MOST_GOODS)
section
variable {P : Program} {w : World} {K : PySem.W.Frag} {mg : Str → Option Value} {base : Heap}
theorem sh__law_number_0 (M : Md K mg) : ShapeOk K M.d__law_number ["_law_one"] ⟨1, [], [.pos 0]⟩ (fun us ws => [Src.pos 0].map (Src.u us ws)) := shape_of M.t__law_number ⟨1, [], [.pos 0]⟩ rfl rfl fun _ _ _ _ _ _ us ws h1 h2 => match us, ws, h1, h2 with | [_], [], _, _ => rfl
theorem sh__law_low_0 (M : Md K mg) : ShapeOk K M.d__law_low ["_law_above", "_law_below"] ⟨2, [], [.pos 0, .pos 1]⟩ (fun us ws => [Src.pos 0, Src.pos 1].map (Src.u us ws)) := shape_of M.t__law_low ⟨2, [], [.pos 0, .pos 1]⟩ rfl rfl fun _ _ _ _ _ _ us ws h1 h2 => match us, ws, h1, h2 with | [_, _], [], _, _ => rfl
theorem sh__law_plus_0 (M : Md K mg) : ShapeOk K M.d__law_plus ["_law_one", "_law_other"] ⟨2, [], [.pos 0, .pos 1]⟩ (fun us ws => [Src.pos 0, Src.pos 1].map (Src.u us ws)) := shape_of M.t__law_plus ⟨2, [], [.pos 0, .pos 1]⟩ rfl rfl fun _ _ _ _ _ _ us ws h1 h2 => match us, ws, h1, h2 with | [_, _], [], _, _ => rfl
theorem sh_is_integer_0 (M : Md K mg) : ShapeOk K M.d_is_integer ["value"] ⟨1, [], [.pos 0]⟩ (fun us ws => [Src.pos 0].map (Src.u us ws)) := shape_of M.t_is_integer ⟨1, [], [.pos 0]⟩ rfl rfl fun _ _ _ _ _ _ us ws h1 h2 => match us, ws, h1, h2 with | [_], [], _, _ => rfl
theorem sh_is_within_0 (M : Md K mg) : ShapeOk K M.d_is_within ["value", "least", "most"] ⟨3, [], [.pos 0, .pos 1, .pos 2]⟩ (fun us ws => [Src.pos 0, Src.pos 1, Src.pos 2].map (Src.u us ws)) := shape_of M.t_is_within ⟨3, [], [.pos 0, .pos 1, .pos 2]⟩ rfl rfl fun _ _ _ _ _ _ us ws h1 h2 => match us, ws, h1, h2 with | [_, _, _], [], _, _ => rfl
theorem sh_need_integer_0 (M : Md K mg) : ShapeOk K M.d_need_integer ["value", "part", "least", "most"] ⟨4, [], [.pos 0, .pos 1, .pos 2, .pos 3]⟩ (fun us ws => [Src.pos 0, Src.pos 1, Src.pos 2, Src.pos 3].map (Src.u us ws)) := shape_of M.t_need_integer ⟨4, [], [.pos 0, .pos 1, .pos 2, .pos 3]⟩ rfl rfl fun _ _ _ _ _ _ us ws h1 h2 => match us, ws, h1, h2 with | [_, _, _, _], [], _, _ => rfl
theorem sh_is_list_0 (M : Md K mg) : ShapeOk K M.d_is_list ["value"] ⟨1, [], [.pos 0]⟩ (fun us ws => [Src.pos 0].map (Src.u us ws)) := shape_of M.t_is_list ⟨1, [], [.pos 0]⟩ rfl rfl fun _ _ _ _ _ _ us ws h1 h2 => match us, ws, h1, h2 with | [_], [], _, _ => rfl
theorem sh_common_0 (M : Md K mg) : ShapeOk K M.d_common ["one", "other"] ⟨2, [], [.pos 0, .pos 1]⟩ (fun us ws => [Src.pos 0, Src.pos 1].map (Src.u us ws)) := shape_of M.t_common ⟨2, [], [.pos 0, .pos 1]⟩ rfl rfl fun _ _ _ _ _ _ us ws h1 h2 => match us, ws, h1, h2 with | [_, _], [], _, _ => rfl
theorem sh_is_number_0 (M : Md K mg) : ShapeOk K M.d_is_number ["value"] ⟨1, [], [.pos 0]⟩ (fun us ws => [Src.pos 0].map (Src.u us ws)) := shape_of M.t_is_number ⟨1, [], [.pos 0]⟩ rfl rfl fun _ _ _ _ _ _ us ws h1 h2 => match us, ws, h1, h2 with | [_], [], _, _ => rfl
theorem sh_above_in_0 (M : Md K mg) : ShapeOk K M.d_above_in ["number"] ⟨1, [], [.pos 0]⟩ (fun us ws => [Src.pos 0].map (Src.u us ws)) := shape_of M.t_above_in ⟨1, [], [.pos 0]⟩ rfl rfl fun _ _ _ _ _ _ us ws h1 h2 => match us, ws, h1, h2 with | [_], [], _, _ => rfl
theorem sh_is_from_0_0 (M : Md K mg) : ShapeOk K M.d_is_from_0 ["value"] ⟨1, [], [.pos 0]⟩ (fun us ws => [Src.pos 0].map (Src.u us ws)) := shape_of M.t_is_from_0 ⟨1, [], [.pos 0]⟩ rfl rfl fun _ _ _ _ _ _ us ws h1 h2 => match us, ws, h1, h2 with | [_], [], _, _ => rfl
theorem sh_is_row_0 (M : Md K mg) : ShapeOk K M.d_is_row ["value", "many"] ⟨2, [], [.pos 0, .pos 1]⟩ (fun us ws => [Src.pos 0, Src.pos 1].map (Src.u us ws)) := shape_of M.t_is_row ⟨2, [], [.pos 0, .pos 1]⟩ rfl rfl fun _ _ _ _ _ _ us ws h1 h2 => match us, ws, h1, h2 with | [_, _], [], _, _ => rfl
theorem sh_kept_0 (M : Md K mg) : ShapeOk K M.d_kept ["number"] ⟨1, [], [.pos 0]⟩ (fun us ws => [Src.pos 0].map (Src.u us ws)) := shape_of M.t_kept ⟨1, [], [.pos 0]⟩ rfl rfl fun _ _ _ _ _ _ us ws h1 h2 => match us, ws, h1, h2 with | [_], [], _, _ => rfl
theorem sh_is_market_of_0 (M : Md K mg) : ShapeOk K M.d_is_market_of ["value", "goods"] ⟨2, [], [.pos 0, .pos 1]⟩ (fun us ws => [Src.pos 0, Src.pos 1].map (Src.u us ws)) := shape_of M.t_is_market_of ⟨2, [], [.pos 0, .pos 1]⟩ rfl rfl fun _ _ _ _ _ _ us ws h1 h2 => match us, ws, h1, h2 with | [_, _], [], _, _ => rfl
theorem sh_kept_row_0 (M : Md K mg) : ShapeOk K M.d_kept_row ["row"] ⟨1, [], [.pos 0]⟩ (fun us ws => [Src.pos 0].map (Src.u us ws)) := shape_of M.t_kept_row ⟨1, [], [.pos 0]⟩ rfl rfl fun _ _ _ _ _ _ us ws h1 h2 => match us, ws, h1, h2 with | [_], [], _, _ => rfl
theorem sh_is_sum_1_0 (M : Md K mg) : ShapeOk K M.d_is_sum_1 ["row"] ⟨1, [], [.pos 0]⟩ (fun us ws => [Src.pos 0].map (Src.u us ws)) := shape_of M.t_is_sum_1 ⟨1, [], [.pos 0]⟩ rfl rfl fun _ _ _ _ _ _ us ws h1 h2 => match us, ws, h1, h2 with | [_], [], _, _ => rfl
theorem sh_is_mix_of_0 (M : Md K mg) : ShapeOk K M.d_is_mix_of ["value", "goods"] ⟨2, [], [.pos 0, .pos 1]⟩ (fun us ws => [Src.pos 0, Src.pos 1].map (Src.u us ws)) := shape_of M.t_is_mix_of ⟨2, [], [.pos 0, .pos 1]⟩ rfl rfl fun _ _ _ _ _ _ us ws h1 h2 => match us, ws, h1, h2 with | [_, _], [], _, _ => rfl
theorem sh_choose_in_0 (M : Md K mg) : ShapeOk K M.d_choose_in ["many", "some"] ⟨2, [], [.pos 0, .pos 1]⟩ (fun us ws => [Src.pos 0, Src.pos 1].map (Src.u us ws)) := shape_of M.t_choose_in ⟨2, [], [.pos 0, .pos 1]⟩ rfl rfl fun _ _ _ _ _ _ us ws h1 h2 => match us, ws, h1, h2 with | [_, _], [], _, _ => rfl
theorem sh_factor_in_0 (M : Md K mg) : ShapeOk K M.d_factor_in ["goods", "days"] ⟨2, [], [.pos 0, .pos 1]⟩ (fun us ws => [Src.pos 0, Src.pos 1].map (Src.u us ws)) := shape_of M.t_factor_in ⟨2, [], [.pos 0, .pos 1]⟩ rfl rfl fun _ _ _ _ _ _ us ws h1 h2 => match us, ws, h1, h2 with | [_, _], [], _, _ => rfl
theorem sh_halves_0 (M : Md K mg) : ShapeOk K M.d_halves ["number"] ⟨1, [], [.pos 0]⟩ (fun us ws => [Src.pos 0].map (Src.u us ws)) := shape_of M.t_halves ⟨1, [], [.pos 0]⟩ rfl rfl fun _ _ _ _ _ _ us ws h1 h2 => match us, ws, h1, h2 with | [_], [], _, _ => rfl
theorem sh_lowest_0 (M : Md K mg) : ShapeOk K M.d_lowest ["above", "under"] ⟨2, [], [.pos 0, .pos 1]⟩ (fun us ws => [Src.pos 0, Src.pos 1].map (Src.u us ws)) := shape_of M.t_lowest ⟨2, [], [.pos 0, .pos 1]⟩ rfl rfl fun _ _ _ _ _ _ us ws h1 h2 => match us, ws, h1, h2 with | [_, _], [], _, _ => rfl
theorem sh_product_0 (M : Md K mg) : ShapeOk K M.d_product ["one", "other"] ⟨2, [], [.pos 0, .pos 1]⟩ (fun us ws => [Src.pos 0, Src.pos 1].map (Src.u us ws)) := shape_of M.t_product ⟨2, [], [.pos 0, .pos 1]⟩ rfl rfl fun _ _ _ _ _ _ us ws h1 h2 => match us, ws, h1, h2 with | [_, _], [], _, _ => rfl
theorem sh_turned_0 (M : Md K mg) : ShapeOk K M.d_turned ["number"] ⟨1, [], [.pos 0]⟩ (fun us ws => [Src.pos 0].map (Src.u us ws)) := shape_of M.t_turned ⟨1, [], [.pos 0]⟩ rfl rfl fun _ _ _ _ _ _ us ws h1 h2 => match us, ws, h1, h2 with | [_], [], _, _ => rfl
theorem sh_added_0 (M : Md K mg) : ShapeOk K M.d_added ["one", "other"] ⟨2, [], [.pos 0, .pos 1]⟩ (fun us ws => [Src.pos 0, Src.pos 1].map (Src.u us ws)) := shape_of M.t_added ⟨2, [], [.pos 0, .pos 1]⟩ rfl rfl fun _ _ _ _ _ _ us ws h1 h2 => match us, ws, h1, h2 with | [_, _], [], _, _ => rfl
theorem sh_total_0 (M : Md K mg) : ShapeOk K M.d_total ["numbers"] ⟨1, [], [.pos 0]⟩ (fun us ws => [Src.pos 0].map (Src.u us ws)) := shape_of M.t_total ⟨1, [], [.pos 0]⟩ rfl rfl fun _ _ _ _ _ _ us ws h1 h2 => match us, ws, h1, h2 with | [_], [], _, _ => rfl
theorem sh_factorial_0 (M : Md K mg) : ShapeOk K M.d_factorial ["number"] ⟨1, [], [.pos 0]⟩ (fun us ws => [Src.pos 0].map (Src.u us ws)) := shape_of M.t_factorial ⟨1, [], [.pos 0]⟩ rfl rfl fun _ _ _ _ _ _ us ws h1 h2 => match us, ws, h1, h2 with | [_], [], _, _ => rfl
theorem sh_with_one_0 (M : Md K mg) : ShapeOk K M.d_with_one ["counts", "good"] ⟨2, [], [.pos 0, .pos 1]⟩ (fun us ws => [Src.pos 0, Src.pos 1].map (Src.u us ws)) := shape_of M.t_with_one ⟨2, [], [.pos 0, .pos 1]⟩ rfl rfl fun _ _ _ _ _ _ us ws h1 h2 => match us, ws, h1, h2 with | [_, _], [], _, _ => rfl
theorem sh_grouped_0 (M : Md K mg) : ShapeOk K M.d_grouped ["goods", "market"] ⟨2, [], [.pos 0, .pos 1]⟩ (fun us ws => [Src.pos 0, Src.pos 1].map (Src.u us ws)) := shape_of M.t_grouped ⟨2, [], [.pos 0, .pos 1]⟩ rfl rfl fun _ _ _ _ _ _ us ws h1 h2 => match us, ws, h1, h2 with | [_, _], [], _, _ => rfl
theorem sh_weight_in_0 (M : Md K mg) : ShapeOk K M.d_weight_in ["counts"] ⟨1, [], [.pos 0]⟩ (fun us ws => [Src.pos 0].map (Src.u us ws)) := shape_of M.t_weight_in ⟨1, [], [.pos 0]⟩ rfl rfl fun _ _ _ _ _ _ us ws h1 h2 => match us, ws, h1, h2 with | [_], [], _, _ => rfl
theorem sh_need_goods_0 (M : Md K mg) : ShapeOk K M.d_need_goods ["value"] ⟨1, [], [.pos 0]⟩ (fun us ws => [Src.pos 0].map (Src.u us ws)) := shape_of M.t_need_goods ⟨1, [], [.pos 0]⟩ rfl rfl fun _ _ _ _ _ _ us ws h1 h2 => match us, ws, h1, h2 with | [_], [], _, _ => rfl
theorem sh_need_market_0 (M : Md K mg) : ∃ g, ShapeOk K M.d_need_market ["value", "goods", "part"] ⟨2, [], [.pos 0, .pos 1, .cst 0 (.str "market")]⟩ g := shape_ofD M.t_need_market ⟨2, [], [.pos 0, .pos 1, .cst 0 (.str "market")]⟩ rfl (by intro q h; simp only [List.mem_cons, List.not_mem_nil, or_false] at h; rcases h with rfl | h <;> (try (rcases h with rfl | h)) <;> (try (rcases h with rfl | h)) <;> (try subst h) <;> first | rfl | trivial) fun _ _ _ _ _ _ _ us ws its h1 h2 h3 => match us, ws, its, h1, h2, h3 with | [_, _], [], [_], _, _, _ => ⟨_, rfl, rfl⟩
theorem sh_need_mix_0 (M : Md K mg) : ∃ g, ShapeOk K M.d_need_mix ["value", "goods", "part"] ⟨2, [], [.pos 0, .pos 1, .cst 0 (.str "shares")]⟩ g := shape_ofD M.t_need_mix ⟨2, [], [.pos 0, .pos 1, .cst 0 (.str "shares")]⟩ rfl (by intro q h; simp only [List.mem_cons, List.not_mem_nil, or_false] at h; rcases h with rfl | h <;> (try (rcases h with rfl | h)) <;> (try (rcases h with rfl | h)) <;> (try subst h) <;> first | rfl | trivial) fun _ _ _ _ _ _ _ us ws its h1 h2 h3 => match us, ws, its, h1, h2, h3 with | [_, _], [], [_], _, _, _ => ⟨_, rfl, rfl⟩
theorem sh_need_few_0 (M : Md K mg) : ShapeOk K M.d_need_few ["goods", "market"] ⟨2, [], [.pos 0, .pos 1]⟩ (fun us ws => [Src.pos 0, Src.pos 1].map (Src.u us ws)) := shape_of M.t_need_few ⟨2, [], [.pos 0, .pos 1]⟩ rfl rfl fun _ _ _ _ _ _ us ws h1 h2 => match us, ws, h1, h2 with | [_, _], [], _, _ => rfl
theorem sh_summed_0 (M : Md K mg) : ShapeOk K M.d_summed ["row", "other"] ⟨2, [], [.pos 0, .pos 1]⟩ (fun us ws => [Src.pos 0, Src.pos 1].map (Src.u us ws)) := shape_of M.t_summed ⟨2, [], [.pos 0, .pos 1]⟩ rfl rfl fun _ _ _ _ _ _ us ws h1 h2 => match us, ws, h1, h2 with | [_, _], [], _, _ => rfl
theorem sh_multiplied_0 (M : Md K mg) : ShapeOk K M.d_multiplied ["numbers"] ⟨1, [], [.pos 0]⟩ (fun us ws => [Src.pos 0].map (Src.u us ws)) := shape_of M.t_multiplied ⟨1, [], [.pos 0]⟩ rfl rfl fun _ _ _ _ _ _ us ws h1 h2 => match us, ws, h1, h2 with | [_], [], _, _ => rfl
theorem sh_purse_in_0 (M : Md K mg) : ShapeOk K M.d_purse_in ["goods", "market"] ⟨2, [], [.pos 0, .pos 1]⟩ (fun us ws => [Src.pos 0, Src.pos 1].map (Src.u us ws)) := shape_of M.t_purse_in ⟨2, [], [.pos 0, .pos 1]⟩ rfl rfl fun _ _ _ _ _ _ us ws h1 h2 => match us, ws, h1, h2 with | [_, _], [], _, _ => rfl
theorem sh_less_by_0 (M : Md K mg) : ShapeOk K M.d_less_by ["one", "other"] ⟨2, [], [.pos 0, .pos 1]⟩ (fun us ws => [Src.pos 0, Src.pos 1].map (Src.u us ws)) := shape_of M.t_less_by ⟨2, [], [.pos 0, .pos 1]⟩ rfl rfl fun _ _ _ _ _ _ us ws h1 h2 => match us, ws, h1, h2 with | [_, _], [], _, _ => rfl
theorem sh__law_words_0 (M : Md K mg) : ShapeOk K M.d__law_words ["_law_goods", "_law_days"] ⟨2, [], [.pos 0, .pos 1]⟩ (fun us ws => [Src.pos 0, Src.pos 1].map (Src.u us ws)) := shape_of M.t__law_words ⟨2, [], [.pos 0, .pos 1]⟩ rfl rfl fun _ _ _ _ _ _ us ws h1 h2 => match us, ws, h1, h2 with | [_, _], [], _, _ => rfl
theorem sh__law_times_0 (M : Md K mg) : ShapeOk K M.d__law_times ["_law_one", "_law_other"] ⟨2, [], [.pos 0, .pos 1]⟩ (fun us ws => [Src.pos 0, Src.pos 1].map (Src.u us ws)) := shape_of M.t__law_times ⟨2, [], [.pos 0, .pos 1]⟩ rfl rfl fun _ _ _ _ _ _ us ws h1 h2 => match us, ws, h1, h2 with | [_, _], [], _, _ => rfl
theorem sh__law_sum_0 (M : Md K mg) : ShapeOk K M.d__law_sum ["_law_some"] ⟨1, [], [.pos 0]⟩ (fun us ws => [Src.pos 0].map (Src.u us ws)) := shape_of M.t__law_sum ⟨1, [], [.pos 0]⟩ rfl rfl fun _ _ _ _ _ _ us ws h1 h2 => match us, ws, h1, h2 with | [_], [], _, _ => rfl
theorem sh__law_paid_0 (M : Md K mg) : ShapeOk K M.d__law_paid ["_law_shares", "_law_day_here"] ⟨2, [], [.pos 0, .pos 1]⟩ (fun us ws => [Src.pos 0, Src.pos 1].map (Src.u us ws)) := shape_of M.t__law_paid ⟨2, [], [.pos 0, .pos 1]⟩ rfl rfl fun _ _ _ _ _ _ us ws h1 h2 => match us, ws, h1, h2 with | [_, _], [], _, _ => rfl
theorem sh__law_worth_0 (M : Md K mg) : ShapeOk K M.d__law_worth ["_law_shares", "_law_market"] ⟨2, [], [.pos 0, .pos 1]⟩ (fun us ws => [Src.pos 0, Src.pos 1].map (Src.u us ws)) := shape_of M.t__law_worth ⟨2, [], [.pos 0, .pos 1]⟩ rfl rfl fun _ _ _ _ _ _ us ws h1 h2 => match us, ws, h1, h2 with | [_, _], [], _, _ => rfl
theorem sh_need_days_0 (M : Md K mg) : ShapeOk K M.d_need_days ["value"] ⟨1, [], [.pos 0]⟩ (fun us ws => [Src.pos 0].map (Src.u us ws)) := shape_of M.t_need_days ⟨1, [], [.pos 0]⟩ rfl rfl fun _ _ _ _ _ _ us ws h1 h2 => match us, ws, h1, h2 with | [_], [], _, _ => rfl
theorem sh__law_pen_0 (M : Md K mg) : ShapeOk K M.d__law_pen ["_law_script"] ⟨1, [], [.pos 0]⟩ (fun us ws => [Src.pos 0].map (Src.u us ws)) := shape_of M.t__law_pen ⟨1, [], [.pos 0]⟩ rfl rfl fun _ _ _ _ _ _ us ws h1 h2 => match us, ws, h1, h2 with | [_], [], _, _ => rfl
theorem sh__law_passed_0 (M : Md K mg) : ShapeOk K M.d__law_passed ["_law_market"] ⟨1, [], [.pos 0]⟩ (fun us ws => [Src.pos 0].map (Src.u us ws)) := shape_of M.t__law_passed ⟨1, [], [.pos 0]⟩ rfl rfl fun _ _ _ _ _ _ us ws h1 h2 => match us, ws, h1, h2 with | [_], [], _, _ => rfl
theorem sh__law_even_0 (M : Md K mg) : ShapeOk K M.d__law_even ["_law_goods", "_law_word"] ⟨2, [], [.pos 0, .pos 1]⟩ (fun us ws => [Src.pos 0, Src.pos 1].map (Src.u us ws)) := shape_of M.t__law_even ⟨2, [], [.pos 0, .pos 1]⟩ rfl rfl fun _ _ _ _ _ _ us ws h1 h2 => match us, ws, h1, h2 with | [_, _], [], _, _ => rfl
theorem sh__law_weight_0 (M : Md K mg) : ShapeOk K M.d__law_weight ["_law_market", "_law_word"] ⟨2, [], [.pos 0, .pos 1]⟩ (fun us ws => [Src.pos 0, Src.pos 1].map (Src.u us ws)) := shape_of M.t__law_weight ⟨2, [], [.pos 0, .pos 1]⟩ rfl rfl fun _ _ _ _ _ _ us ws h1 h2 => match us, ws, h1, h2 with | [_, _], [], _, _ => rfl
theorem sh_even_factor_0 (M : Md K mg) : ShapeOk K M.d_even_factor ["goods", "days"] ⟨2, [], [.pos 0, .pos 1]⟩ (fun us ws => [Src.pos 0, Src.pos 1].map (Src.u us ws)) := shape_of M.t_even_factor ⟨2, [], [.pos 0, .pos 1]⟩ rfl rfl fun _ _ _ _ _ _ us ws h1 h2 => match us, ws, h1, h2 with | [_, _], [], _, _ => rfl
theorem sh_even_purse_0 (M : Md K mg) : ShapeOk K M.d_even_purse ["goods", "market"] ⟨2, [], [.pos 0, .pos 1]⟩ (fun us ws => [Src.pos 0, Src.pos 1].map (Src.u us ws)) := shape_of M.t_even_purse ⟨2, [], [.pos 0, .pos 1]⟩ rfl rfl fun _ _ _ _ _ _ us ws h1 h2 => match us, ws, h1, h2 with | [_, _], [], _, _ => rfl
theorem sh__law_bettered_0 (M : Md K mg) : ShapeOk K M.d__law_bettered ["_law_shares", "_law_market"] ⟨2, [], [.pos 0, .pos 1]⟩ (fun us ws => [Src.pos 0, Src.pos 1].map (Src.u us ws)) := shape_of M.t__law_bettered ⟨2, [], [.pos 0, .pos 1]⟩ rfl rfl fun _ _ _ _ _ _ us ws h1 h2 => match us, ws, h1, h2 with | [_, _], [], _, _ => rfl
theorem sh_even_spare_0 (M : Md K mg) : ShapeOk K M.d_even_spare ["goods", "market", "shares"] ⟨0, ["shares", "market", "goods"], [.kw 2, .kw 1, .kw 0]⟩ (fun us ws => [Src.kw 2, Src.kw 1, Src.kw 0].map (Src.u us ws)) := shape_of M.t_even_spare ⟨0, ["shares", "market", "goods"], [.kw 2, .kw 1, .kw 0]⟩ rfl rfl fun _ _ _ _ _ _ us ws h1 h2 => match us, ws, h1, h2 with | [], [_, _, _], _, _ => rfl
theorem sh_even_spare_1 (M : Md K mg) : ShapeOk K M.d_even_spare ["goods", "market", "shares"] ⟨3, [], [.pos 0, .pos 1, .pos 2]⟩ (fun us ws => [Src.pos 0, Src.pos 1, Src.pos 2].map (Src.u us ws)) := shape_of M.t_even_spare ⟨3, [], [.pos 0, .pos 1, .pos 2]⟩ rfl rfl fun _ _ _ _ _ _ us ws h1 h2 => match us, ws, h1, h2 with | [_, _, _], [], _, _ => rfl
theorem sh__law_price_0 (M : Md K mg) : ShapeOk K M.d__law_price ["_law_goods", "_law_days"] ⟨2, [], [.pos 0, .pos 1]⟩ (fun us ws => [Src.pos 0, Src.pos 1].map (Src.u us ws)) := shape_of M.t__law_price ⟨2, [], [.pos 0, .pos 1]⟩ rfl rfl fun _ _ _ _ _ _ us ws h1 h2 => match us, ws, h1, h2 with | [_, _], [], _, _ => rfl
theorem sh__law_less_0 (M : Md K mg) : ShapeOk K M.d__law_less ["_law_one", "_law_other"] ⟨2, [], [.pos 0, .pos 1]⟩ (fun us ws => [Src.pos 0, Src.pos 1].map (Src.u us ws)) := shape_of M.t__law_less ⟨2, [], [.pos 0, .pos 1]⟩ rfl rfl fun _ _ _ _ _ _ us ws h1 h2 => match us, ws, h1, h2 with | [_, _], [], _, _ => rfl
theorem ok__law_pen (M : Md K mg) (hD : base.NoDigits) : FnG P w K mg base 1 M.a__law_pen M.d__law_pen ["_law_script"] (spF ⟨K, mg⟩ 1 false F__law_pen) := fn_text M.t__law_pen sc__law_pen fun cdv A outer s H E hg hr =>
    (sss_one (ss_ret (se_lst (sa_cons (se_lc (own := [("_law_cell", 1)]) rfl sc__law_pen.nd (si_seq (se_sl (se_var (pv 0)) so_none (so_some se_int))) (blkOk_by (by rfl)) (fun _ _ _ _ _ => (sg_name (ts := (List.map (fun p : Str × Nat => p.2) [("_law_cell", 1)])) (pg_name (i := 1) sc__law_pen.nd (by rfl) (by first | exact .inl rfl | exact .inr rfl)) (by decide))) (fun _ _ _ _ _ => spt_nil) (fun _ _ _ _ _ => (se_callTy call_int1 cas_int (by rfl) M.n_int (by first | exact PySem.boot_int | decide +kernel | rfl) (sa_cons (se_var (pv 1)) sa_nil (star_no rfl)) (by decide) (by decide) rfl)) (fun _ => rfl)) (sa_cons se_int (sa_cons se_int sa_nil (star_no rfl)) (star_no rfl)) (star_no rfl)))))
theorem ok__law_draw (M : Md K mg) (hD : base.NoDigits) : FnG P w K mg base 1 M.a__law_draw M.d__law_draw ["_law_pen_here", "_law_many"] (spF ⟨K, mg⟩ 2 true F__law_draw) := fn_text M.t__law_draw sc__law_draw fun cdv A outer s H E hg hr =>
    (sss_cons (ss_set (ps_set (i := 2) sc__law_draw.nd (by rfl) (by first | exact .inl rfl | exact .inr rfl) (se_callTy call_int1 cas_int (by rfl) M.n_int (by first | exact PySem.boot_int | decide +kernel | rfl) (sa_cons (se_ixS (pv 0) se_int (fun _ _ => rfl)) sa_nil (star_no rfl)) (by decide) (by decide) rfl)))
    (sss_cons (ss_if (st_cmp op_gt ops_gt (se_var (pv 2)) se_int (nomark _)) (sss_cons (ss_put (ps_asg (se_bin op_fdivA ops_fdiv (se_var (pv 2)) (se_var (pv 1))) (pg_sub (pv 0) se_int set_list (fun _ => rfl)) (by rfl) (by rfl) (by rfl)))
    (sss_one (ss_ret (se_bin op_modN ops_mod (se_var (pv 2)) (se_var (pv 1)))))) sss_nil)
    (sss_cons (ss_if (st_cmp (op_eqS (un64 hr)) ops_eqS (se_ixS (pv 0) se_int (fun _ _ => rfl)) (se_lst sa_nil) (nomark _)) (sss_one (ss_ret se_int)) sss_nil)
    (sss_cons (ss_set (ps_set (i := 3) sc__law_draw.nd (by rfl) (by first | exact .inl rfl | exact .inr rfl) (se_ixS (pv 0) se_int (fun _ _ => rfl))))
    (sss_cons (ss_put (ps_asg (se_bin op_addAll ops_add (se_var (pv 3)) se_int) (pg_sub (pv 0) se_int set_list (fun _ => rfl)) (by rfl) (by rfl) (by rfl)))
    (sss_cons (ss_set (ps_set (i := 4) sc__law_draw.nd (by rfl) (by first | exact .inl rfl | exact .inr rfl) (se_ix (se_ixS (pv 0) se_int (fun _ _ => rfl)) (se_bin op_modN ops_mod (se_callTy call_int1 cas_int (by rfl) M.n_int (by first | exact PySem.boot_int | decide +kernel | rfl) (sa_cons (se_var (pv 3)) sa_nil (star_no rfl)) (by decide) (by decide) rfl) (se_callB call_len cas_len (by rfl) M.n_len (by first | exact PySem.boot_len | decide +kernel | rfl) (sa_cons (se_ixS (pv 0) se_int (fun _ _ => rfl)) sa_nil (star_no rfl)) (by decide) (by decide) rfl)) (fun _ _ => rfl))))
    (sss_cons (ss_if (PW.pt (sw_and (st_cmp op_lt ops_lt (se_var (pv 3)) (se_callB call_len cas_len (by rfl) M.n_len (by first | exact PySem.boot_len | decide +kernel | rfl) (sa_cons (se_ixS (pv 0) se_int (fun _ _ => rfl)) sa_nil (star_no rfl)) (by decide) (by decide) rfl) (nomark _)) (sw_and1 (st_cmp op_ge ops_ge (se_callB call_abs cas_abs (by rfl) M.n_abs (by first | exact PySem.boot_abs | decide +kernel | rfl) (sa_cons (se_var (pv 4)) sa_nil (star_no rfl)) (by decide) (by decide) rfl) (se_bin op_pow ops_pow se_int se_int) (nomark _))))) (sss_cons (ss_set (ps_set (i := 2) sc__law_draw.nd (by rfl) (by first | exact .inl rfl | exact .inr rfl) (se_bin op_addAll ops_add (se_bin op_mulAll ops_mul se_int (se_bin op_sub ops_sub (se_callB call_abs cas_abs (by rfl) M.n_abs (by first | exact PySem.boot_abs | decide +kernel | rfl) (sa_cons (se_var (pv 4)) sa_nil (star_no rfl)) (by decide) (by decide) rfl) (se_bin op_pow ops_pow se_int se_int))) (se_callTy call_int1 cas_int (by rfl) M.n_int (by first | exact PySem.boot_int | decide +kernel | rfl) (sa_cons (se_cmp op_lt ops_lt (se_var (pv 4)) se_int (nomark _)) sa_nil (star_no rfl)) (by decide) (by decide) rfl))))
    (sss_cons (ss_put (ps_asg (se_bin op_fdivA ops_fdiv (se_var (pv 2)) (se_var (pv 1))) (pg_sub (pv 0) se_int set_list (fun _ => rfl)) (by rfl) (by rfl) (by rfl)))
    (sss_one (ss_ret (se_bin op_modN ops_mod (se_var (pv 2)) (se_var (pv 1))))))) sss_nil)
    (sss_cons (ss_set (ps_set (i := 5) sc__law_draw.nd (by rfl) (by first | exact .inl rfl | exact .inr rfl) (se_bin op_modN ops_mod (se_callTy call_int1 cas_int (by rfl) M.n_int (by first | exact PySem.boot_int | decide +kernel | rfl) (sa_cons (se_bin op_pow ops_pow (se_bin op_addAll ops_add (se_bin op_addAll ops_add (se_bin op_modN ops_mod (se_callTy call_int1 cas_int (by rfl) M.n_int (by first | exact PySem.boot_int | decide +kernel | rfl) (sa_cons (se_var (pv 4)) sa_nil (star_no rfl)) (by decide) (by decide) rfl) se_int) (se_bin op_mulAll ops_mul se_int (se_var (pv 3)))) se_int) se_int) sa_nil (star_no rfl)) (by decide) (by decide) rfl) se_int)))
    (sss_cons (ss_set (ps_set (i := 5) sc__law_draw.nd (by rfl) (by first | exact .inl rfl | exact .inr rfl) (se_bin op_modN ops_mod (se_callTy call_int1 cas_int (by rfl) M.n_int (by first | exact PySem.boot_int | decide +kernel | rfl) (sa_cons (se_bin op_pow ops_pow (se_bin op_addAll ops_add (se_bin op_addAll ops_add (se_bin op_mulAll ops_mul (se_var (pv 5)) (se_bin op_addAll ops_add (se_bin op_mulAll ops_mul se_int (se_var (pv 3))) se_int)) (se_bin op_mulAll ops_mul (se_bin op_mulAll ops_mul se_int (se_var (pv 3))) (se_var (pv 3)))) se_int) se_int) sa_nil (star_no rfl)) (by decide) (by decide) rfl) se_int)))
    (sss_one (ss_ret (se_bin op_modN ops_mod (se_callTy call_int1 cas_int (by rfl) M.n_int (by first | exact PySem.boot_int | decide +kernel | rfl) (sa_cons (se_bin op_fdivA ops_fdiv (se_var (pv 5)) se_int) sa_nil (star_no rfl)) (by decide) (by decide) rfl) (se_var (pv 1))))))))))))))
theorem ok__law_one_of (M : Md K mg) (hD : base.NoDigits) : FnG P w K mg base 2 M.a__law_one_of M.d__law_one_of ["_law_pen_here", "_law_some"] (spF ⟨K, mg⟩ 2 true F__law_one_of) := fn_text M.t__law_one_of sc__law_one_of fun cdv A outer s H E hg hr =>
    (sss_one (ss_ret (se_ixS (pv 1) (se_callIo (ok__law_draw M hD) (binds_of M.t__law_draw 2 fun _ _ _ _ _ _ us hl => match us, hl with | [_, _], _ => rfl) hg (hr.mono (by decide)) pass_body (by rfl) M.g__law_draw M.t__law_draw.kp (by decide) (pv 0) (sa_cons (se_callB call_len cas_len (by rfl) M.n_len (by first | exact PySem.boot_len | decide +kernel | rfl) (sa_cons (se_var (pv 1)) sa_nil (star_no rfl)) (by decide) (by decide) rfl) sa_nil (star_no rfl)) rfl) (fun _ _ => rfl))))
theorem ok__law_number (M : Md K mg) (hD : base.NoDigits) : FnG P w K mg base 1 M.a__law_number M.d__law_number ["_law_one"] (spF ⟨K, mg⟩ 1 false F__law_number) := fn_text M.t__law_number sc__law_number fun cdv A outer s H E hg hr =>
    (sss_one (ss_ret (se_if (st_cmp (op_eqS (un64 hr)) ops_eqS (se_ixS (pv 0) se_int (fun _ _ => rfl)) se_int (nomark _)) (se_ixS (pv 0) se_int (fun _ _ => rfl)) (se_move (pv 0)))))
theorem ok__law_passed (M : Md K mg) (hD : base.NoDigits) : FnG P w K mg base 2 M.a__law_passed M.d__law_passed ["_law_market"] (spF ⟨K, mg⟩ 1 false F__law_passed) := fn_text M.t__law_passed sc__law_passed fun cdv A outer s H E hg hr =>
    (sss_one (ss_ret (se_lc (own := [("_law_day_here", 1)]) rfl sc__law_passed.nd (si_seq (se_var (pv 0))) (blkOk_by (by rfl)) (fun _ _ _ _ _ => (sg_name (ts := (List.map (fun p : Str × Nat => p.2) [("_law_day_here", 1)])) (pg_name (i := 1) sc__law_passed.nd (by rfl) (by first | exact .inl rfl | exact .inr rfl)) (by decide))) (fun _ _ _ _ _ => spt_nil) (fun _ _ _ _ _ => (se_lc (own := [("_law_each", 2)]) rfl sc__law_passed.nd (si_seq (se_var (pv 1))) (blkOk_by (by rfl)) (fun _ _ _ _ _ => (sg_name (ts := (List.map (fun p : Str × Nat => p.2) [("_law_each", 2)])) (pg_name (i := 2) sc__law_passed.nd (by rfl) (by first | exact .inl rfl | exact .inr rfl)) (by decide))) (fun _ _ _ _ _ => spt_nil) (fun _ _ _ _ _ => (se_call (sh := ⟨1, [], [.pos 0]⟩) (ok__law_number M hD) (sh__law_number_0 M) rfl hg (hr.mono (by decide)) pass_blk (by rfl) M.g__law_number M.t__law_number.kp (by decide) (sa_cons (se_var (pv 2)) sa_nil (star_no rfl)) sk_nil rfl rfl rfl (fun h => nomatch h) (fun _ => rfl))) (fun _ => rfl))) (fun _ => rfl))))
theorem ok__law_low (M : Md K mg) (hD : base.NoDigits) : FnG P w K mg base 1 M.a__law_low M.d__law_low ["_law_above", "_law_below"] (spF ⟨K, mg⟩ 2 false F__law_low) := fn_text M.t__law_low sc__law_low fun cdv A outer s H E hg hr =>
    (sss_cons (ss_par (by decide) (ps_par rfl sc__law_low.nd (by rfl) (by rfl) (by decide) (by rfl) (by rfl) (sa_cons (se_callB call_abs cas_abs (by rfl) M.n_abs (by first | exact PySem.boot_abs | decide +kernel | rfl) (sa_cons (se_var (pv 0)) sa_nil (star_no rfl)) (by decide) (by decide) rfl) (sa_cons (se_callB call_abs cas_abs (by rfl) M.n_abs (by first | exact PySem.boot_abs | decide +kernel | rfl) (sa_cons (se_var (pv 1)) sa_nil (star_no rfl)) (by decide) (by decide) rfl) sa_nil (star_no rfl)) (star_no rfl)) (by rfl)))
    (sss_cons (ss_while own_body (st_cmp op_gt ops_gt (se_var (pv 3)) se_int (nomark _)) (sss_one (ss_par (by decide) (ps_par rfl sc__law_low.nd (by rfl) (by rfl) (by decide) (by rfl) (by rfl) (sa_cons (se_var (pv 3)) (sa_cons (se_bin op_modN ops_mod (se_callTy call_int1 cas_int (by rfl) M.n_int (by first | exact PySem.boot_int | decide +kernel | rfl) (sa_cons (se_var (pv 2)) sa_nil (star_no rfl)) (by decide) (by decide) rfl) (se_var (pv 3))) sa_nil (star_no rfl)) (star_no rfl)) (by rfl)))))
    (sss_cons (ss_set (ps_set (i := 2) sc__law_low.nd (by rfl) (by first | exact .inl rfl | exact .inr rfl) (se_if (st_cmp op_gt ops_gt (se_var (pv 1)) se_int (nomark _)) (se_move (pv 2)) (se_neg (se_var (pv 2))))))
    (sss_one (ss_ret (se_tup (sa_cons (se_bin op_fdivA ops_fdiv (se_callTy call_int1 cas_int (by rfl) M.n_int (by first | exact PySem.boot_int | decide +kernel | rfl) (sa_cons (se_var (pv 0)) sa_nil (star_no rfl)) (by decide) (by decide) rfl) (se_var (pv 2))) (sa_cons (se_bin op_fdivA ops_fdiv (se_callTy call_int1 cas_int (by rfl) M.n_int (by first | exact PySem.boot_int | decide +kernel | rfl) (sa_cons (se_var (pv 1)) sa_nil (star_no rfl)) (by decide) (by decide) rfl) (se_var (pv 2))) sa_nil (star_no rfl)) (star_no rfl))))))))
theorem ok__law_plus (M : Md K mg) (hD : base.NoDigits) : FnG P w K mg base 2 M.a__law_plus M.d__law_plus ["_law_one", "_law_other"] (spF ⟨K, mg⟩ 2 false F__law_plus) := fn_text M.t__law_plus sc__law_plus fun cdv A outer s H E hg hr =>
    (sss_one (ss_ret (se_call (sh := ⟨2, [], [.pos 0, .pos 1]⟩) (ok__law_low M hD) (sh__law_low_0 M) rfl hg (hr.mono (by decide)) pass_body (by rfl) M.g__law_low M.t__law_low.kp (by decide) (sa_cons (se_bin op_addAll ops_add (se_bin op_mulAll ops_mul (se_ixS (pv 0) se_int (fun _ _ => rfl)) (se_ixS (pv 1) se_int (fun _ _ => rfl))) (se_bin op_mulAll ops_mul (se_ixS (pv 1) se_int (fun _ _ => rfl)) (se_ixS (pv 0) se_int (fun _ _ => rfl)))) (sa_cons (se_bin op_mulAll ops_mul (se_ixS (pv 0) se_int (fun _ _ => rfl)) (se_ixS (pv 1) se_int (fun _ _ => rfl))) sa_nil (star_no rfl)) (star_no rfl)) sk_nil rfl rfl rfl (fun h => nomatch h) (fun _ => rfl))))
theorem ok__law_sum (M : Md K mg) (hD : base.NoDigits) : FnG P w K mg base 3 M.a__law_sum M.d__law_sum ["_law_some"] (spF ⟨K, mg⟩ 1 false F__law_sum) := fn_text M.t__law_sum sc__law_sum fun cdv A outer s H E hg hr =>
    (sss_cons (ss_set (ps_set (i := 1) sc__law_sum.nd (by rfl) (by first | exact .inl rfl | exact .inr rfl) (se_tup (sa_cons se_int (sa_cons se_int sa_nil (star_no rfl)) (star_no rfl)))))
    (sss_cons (ss_for own_body rfl (si_seq (se_var (pv 0))) (sg_name (ts := [2]) (pg_name (i := 2) sc__law_sum.nd (by rfl) (by first | exact .inl rfl | exact .inr rfl)) (by decide)) (sss_one (ss_set (ps_set (i := 1) sc__law_sum.nd (by rfl) (by first | exact .inl rfl | exact .inr rfl) (se_call (sh := ⟨2, [], [.pos 0, .pos 1]⟩) (ok__law_plus M hD) (sh__law_plus_0 M) rfl hg (hr.mono (by decide)) pass_body (by rfl) M.g__law_plus M.t__law_plus.kp (by decide) (sa_cons (se_var (pv 1)) (sa_cons (se_var (pv 2)) sa_nil (star_no rfl)) (star_no rfl)) sk_nil rfl rfl rfl (fun h => nomatch h) (fun _ => rfl))))) (fun _ => rfl))
    (sss_one (ss_ret (se_move (pv 1))))))
theorem ok__law_times (M : Md K mg) (hD : base.NoDigits) : FnG P w K mg base 2 M.a__law_times M.d__law_times ["_law_one", "_law_other"] (spF ⟨K, mg⟩ 2 false F__law_times) := fn_text M.t__law_times sc__law_times fun cdv A outer s H E hg hr =>
    (sss_one (ss_ret (se_call (sh := ⟨2, [], [.pos 0, .pos 1]⟩) (ok__law_low M hD) (sh__law_low_0 M) rfl hg (hr.mono (by decide)) pass_body (by rfl) M.g__law_low M.t__law_low.kp (by decide) (sa_cons (se_bin op_mulAll ops_mul (se_ixS (pv 0) se_int (fun _ _ => rfl)) (se_ixS (pv 1) se_int (fun _ _ => rfl))) (sa_cons (se_bin op_mulAll ops_mul (se_ixS (pv 0) se_int (fun _ _ => rfl)) (se_ixS (pv 1) se_int (fun _ _ => rfl))) sa_nil (star_no rfl)) (star_no rfl)) sk_nil rfl rfl rfl (fun h => nomatch h) (fun _ => rfl))))
theorem ok__law_mix (M : Md K mg) (hD : base.NoDigits) : FnG P w K mg base 3 M.a__law_mix M.d__law_mix ["_law_pen_here", "_law_goods"] (spF ⟨K, mg⟩ 2 true F__law_mix) := fn_text M.t__law_mix sc__law_mix fun cdv A outer s H E hg hr =>
    (sss_cons (ss_set (ps_set (i := 2) sc__law_mix.nd (by rfl) (by first | exact .inl rfl | exact .inr rfl) (se_callIo (ok__law_one_of M hD) (binds_of M.t__law_one_of 2 fun _ _ _ _ _ _ us hl => match us, hl with | [_, _], _ => rfl) hg (hr.mono (by decide)) pass_body (by rfl) M.g__law_one_of M.t__law_one_of.kp (by decide) (pv 0) (sa_cons (se_lst (sa_cons (se_lc (own := [("_law_good", 3)]) rfl sc__law_mix.nd (si_rng1 (by rfl) M.n_range (sa_cons (se_var (pv 1)) sa_nil (star_no rfl)) rfl) (blkOk_by (by rfl)) (fun _ _ _ _ _ => (sg_name (ts := (List.map (fun p : Str × Nat => p.2) [("_law_good", 3)])) (pg_name (i := 3) sc__law_mix.nd (by rfl) (by first | exact .inl rfl | exact .inr rfl)) (by decide))) (fun _ _ _ _ _ => spt_nil) (fun _ _ _ _ _ => (se_callIo (ok__law_draw M hD) (binds_of M.t__law_draw 2 fun _ _ _ _ _ _ us hl => match us, hl with | [_, _], _ => rfl) hg (hr.mono (by decide)) pass_blk (by rfl) M.g__law_draw M.t__law_draw.kp (by decide) (pv 0) (sa_cons se_int sa_nil (star_no rfl)) rfl)) (fun _ => rfl)) (sa_cons (se_bin op_mulAll ops_mul (se_lst (sa_cons se_int sa_nil (star_no rfl))) (se_var (pv 1))) (sa_cons (se_lc (own := [("_law_good", 3)]) rfl sc__law_mix.nd (si_rng1 (by rfl) M.n_range (sa_cons (se_var (pv 1)) sa_nil (star_no rfl)) rfl) (blkOk_by (by rfl)) (fun _ _ _ _ _ => (sg_name (ts := (List.map (fun p : Str × Nat => p.2) [("_law_good", 3)])) (pg_name (i := 3) sc__law_mix.nd (by rfl) (by first | exact .inl rfl | exact .inr rfl)) (by decide))) (fun _ _ _ _ _ => spt_nil) (fun _ _ _ _ _ => (se_callTy call_int1 cas_int (by rfl) M.n_int (by first | exact PySem.boot_int | decide +kernel | rfl) (sa_cons (se_cmp (op_eqS (un64 hr)) ops_eqS (se_var (pv 3)) (se_bin op_sub ops_sub (se_var (pv 1)) se_int) (nomark _)) sa_nil (star_no rfl)) (by decide) (by decide) rfl)) (fun _ => rfl)) sa_nil (star_no rfl)) (star_no rfl)) (star_no rfl))) sa_nil (star_no rfl)) rfl)))
    (sss_cons (ss_set (ps_set (i := 2) sc__law_mix.nd (by rfl) (by first | exact .inl rfl | exact .inr rfl) (se_if (st_cmp op_gt ops_gt (se_callB (sum_all rfl) cas_sum (by rfl) M.n_sum (by first | exact PySem.boot_sum | decide +kernel | rfl) (sa_cons (se_var (pv 2)) sa_nil (star_no rfl)) (by decide) (by decide) rfl) se_int (nomark _)) (se_move (pv 2)) (se_bin op_addAll ops_add (se_lst (sa_cons se_int sa_nil (star_no rfl))) (se_bin op_mulAll ops_mul (se_lst (sa_cons se_int sa_nil (star_no rfl))) (se_bin op_sub ops_sub (se_var (pv 1)) se_int))))))
    (sss_one (ss_ret (se_lc (own := [("_law_each", 4)]) rfl sc__law_mix.nd (si_seq (se_var (pv 2))) (blkOk_by (by rfl)) (fun _ _ _ _ _ => (sg_name (ts := (List.map (fun p : Str × Nat => p.2) [("_law_each", 4)])) (pg_name (i := 4) sc__law_mix.nd (by rfl) (by first | exact .inl rfl | exact .inr rfl)) (by decide))) (fun _ _ _ _ _ => spt_nil) (fun _ _ _ _ _ => (se_call (sh := ⟨2, [], [.pos 0, .pos 1]⟩) (ok__law_low M hD) (sh__law_low_0 M) rfl hg (hr.mono (by decide)) pass_blk (by rfl) M.g__law_low M.t__law_low.kp (by decide) (sa_cons (se_var (pv 4)) (sa_cons (se_callB (sum_all rfl) cas_sum (by rfl) M.n_sum (by first | exact PySem.boot_sum | decide +kernel | rfl) (sa_cons (se_var (pv 2)) sa_nil (star_no rfl)) (by decide) (by decide) rfl) sa_nil (star_no rfl)) (star_no rfl)) sk_nil rfl rfl rfl (fun h => nomatch h) (fun _ => rfl))) (fun _ => rfl))))))
theorem ok_is_integer (M : Md K mg) (hD : base.NoDigits) : FnG P w K mg base 1 M.a_is_integer M.d_is_integer ["value"] (spF ⟨K, mg⟩ 1 false F_is_integer) := fn_text M.t_is_integer sc_is_integer fun cdv A outer s H E hg hr =>
    (sss_one (ss_ret (se_and (se_isi (T := "int") (by rfl) M.n_isinstance (by first | decide +kernel | rfl) (by decide) (by decide) (by rfl) M.n_int (by first | decide +kernel | rfl) (by decide) (by decide) (se_var (pv 0)) rfl) (se_one (se_not (se_isi (T := "bool") (by rfl) M.n_isinstance (by first | decide +kernel | rfl) (by decide) (by decide) (by rfl) M.n_bool (by first | decide +kernel | rfl) (by decide) (by decide) (se_var (pv 0)) rfl))))))
theorem ok_is_within (M : Md K mg) (hD : base.NoDigits) : FnG P w K mg base 2 M.a_is_within M.d_is_within ["value", "least", "most"] (spF ⟨K, mg⟩ 3 false F_is_within) := fn_text M.t_is_within sc_is_within fun cdv A outer s H E hg hr =>
    (sss_cons (ss_if (st_not (st_tru (se_call (sh := ⟨1, [], [.pos 0]⟩) (ok_is_integer M hD) (sh_is_integer_0 M) rfl hg (hr.mono (by decide)) pass_body (by rfl) M.g_is_integer M.t_is_integer.kp (by decide) (sa_cons (se_var (pv 0)) sa_nil (star_no rfl)) sk_nil rfl rfl rfl (fun h => nomatch h) (fun _ => rfl)) (fun _ => rfl))) (sss_one (ss_ret se_bl)) sss_nil)
    (sss_one (ss_ret (se_and (se_or (se_cmp op_isN ops_is (se_var (pv 1)) se_non (nomark _)) (se_one (se_cmp op_le ops_le (se_var (pv 1)) (se_var (pv 0)) (nomark _)))) (se_one (se_or (se_cmp op_isN ops_is (se_var (pv 2)) se_non (nomark _)) (se_one (se_cmp op_le ops_le (se_var (pv 0)) (se_var (pv 2)) (nomark _)))))))))
theorem ok_need_integer (M : Md K mg) (hD : base.NoDigits) : FnG P w K mg base 3 M.a_need_integer M.d_need_integer ["value", "part", "least", "most"] (spF ⟨K, mg⟩ 4 false F_need_integer) := fn_text M.t_need_integer sc_need_integer fun cdv A outer s H E hg hr =>
    (sss_one (ss_if (st_not (st_tru (se_call (sh := ⟨3, [], [.pos 0, .pos 1, .pos 2]⟩) (ok_is_within M hD) (sh_is_within_0 M) rfl hg (hr.mono (by decide)) pass_body (by rfl) M.g_is_within M.t_is_within.kp (by decide) (sa_cons (se_var (pv 0)) (sa_cons (se_var (pv 2)) (sa_cons (se_var (pv 3)) sa_nil (star_no rfl)) (star_no rfl)) (star_no rfl)) sk_nil rfl rfl rfl (fun h => nomatch h) (fun _ => rfl)) (fun _ => rfl))) (sss_one ss_bad) sss_nil))
theorem ok_need_goods (M : Md K mg) (hD : base.NoDigits) : FnG P w K mg base 4 M.a_need_goods M.d_need_goods ["value"] (spF ⟨K, mg⟩ 1 false F_need_goods) := fn_text M.t_need_goods sc_need_goods fun cdv A outer s H E hg hr =>
    (sss_one (ss_expr (se_call (sh := ⟨4, [], [.pos 0, .pos 1, .pos 2, .pos 3]⟩) (ok_need_integer M hD) (sh_need_integer_0 M) rfl hg (hr.mono (by decide)) pass_body (by rfl) M.g_need_integer M.t_need_integer.kp (by decide) (sa_cons (se_var (pv 0)) (sa_cons se_str (sa_cons se_int (sa_cons (se_glob (v := .int 5) (by rfl) M.c_MOST_GOODS ⟨_, rfl⟩ rfl (by decide)) sa_nil (star_no rfl)) (star_no rfl)) (star_no rfl)) (star_no rfl)) sk_nil rfl rfl rfl (fun h => nomatch h) (fun _ => rfl)) (by rfl)))
theorem ok_is_list (M : Md K mg) (hD : base.NoDigits) : FnG P w K mg base 1 M.a_is_list M.d_is_list ["value"] (spF ⟨K, mg⟩ 1 false F_is_list) := fn_text M.t_is_list sc_is_list fun cdv A outer s H E hg hr =>
    (sss_one (ss_ret (se_isi2 (T := "list") (U := "tuple") (by rfl) M.n_isinstance (by first | decide +kernel | rfl) (by decide) (by decide) (by rfl) M.n_list (by first | decide +kernel | rfl) (by decide) (by decide) (by rfl) M.n_tuple (by first | decide +kernel | rfl) (by decide) (by decide) (se_var (pv 0)) rfl)))
theorem ok_common (M : Md K mg) (hD : base.NoDigits) : FnG P w K mg base 1 M.a_common M.d_common ["one", "other"] (spF ⟨K, mg⟩ 2 false F_common) := fn_text M.t_common sc_common fun cdv A outer s H E hg hr =>
    (sss_cons (ss_par (by decide) (ps_par rfl sc_common.nd (by rfl) (by rfl) (by decide) (by rfl) (by rfl) (sa_cons (se_callB call_abs cas_abs (by rfl) M.n_abs (by first | exact PySem.boot_abs | decide +kernel | rfl) (sa_cons (se_var (pv 0)) sa_nil (star_no rfl)) (by decide) (by decide) rfl) (sa_cons (se_callB call_abs cas_abs (by rfl) M.n_abs (by first | exact PySem.boot_abs | decide +kernel | rfl) (sa_cons (se_var (pv 1)) sa_nil (star_no rfl)) (by decide) (by decide) rfl) sa_nil (star_no rfl)) (star_no rfl)) (by rfl)))
    (sss_cons (ss_while own_body (st_cmp op_gt ops_gt (se_var (pv 1)) se_int (nomark _)) (sss_one (ss_par (by decide) (ps_par rfl sc_common.nd (by rfl) (by rfl) (by decide) (by rfl) (by rfl) (sa_cons (se_var (pv 1)) (sa_cons (se_bin op_modN ops_mod (se_var (pv 0)) (se_var (pv 1))) sa_nil (star_no rfl)) (star_no rfl)) (by rfl)))))
    (sss_one (ss_ret (se_move (pv 0))))))
theorem ok_is_number (M : Md K mg) (hD : base.NoDigits) : FnG P w K mg base 3 M.a_is_number M.d_is_number ["value"] (spF ⟨K, mg⟩ 1 false F_is_number) := fn_text M.t_is_number sc_is_number fun cdv A outer s H E hg hr =>
    (sss_cons (ss_if (st_tru (se_call (sh := ⟨1, [], [.pos 0]⟩) (ok_is_integer M hD) (sh_is_integer_0 M) rfl hg (hr.mono (by decide)) pass_body (by rfl) M.g_is_integer M.t_is_integer.kp (by decide) (sa_cons (se_var (pv 0)) sa_nil (star_no rfl)) sk_nil rfl rfl rfl (fun h => nomatch h) (fun _ => rfl)) (fun _ => rfl)) (sss_one (ss_ret se_bl)) sss_nil)
    (sss_cons (ss_if (PW.pt (sw_or (st_not (st_tru (se_call (sh := ⟨1, [], [.pos 0]⟩) (ok_is_list M hD) (sh_is_list_0 M) rfl hg (hr.mono (by decide)) pass_body (by rfl) M.g_is_list M.t_is_list.kp (by decide) (sa_cons (se_var (pv 0)) sa_nil (star_no rfl)) sk_nil rfl rfl rfl (fun h => nomatch h) (fun _ => rfl)) (fun _ => rfl))) (sw_or (st_cmp (op_neS (un64 hr)) ops_neS (se_callB call_len cas_len (by rfl) M.n_len (by first | exact PySem.boot_len | decide +kernel | rfl) (sa_cons (se_var (pv 0)) sa_nil (star_no rfl)) (by decide) (by decide) rfl) se_int (nomark _)) (sw_or1 (st_not (st_tru (se_call (sh := ⟨1, [], [.pos 0]⟩) (ok_is_integer M hD) (sh_is_integer_0 M) rfl hg (hr.mono (by decide)) pass_body (by rfl) M.g_is_integer M.t_is_integer.kp (by decide) (sa_cons (se_ixS (pv 0) se_int (fun _ _ => rfl)) sa_nil (star_no rfl)) sk_nil rfl rfl rfl (fun h => nomatch h) (fun _ => rfl)) (fun _ => rfl))))))) (sss_one (ss_ret se_bl)) sss_nil)
    (sss_one (ss_ret (se_and (se_call (sh := ⟨3, [], [.pos 0, .pos 1, .pos 2]⟩) (ok_is_within M hD) (sh_is_within_0 M) rfl hg (hr.mono (by decide)) pass_body (by rfl) M.g_is_within M.t_is_within.kp (by decide) (sa_cons (se_ixS (pv 0) se_int (fun _ _ => rfl)) (sa_cons se_int (sa_cons se_non sa_nil (star_no rfl)) (star_no rfl)) (star_no rfl)) sk_nil rfl rfl rfl (fun h => nomatch h) (fun _ => rfl)) (se_one (se_cmp (op_eqS (un64 hr)) ops_eqS (se_call (sh := ⟨2, [], [.pos 0, .pos 1]⟩) (ok_common M hD) (sh_common_0 M) rfl hg (hr.mono (by decide)) pass_body (by rfl) M.g_common M.t_common.kp (by decide) (sa_cons (se_ixS (pv 0) se_int (fun _ _ => rfl)) (sa_cons (se_ixS (pv 0) se_int (fun _ _ => rfl)) sa_nil (star_no rfl)) (star_no rfl)) sk_nil rfl rfl rfl (fun h => nomatch h) (fun _ => rfl)) se_int (nomark _))))))))
theorem ok_above_in (M : Md K mg) (hD : base.NoDigits) : FnG P w K mg base 2 M.a_above_in M.d_above_in ["number"] (spF ⟨K, mg⟩ 1 false F_above_in) := fn_text M.t_above_in sc_above_in fun cdv A outer s H E hg hr =>
    (sss_one (ss_ret (se_if (st_tru (se_call (sh := ⟨1, [], [.pos 0]⟩) (ok_is_list M hD) (sh_is_list_0 M) rfl hg (hr.mono (by decide)) pass_body (by rfl) M.g_is_list M.t_is_list.kp (by decide) (sa_cons (se_var (pv 0)) sa_nil (star_no rfl)) sk_nil rfl rfl rfl (fun h => nomatch h) (fun _ => rfl)) (fun _ => rfl)) (se_ixS (pv 0) se_int (fun _ _ => rfl)) (se_move (pv 0)))))
theorem ok_is_from_0 (M : Md K mg) (hD : base.NoDigits) : FnG P w K mg base 4 M.a_is_from_0 M.d_is_from_0 ["value"] (spF ⟨K, mg⟩ 1 false F_is_from_0) := fn_text M.t_is_from_0 sc_is_from_0 fun cdv A outer s H E hg hr =>
    (sss_one (ss_ret (se_and (se_call (sh := ⟨1, [], [.pos 0]⟩) (ok_is_number M hD) (sh_is_number_0 M) rfl hg (hr.mono (by decide)) pass_body (by rfl) M.g_is_number M.t_is_number.kp (by decide) (sa_cons (se_var (pv 0)) sa_nil (star_no rfl)) sk_nil rfl rfl rfl (fun h => nomatch h) (fun _ => rfl)) (se_one (se_cmp op_ge ops_ge (se_call (sh := ⟨1, [], [.pos 0]⟩) (ok_above_in M hD) (sh_above_in_0 M) rfl hg (hr.mono (by decide)) pass_body (by rfl) M.g_above_in M.t_above_in.kp (by decide) (sa_cons (se_var (pv 0)) sa_nil (star_no rfl)) sk_nil rfl rfl rfl (fun h => nomatch h) (fun _ => rfl)) se_int (nomark _))))))
theorem ok_is_row (M : Md K mg) (hD : base.NoDigits) : FnG P w K mg base 5 M.a_is_row M.d_is_row ["value", "many"] (spF ⟨K, mg⟩ 2 false F_is_row) := fn_text M.t_is_row sc_is_row fun cdv A outer s H E hg hr =>
    (sss_one (ss_ret (se_and (se_call (sh := ⟨1, [], [.pos 0]⟩) (ok_is_list M hD) (sh_is_list_0 M) rfl hg (hr.mono (by decide)) pass_body (by rfl) M.g_is_list M.t_is_list.kp (by decide) (sa_cons (se_var (pv 0)) sa_nil (star_no rfl)) sk_nil rfl rfl rfl (fun h => nomatch h) (fun _ => rfl)) (se_and (se_cmp (op_eqS (un64 hr)) ops_eqS (se_callB call_len cas_len (by rfl) M.n_len (by first | exact PySem.boot_len | decide +kernel | rfl) (sa_cons (se_var (pv 0)) sa_nil (star_no rfl)) (by decide) (by decide) rfl) (se_var (pv 1)) (nomark _)) (se_one (se_callB (cr_all rfl) cas_all (by rfl) M.n_all (by first | exact PySem.boot_all | decide +kernel | rfl) (sa_cons (se_lc (own := [("each", 2)]) rfl sc_is_row.nd (si_seq (se_var (pv 0))) (blkOk_by (by rfl)) (fun _ _ _ _ _ => (sg_name (ts := (List.map (fun p : Str × Nat => p.2) [("each", 2)])) (pg_name (i := 2) sc_is_row.nd (by rfl) (by first | exact .inl rfl | exact .inr rfl)) (by decide))) (fun _ _ _ _ _ => spt_nil) (fun _ _ _ _ _ => (se_call (sh := ⟨1, [], [.pos 0]⟩) (ok_is_from_0 M hD) (sh_is_from_0_0 M) rfl hg (hr.mono (by decide)) pass_blk (by rfl) M.g_is_from_0 M.t_is_from_0.kp (by decide) (sa_cons (se_var (pv 2)) sa_nil (star_no rfl)) sk_nil rfl rfl rfl (fun h => nomatch h) (fun _ => rfl))) (fun _ => rfl)) sa_nil (star_no rfl)) (by decide) (by decide) rfl))))))
theorem ok_is_market_of (M : Md K mg) (hD : base.NoDigits) : FnG P w K mg base 6 M.a_is_market_of M.d_is_market_of ["value", "goods"] (spF ⟨K, mg⟩ 2 false F_is_market_of) := fn_text M.t_is_market_of sc_is_market_of fun cdv A outer s H E hg hr =>
    (sss_one (ss_ret (se_and (se_call (sh := ⟨1, [], [.pos 0]⟩) (ok_is_list M hD) (sh_is_list_0 M) rfl hg (hr.mono (by decide)) pass_body (by rfl) M.g_is_list M.t_is_list.kp (by decide) (sa_cons (se_var (pv 0)) sa_nil (star_no rfl)) sk_nil rfl rfl rfl (fun h => nomatch h) (fun _ => rfl)) (se_one (se_callB (cr_all rfl) cas_all (by rfl) M.n_all (by first | exact PySem.boot_all | decide +kernel | rfl) (sa_cons (se_lc (own := [("day", 2)]) rfl sc_is_market_of.nd (si_seq (se_var (pv 0))) (blkOk_by (by rfl)) (fun _ _ _ _ _ => (sg_name (ts := (List.map (fun p : Str × Nat => p.2) [("day", 2)])) (pg_name (i := 2) sc_is_market_of.nd (by rfl) (by first | exact .inl rfl | exact .inr rfl)) (by decide))) (fun _ _ _ _ _ => spt_nil) (fun _ _ _ _ _ => (se_call (sh := ⟨2, [], [.pos 0, .pos 1]⟩) (ok_is_row M hD) (sh_is_row_0 M) rfl hg (hr.mono (by decide)) pass_blk (by rfl) M.g_is_row M.t_is_row.kp (by decide) (sa_cons (se_var (pv 2)) (sa_cons (se_var (pv 1)) sa_nil (star_no rfl)) (star_no rfl)) sk_nil rfl rfl rfl (fun h => nomatch h) (fun _ => rfl))) (fun _ => rfl)) sa_nil (star_no rfl)) (by decide) (by decide) rfl)))))
theorem ok_kept (M : Md K mg) (hD : base.NoDigits) : FnG P w K mg base 1 M.a_kept M.d_kept ["number"] (spF ⟨K, mg⟩ 1 false F_kept) := fn_text M.t_kept sc_kept fun cdv A outer s H E hg hr =>
    (sss_one (ss_ret (se_if (st_tru (se_isi2 (T := "list") (U := "tuple") (by rfl) M.n_isinstance (by first | decide +kernel | rfl) (by decide) (by decide) (by rfl) M.n_list (by first | decide +kernel | rfl) (by decide) (by decide) (by rfl) M.n_tuple (by first | decide +kernel | rfl) (by decide) (by decide) (se_var (pv 0)) rfl) (fun _ => rfl)) (se_callTy call_tuple_of cas_tuple (by rfl) M.n_tuple (by first | exact PySem.boot_tuple | decide +kernel | rfl) (sa_cons (se_var (pv 0)) sa_nil (star_no rfl)) (by decide) (by decide) rfl) (se_move (pv 0)))))
theorem ok_kept_row (M : Md K mg) (hD : base.NoDigits) : FnG P w K mg base 2 M.a_kept_row M.d_kept_row ["row"] (spF ⟨K, mg⟩ 1 false F_kept_row) := fn_text M.t_kept_row sc_kept_row fun cdv A outer s H E hg hr =>
    (sss_one (ss_ret (se_callTy call_tuple_of cas_tuple (by rfl) M.n_tuple (by first | exact PySem.boot_tuple | decide +kernel | rfl) (sa_cons (se_lc (own := [("each", 1)]) rfl sc_kept_row.nd (si_seq (se_var (pv 0))) (blkOk_by (by rfl)) (fun _ _ _ _ _ => (sg_name (ts := (List.map (fun p : Str × Nat => p.2) [("each", 1)])) (pg_name (i := 1) sc_kept_row.nd (by rfl) (by first | exact .inl rfl | exact .inr rfl)) (by decide))) (fun _ _ _ _ _ => spt_nil) (fun _ _ _ _ _ => (se_call (sh := ⟨1, [], [.pos 0]⟩) (ok_kept M hD) (sh_kept_0 M) rfl hg (hr.mono (by decide)) pass_blk (by rfl) M.g_kept M.t_kept.kp (by decide) (sa_cons (se_var (pv 1)) sa_nil (star_no rfl)) sk_nil rfl rfl rfl (fun h => nomatch h) (fun _ => rfl))) (fun _ => rfl)) sa_nil (star_no rfl)) (by decide) (by decide) rfl)))
theorem ok_need_market (M : Md K mg) (hD : base.NoDigits) : FnG P w K mg base 7 M.a_need_market M.d_need_market ["value", "goods", "part"] (spF ⟨K, mg⟩ 3 false F_need_market) := fn_textD M.t_need_market sc_need_market fun cdv A outer s H E hg hr =>
    (sss_cons (ss_if (st_not (st_tru (se_call (sh := ⟨2, [], [.pos 0, .pos 1]⟩) (ok_is_market_of M hD) (sh_is_market_of_0 M) rfl hg (hr.mono (by decide)) pass_body (by rfl) M.g_is_market_of M.t_is_market_of.kp (by decide) (sa_cons (se_var (pv 0)) (sa_cons (se_var (pv 1)) sa_nil (star_no rfl)) (star_no rfl)) sk_nil rfl rfl rfl (fun h => nomatch h) (fun _ => rfl)) (fun _ => rfl))) (sss_one ss_bad) sss_nil)
    (sss_one (ss_ret (se_callTy call_tuple_of cas_tuple (by rfl) M.n_tuple (by first | exact PySem.boot_tuple | decide +kernel | rfl) (sa_cons (se_lc (own := [("day", 3)]) rfl sc_need_market.nd (si_seq (se_var (pv 0))) (blkOk_by (by rfl)) (fun _ _ _ _ _ => (sg_name (ts := (List.map (fun p : Str × Nat => p.2) [("day", 3)])) (pg_name (i := 3) sc_need_market.nd (by rfl) (by first | exact .inl rfl | exact .inr rfl)) (by decide))) (fun _ _ _ _ _ => spt_nil) (fun _ _ _ _ _ => (se_call (sh := ⟨1, [], [.pos 0]⟩) (ok_kept_row M hD) (sh_kept_row_0 M) rfl hg (hr.mono (by decide)) pass_blk (by rfl) M.g_kept_row M.t_kept_row.kp (by decide) (sa_cons (se_var (pv 3)) sa_nil (star_no rfl)) sk_nil rfl rfl rfl (fun h => nomatch h) (fun _ => rfl))) (fun _ => rfl)) sa_nil (star_no rfl)) (by decide) (by decide) rfl))))
theorem ok_is_sum_1 (M : Md K mg) (hD : base.NoDigits) : FnG P w K mg base 2 M.a_is_sum_1 M.d_is_sum_1 ["row"] (spF ⟨K, mg⟩ 1 false F_is_sum_1) := fn_text M.t_is_sum_1 sc_is_sum_1 fun cdv A outer s H E hg hr =>
    (sss_cons (ss_asg (sg_tup rfl (sgs_cons (sg_name (ts := [1, 2]) (pg_name (i := 1) sc_is_sum_1.nd (by rfl) (by first | exact .inl rfl | exact .inr rfl)) (by decide)) (sgs_cons (sg_name (ts := [1, 2]) (pg_name (i := 2) sc_is_sum_1.nd (by rfl) (by first | exact .inl rfl | exact .inr rfl)) (by decide)) sgs_nil (by rfl)) (by rfl)) (by rfl) (by rfl)) (se_tup (sa_cons se_int (sa_cons se_int sa_nil (star_no rfl)) (star_no rfl))) (by rfl) (by rfl) (by rfl))
    (sss_cons (ss_for own_body rfl (si_seq (se_var (pv 0))) (sg_name (ts := [3]) (pg_name (i := 3) sc_is_sum_1.nd (by rfl) (by first | exact .inl rfl | exact .inr rfl)) (by decide)) (sss_cons (ss_asg (sg_tup rfl (sgs_cons (sg_name (ts := [4, 5]) (pg_name (i := 4) sc_is_sum_1.nd (by rfl) (by first | exact .inl rfl | exact .inr rfl)) (by decide)) (sgs_cons (sg_name (ts := [4, 5]) (pg_name (i := 5) sc_is_sum_1.nd (by rfl) (by first | exact .inl rfl | exact .inr rfl)) (by decide)) sgs_nil (by rfl)) (by rfl)) (by rfl) (by rfl)) (se_if (st_tru (se_call (sh := ⟨1, [], [.pos 0]⟩) (ok_is_list M hD) (sh_is_list_0 M) rfl hg (hr.mono (by decide)) pass_body (by rfl) M.g_is_list M.t_is_list.kp (by decide) (sa_cons (se_var (pv 3)) sa_nil (star_no rfl)) sk_nil rfl rfl rfl (fun h => nomatch h) (fun _ => rfl)) (fun _ => rfl)) (se_tup (sa_cons (se_ixS (pv 3) se_int (fun _ _ => rfl)) (sa_cons (se_ixS (pv 3) se_int (fun _ _ => rfl)) sa_nil (star_no rfl)) (star_no rfl))) (se_tup (sa_cons (se_var (pv 3)) (sa_cons se_int sa_nil (star_no rfl)) (star_no rfl)))) (by rfl) (by rfl) (by rfl))
    (sss_one (ss_par (by decide) (ps_par rfl sc_is_sum_1.nd (by rfl) (by rfl) (by decide) (by rfl) (by rfl) (sa_cons (se_bin op_addAll ops_add (se_bin op_mulAll ops_mul (se_var (pv 1)) (se_var (pv 5))) (se_bin op_mulAll ops_mul (se_var (pv 4)) (se_var (pv 2)))) (sa_cons (se_bin op_mulAll ops_mul (se_var (pv 2)) (se_var (pv 5))) sa_nil (star_no rfl)) (star_no rfl)) (by rfl))))) (fun _ => rfl))
    (sss_one (ss_ret (se_cmp (op_eqS (un64 hr)) ops_eqS (se_var (pv 1)) (se_var (pv 2)) (nomark _))))))
theorem ok_is_mix_of (M : Md K mg) (hD : base.NoDigits) : FnG P w K mg base 6 M.a_is_mix_of M.d_is_mix_of ["value", "goods"] (spF ⟨K, mg⟩ 2 false F_is_mix_of) := fn_text M.t_is_mix_of sc_is_mix_of fun cdv A outer s H E hg hr =>
    (sss_one (ss_ret (se_and (se_call (sh := ⟨2, [], [.pos 0, .pos 1]⟩) (ok_is_row M hD) (sh_is_row_0 M) rfl hg (hr.mono (by decide)) pass_body (by rfl) M.g_is_row M.t_is_row.kp (by decide) (sa_cons (se_var (pv 0)) (sa_cons (se_var (pv 1)) sa_nil (star_no rfl)) (star_no rfl)) sk_nil rfl rfl rfl (fun h => nomatch h) (fun _ => rfl)) (se_one (se_call (sh := ⟨1, [], [.pos 0]⟩) (ok_is_sum_1 M hD) (sh_is_sum_1_0 M) rfl hg (hr.mono (by decide)) pass_body (by rfl) M.g_is_sum_1 M.t_is_sum_1.kp (by decide) (sa_cons (se_var (pv 0)) sa_nil (star_no rfl)) sk_nil rfl rfl rfl (fun h => nomatch h) (fun _ => rfl))))))
theorem ok_need_mix (M : Md K mg) (hD : base.NoDigits) : FnG P w K mg base 7 M.a_need_mix M.d_need_mix ["value", "goods", "part"] (spF ⟨K, mg⟩ 3 false F_need_mix) := fn_textD M.t_need_mix sc_need_mix fun cdv A outer s H E hg hr =>
    (sss_cons (ss_if (st_not (st_tru (se_call (sh := ⟨2, [], [.pos 0, .pos 1]⟩) (ok_is_mix_of M hD) (sh_is_mix_of_0 M) rfl hg (hr.mono (by decide)) pass_body (by rfl) M.g_is_mix_of M.t_is_mix_of.kp (by decide) (sa_cons (se_var (pv 0)) (sa_cons (se_var (pv 1)) sa_nil (star_no rfl)) (star_no rfl)) sk_nil rfl rfl rfl (fun h => nomatch h) (fun _ => rfl)) (fun _ => rfl))) (sss_one ss_bad) sss_nil)
    (sss_one (ss_ret (se_call (sh := ⟨1, [], [.pos 0]⟩) (ok_kept_row M hD) (sh_kept_row_0 M) rfl hg (hr.mono (by decide)) pass_body (by rfl) M.g_kept_row M.t_kept_row.kp (by decide) (sa_cons (se_var (pv 0)) sa_nil (star_no rfl)) sk_nil rfl rfl rfl (fun h => nomatch h) (fun _ => rfl)))))
theorem ok_choose_in (M : Md K mg) (hD : base.NoDigits) : FnG P w K mg base 1 M.a_choose_in M.d_choose_in ["many", "some"] (spF ⟨K, mg⟩ 2 false F_choose_in) := fn_text M.t_choose_in sc_choose_in fun cdv A outer s H E hg hr =>
    (sss_cons (ss_set (ps_set (i := 2) sc_choose_in.nd (by rfl) (by first | exact .inl rfl | exact .inr rfl) se_int))
    (sss_cons (ss_for own_body rfl (si_rng1 (by rfl) M.n_range (sa_cons (se_var (pv 1)) sa_nil (star_no rfl)) rfl) (sg_name (ts := [3]) (pg_name (i := 3) sc_choose_in.nd (by rfl) (by first | exact .inl rfl | exact .inr rfl)) (by decide)) (sss_one (ss_set (ps_set (i := 2) sc_choose_in.nd (by rfl) (by first | exact .inl rfl | exact .inr rfl) (se_bin op_fdivA ops_fdiv (se_bin op_mulAll ops_mul (se_var (pv 2)) (se_bin op_sub ops_sub (se_var (pv 0)) (se_var (pv 3)))) (se_bin op_addAll ops_add (se_var (pv 3)) se_int))))) (fun _ => rfl))
    (sss_one (ss_ret (se_move (pv 2))))))
theorem ok_factor_in (M : Md K mg) (hD : base.NoDigits) : FnG P w K mg base 2 M.a_factor_in M.d_factor_in ["goods", "days"] (spF ⟨K, mg⟩ 2 false F_factor_in) := fn_text M.t_factor_in sc_factor_in fun cdv A outer s H E hg hr =>
    (sss_one (ss_ret (se_call (sh := ⟨2, [], [.pos 0, .pos 1]⟩) (ok_choose_in M hD) (sh_choose_in_0 M) rfl hg (hr.mono (by decide)) pass_body (by rfl) M.g_choose_in M.t_choose_in.kp (by decide) (sa_cons (se_bin op_sub ops_sub (se_bin op_addAll ops_add (se_var (pv 1)) (se_var (pv 0))) se_int) (sa_cons (se_bin op_sub ops_sub (se_var (pv 0)) se_int) sa_nil (star_no rfl)) (star_no rfl)) sk_nil rfl rfl rfl (fun h => nomatch h) (fun _ => rfl))))
theorem ok_need_few (M : Md K mg) (hD : base.NoDigits) : FnG P w K mg base 3 M.a_need_few M.d_need_few ["goods", "market"] (spF ⟨K, mg⟩ 2 false F_need_few) := fn_text M.t_need_few sc_need_few fun cdv A outer s H E hg hr =>
    (sss_one (ss_if (st_cmp op_gt ops_gt (se_call (sh := ⟨2, [], [.pos 0, .pos 1]⟩) (ok_factor_in M hD) (sh_factor_in_0 M) rfl hg (hr.mono (by decide)) pass_body (by rfl) M.g_factor_in M.t_factor_in.kp (by decide) (sa_cons (se_var (pv 0)) (sa_cons (se_callB call_len cas_len (by rfl) M.n_len (by first | exact PySem.boot_len | decide +kernel | rfl) (sa_cons (se_var (pv 1)) sa_nil (star_no rfl)) (by decide) (by decide) rfl) sa_nil (star_no rfl)) (star_no rfl)) sk_nil rfl rfl rfl (fun h => nomatch h) (fun _ => rfl)) (se_glob (v := .int 5000) (by rfl) M.c_MOST_COUNTS ⟨_, rfl⟩ rfl (by decide)) (nomark _)) (sss_one ss_bad) sss_nil))
theorem ok_lowest (M : Md K mg) (hD : base.NoDigits) : FnG P w K mg base 2 M.a_lowest M.d_lowest ["above", "under"] (spF ⟨K, mg⟩ 2 false F_lowest) := fn_text M.t_lowest sc_lowest fun cdv A outer s H E hg hr =>
    (sss_cons (ss_set (ps_set (i := 2) sc_lowest.nd (by rfl) (by first | exact .inl rfl | exact .inr rfl) (se_call (sh := ⟨2, [], [.pos 0, .pos 1]⟩) (ok_common M hD) (sh_common_0 M) rfl hg (hr.mono (by decide)) pass_body (by rfl) M.g_common M.t_common.kp (by decide) (sa_cons (se_var (pv 0)) (sa_cons (se_var (pv 1)) sa_nil (star_no rfl)) (star_no rfl)) sk_nil rfl rfl rfl (fun h => nomatch h) (fun _ => rfl))))
    (sss_cons (ss_set (ps_set (i := 2) sc_lowest.nd (by rfl) (by first | exact .inl rfl | exact .inr rfl) (se_if (st_cmp op_lt ops_lt (se_var (pv 1)) se_int (nomark _)) (se_neg (se_var (pv 2))) (se_move (pv 2)))))
    (sss_cons (ss_par (by decide) (ps_par rfl sc_lowest.nd (by rfl) (by rfl) (by decide) (by rfl) (by rfl) (sa_cons (se_bin op_fdivA ops_fdiv (se_var (pv 0)) (se_var (pv 2))) (sa_cons (se_bin op_fdivA ops_fdiv (se_var (pv 1)) (se_var (pv 2))) sa_nil (star_no rfl)) (star_no rfl)) (by rfl)))
    (sss_one (ss_ret (se_if (st_cmp (op_eqS (un64 hr)) ops_eqS (se_var (pv 1)) se_int (nomark _)) (se_move (pv 0)) (se_tup (sa_cons (se_var (pv 0)) (sa_cons (se_var (pv 1)) sa_nil (star_no rfl)) (star_no rfl)))))))))
theorem ok_halves (M : Md K mg) (hD : base.NoDigits) : FnG P w K mg base 1 M.a_halves M.d_halves ["number"] (spF ⟨K, mg⟩ 1 false F_halves) := fn_text M.t_halves sc_halves fun cdv A outer s H E hg hr =>
    (sss_one (ss_ret (se_if (st_tru (se_isi (T := "int") (by rfl) M.n_isinstance (by first | decide +kernel | rfl) (by decide) (by decide) (by rfl) M.n_int (by first | decide +kernel | rfl) (by decide) (by decide) (se_var (pv 0)) rfl) (fun _ => rfl)) (se_tup (sa_cons (se_var (pv 0)) (sa_cons se_int sa_nil (star_no rfl)) (star_no rfl))) (se_tup (sa_cons (se_ixS (pv 0) se_int (fun _ _ => rfl)) (sa_cons (se_ixS (pv 0) se_int (fun _ _ => rfl)) sa_nil (star_no rfl)) (star_no rfl))))))
theorem ok_product (M : Md K mg) (hD : base.NoDigits) : FnG P w K mg base 3 M.a_product M.d_product ["one", "other"] (spF ⟨K, mg⟩ 2 false F_product) := fn_text M.t_product sc_product fun cdv A outer s H E hg hr =>
    (sss_cons (ss_asg (sg_tup rfl (sgs_cons (sg_tup rfl (sgs_cons (sg_name (ts := [2, 3, 4, 5]) (pg_name (i := 2) sc_product.nd (by rfl) (by first | exact .inl rfl | exact .inr rfl)) (by decide)) (sgs_cons (sg_name (ts := [2, 3, 4, 5]) (pg_name (i := 3) sc_product.nd (by rfl) (by first | exact .inl rfl | exact .inr rfl)) (by decide)) sgs_nil (by rfl)) (by rfl)) (by rfl) (by rfl)) (sgs_cons (sg_tup rfl (sgs_cons (sg_name (ts := [2, 3, 4, 5]) (pg_name (i := 4) sc_product.nd (by rfl) (by first | exact .inl rfl | exact .inr rfl)) (by decide)) (sgs_cons (sg_name (ts := [2, 3, 4, 5]) (pg_name (i := 5) sc_product.nd (by rfl) (by first | exact .inl rfl | exact .inr rfl)) (by decide)) sgs_nil (by rfl)) (by rfl)) (by rfl) (by rfl)) sgs_nil (by rfl)) (by rfl)) (by rfl) (by rfl)) (se_tup (sa_cons (se_call (sh := ⟨1, [], [.pos 0]⟩) (ok_halves M hD) (sh_halves_0 M) rfl hg (hr.mono (by decide)) pass_body (by rfl) M.g_halves M.t_halves.kp (by decide) (sa_cons (se_var (pv 0)) sa_nil (star_no rfl)) sk_nil rfl rfl rfl (fun h => nomatch h) (fun _ => rfl)) (sa_cons (se_call (sh := ⟨1, [], [.pos 0]⟩) (ok_halves M hD) (sh_halves_0 M) rfl hg (hr.mono (by decide)) pass_body (by rfl) M.g_halves M.t_halves.kp (by decide) (sa_cons (se_var (pv 1)) sa_nil (star_no rfl)) sk_nil rfl rfl rfl (fun h => nomatch h) (fun _ => rfl)) sa_nil (star_no rfl)) (star_no rfl))) (by rfl) (by rfl) (by rfl))
    (sss_one (ss_ret (se_call (sh := ⟨2, [], [.pos 0, .pos 1]⟩) (ok_lowest M hD) (sh_lowest_0 M) rfl hg (hr.mono (by decide)) pass_body (by rfl) M.g_lowest M.t_lowest.kp (by decide) (sa_cons (se_bin op_mulAll ops_mul (se_var (pv 2)) (se_var (pv 4))) (sa_cons (se_bin op_mulAll ops_mul (se_var (pv 3)) (se_var (pv 5))) sa_nil (star_no rfl)) (star_no rfl)) sk_nil rfl rfl rfl (fun h => nomatch h) (fun _ => rfl)))))
theorem ok_multiplied (M : Md K mg) (hD : base.NoDigits) : FnG P w K mg base 4 M.a_multiplied M.d_multiplied ["numbers"] (spF ⟨K, mg⟩ 1 false F_multiplied) := fn_text M.t_multiplied sc_multiplied fun cdv A outer s H E hg hr =>
    (sss_cons (ss_set (ps_set (i := 1) sc_multiplied.nd (by rfl) (by first | exact .inl rfl | exact .inr rfl) se_int))
    (sss_cons (ss_for own_body rfl (si_seq (se_var (pv 0))) (sg_name (ts := [2]) (pg_name (i := 2) sc_multiplied.nd (by rfl) (by first | exact .inl rfl | exact .inr rfl)) (by decide)) (sss_one (ss_set (ps_set (i := 1) sc_multiplied.nd (by rfl) (by first | exact .inl rfl | exact .inr rfl) (se_call (sh := ⟨2, [], [.pos 0, .pos 1]⟩) (ok_product M hD) (sh_product_0 M) rfl hg (hr.mono (by decide)) pass_body (by rfl) M.g_product M.t_product.kp (by decide) (sa_cons (se_var (pv 1)) (sa_cons (se_var (pv 2)) sa_nil (star_no rfl)) (star_no rfl)) sk_nil rfl rfl rfl (fun h => nomatch h) (fun _ => rfl))))) (fun _ => rfl))
    (sss_one (ss_ret (se_move (pv 1))))))
theorem ok_added (M : Md K mg) (hD : base.NoDigits) : FnG P w K mg base 3 M.a_added M.d_added ["one", "other"] (spF ⟨K, mg⟩ 2 false F_added) := fn_text M.t_added sc_added fun cdv A outer s H E hg hr =>
    (sss_cons (ss_asg (sg_tup rfl (sgs_cons (sg_tup rfl (sgs_cons (sg_name (ts := [2, 3, 4, 5]) (pg_name (i := 2) sc_added.nd (by rfl) (by first | exact .inl rfl | exact .inr rfl)) (by decide)) (sgs_cons (sg_name (ts := [2, 3, 4, 5]) (pg_name (i := 3) sc_added.nd (by rfl) (by first | exact .inl rfl | exact .inr rfl)) (by decide)) sgs_nil (by rfl)) (by rfl)) (by rfl) (by rfl)) (sgs_cons (sg_tup rfl (sgs_cons (sg_name (ts := [2, 3, 4, 5]) (pg_name (i := 4) sc_added.nd (by rfl) (by first | exact .inl rfl | exact .inr rfl)) (by decide)) (sgs_cons (sg_name (ts := [2, 3, 4, 5]) (pg_name (i := 5) sc_added.nd (by rfl) (by first | exact .inl rfl | exact .inr rfl)) (by decide)) sgs_nil (by rfl)) (by rfl)) (by rfl) (by rfl)) sgs_nil (by rfl)) (by rfl)) (by rfl) (by rfl)) (se_tup (sa_cons (se_call (sh := ⟨1, [], [.pos 0]⟩) (ok_halves M hD) (sh_halves_0 M) rfl hg (hr.mono (by decide)) pass_body (by rfl) M.g_halves M.t_halves.kp (by decide) (sa_cons (se_var (pv 0)) sa_nil (star_no rfl)) sk_nil rfl rfl rfl (fun h => nomatch h) (fun _ => rfl)) (sa_cons (se_call (sh := ⟨1, [], [.pos 0]⟩) (ok_halves M hD) (sh_halves_0 M) rfl hg (hr.mono (by decide)) pass_body (by rfl) M.g_halves M.t_halves.kp (by decide) (sa_cons (se_var (pv 1)) sa_nil (star_no rfl)) sk_nil rfl rfl rfl (fun h => nomatch h) (fun _ => rfl)) sa_nil (star_no rfl)) (star_no rfl))) (by rfl) (by rfl) (by rfl))
    (sss_one (ss_ret (se_call (sh := ⟨2, [], [.pos 0, .pos 1]⟩) (ok_lowest M hD) (sh_lowest_0 M) rfl hg (hr.mono (by decide)) pass_body (by rfl) M.g_lowest M.t_lowest.kp (by decide) (sa_cons (se_bin op_addAll ops_add (se_bin op_mulAll ops_mul (se_var (pv 2)) (se_var (pv 5))) (se_bin op_mulAll ops_mul (se_var (pv 4)) (se_var (pv 3)))) (sa_cons (se_bin op_mulAll ops_mul (se_var (pv 3)) (se_var (pv 5))) sa_nil (star_no rfl)) (star_no rfl)) sk_nil rfl rfl rfl (fun h => nomatch h) (fun _ => rfl)))))
theorem ok_turned (M : Md K mg) (hD : base.NoDigits) : FnG P w K mg base 2 M.a_turned M.d_turned ["number"] (spF ⟨K, mg⟩ 1 false F_turned) := fn_text M.t_turned sc_turned fun cdv A outer s H E hg hr =>
    (sss_cons (ss_asg (sg_tup rfl (sgs_cons (sg_name (ts := [1, 2]) (pg_name (i := 1) sc_turned.nd (by rfl) (by first | exact .inl rfl | exact .inr rfl)) (by decide)) (sgs_cons (sg_name (ts := [1, 2]) (pg_name (i := 2) sc_turned.nd (by rfl) (by first | exact .inl rfl | exact .inr rfl)) (by decide)) sgs_nil (by rfl)) (by rfl)) (by rfl) (by rfl)) (se_call (sh := ⟨1, [], [.pos 0]⟩) (ok_halves M hD) (sh_halves_0 M) rfl hg (hr.mono (by decide)) pass_body (by rfl) M.g_halves M.t_halves.kp (by decide) (sa_cons (se_var (pv 0)) sa_nil (star_no rfl)) sk_nil rfl rfl rfl (fun h => nomatch h) (fun _ => rfl)) (by rfl) (by rfl) (by rfl))
    (sss_one (ss_ret (se_if (st_cmp (op_eqS (un64 hr)) ops_eqS (se_var (pv 2)) se_int (nomark _)) (se_neg (se_var (pv 1))) (se_tup (sa_cons (se_neg (se_var (pv 1))) (sa_cons (se_var (pv 2)) sa_nil (star_no rfl)) (star_no rfl)))))))
theorem ok_less_by (M : Md K mg) (hD : base.NoDigits) : FnG P w K mg base 4 M.a_less_by M.d_less_by ["one", "other"] (spF ⟨K, mg⟩ 2 false F_less_by) := fn_text M.t_less_by sc_less_by fun cdv A outer s H E hg hr =>
    (sss_one (ss_ret (se_call (sh := ⟨2, [], [.pos 0, .pos 1]⟩) (ok_added M hD) (sh_added_0 M) rfl hg (hr.mono (by decide)) pass_body (by rfl) M.g_added M.t_added.kp (by decide) (sa_cons (se_var (pv 0)) (sa_cons (se_call (sh := ⟨1, [], [.pos 0]⟩) (ok_turned M hD) (sh_turned_0 M) rfl hg (hr.mono (by decide)) pass_body (by rfl) M.g_turned M.t_turned.kp (by decide) (sa_cons (se_var (pv 1)) sa_nil (star_no rfl)) sk_nil rfl rfl rfl (fun h => nomatch h) (fun _ => rfl)) sa_nil (star_no rfl)) (star_no rfl)) sk_nil rfl rfl rfl (fun h => nomatch h) (fun _ => rfl))))
theorem ok_total (M : Md K mg) (hD : base.NoDigits) : FnG P w K mg base 4 M.a_total M.d_total ["numbers"] (spF ⟨K, mg⟩ 1 false F_total) := fn_text M.t_total sc_total fun cdv A outer s H E hg hr =>
    (sss_cons (ss_set (ps_set (i := 1) sc_total.nd (by rfl) (by first | exact .inl rfl | exact .inr rfl) se_int))
    (sss_cons (ss_for own_body rfl (si_seq (se_var (pv 0))) (sg_name (ts := [2]) (pg_name (i := 2) sc_total.nd (by rfl) (by first | exact .inl rfl | exact .inr rfl)) (by decide)) (sss_one (ss_set (ps_set (i := 1) sc_total.nd (by rfl) (by first | exact .inl rfl | exact .inr rfl) (se_call (sh := ⟨2, [], [.pos 0, .pos 1]⟩) (ok_added M hD) (sh_added_0 M) rfl hg (hr.mono (by decide)) pass_body (by rfl) M.g_added M.t_added.kp (by decide) (sa_cons (se_var (pv 1)) (sa_cons (se_var (pv 2)) sa_nil (star_no rfl)) (star_no rfl)) sk_nil rfl rfl rfl (fun h => nomatch h) (fun _ => rfl))))) (fun _ => rfl))
    (sss_one (ss_ret (se_move (pv 1))))))
theorem ok_summed (M : Md K mg) (hD : base.NoDigits) : FnG P w K mg base 5 M.a_summed M.d_summed ["row", "other"] (spF ⟨K, mg⟩ 2 false F_summed) := fn_text M.t_summed sc_summed fun cdv A outer s H E hg hr =>
    (sss_one (ss_ret (se_call (sh := ⟨1, [], [.pos 0]⟩) (ok_total M hD) (sh_total_0 M) rfl hg (hr.mono (by decide)) pass_body (by rfl) M.g_total M.t_total.kp (by decide) (sa_cons (se_lc (own := [("one", 2), ("its", 3)]) rfl sc_summed.nd (si_zip (by rfl) M.n_zip (sa_cons (se_var (pv 0)) (sa_cons (se_var (pv 1)) sa_nil (star_no rfl)) (star_no rfl)) rfl rfl) (blkOk_by (by rfl)) (fun _ _ _ _ _ => (sg_tup rfl (sgs_cons (sg_name (ts := (List.map (fun p : Str × Nat => p.2) [("one", 2), ("its", 3)])) (pg_name (i := 2) sc_summed.nd (by rfl) (by first | exact .inl rfl | exact .inr rfl)) (by decide)) (sgs_cons (sg_name (ts := (List.map (fun p : Str × Nat => p.2) [("one", 2), ("its", 3)])) (pg_name (i := 3) sc_summed.nd (by rfl) (by first | exact .inl rfl | exact .inr rfl)) (by decide)) sgs_nil (by rfl)) (by rfl)) (by rfl) (by rfl))) (fun _ _ _ _ _ => spt_nil) (fun _ _ _ _ _ => (se_call (sh := ⟨2, [], [.pos 0, .pos 1]⟩) (ok_product M hD) (sh_product_0 M) rfl hg (hr.mono (by decide)) pass_blk (by rfl) M.g_product M.t_product.kp (by decide) (sa_cons (se_var (pv 2)) (sa_cons (se_var (pv 3)) sa_nil (star_no rfl)) (star_no rfl)) sk_nil rfl rfl rfl (fun h => nomatch h) (fun _ => rfl))) (fun _ => rfl)) sa_nil (star_no rfl)) sk_nil rfl rfl rfl (fun h => nomatch h) (fun _ => rfl))))
theorem ok_factorial (M : Md K mg) (hD : base.NoDigits) : FnG P w K mg base 1 M.a_factorial M.d_factorial ["number"] (spF ⟨K, mg⟩ 1 false F_factorial) := fn_text M.t_factorial sc_factorial fun cdv A outer s H E hg hr =>
    (sss_cons (ss_set (ps_set (i := 1) sc_factorial.nd (by rfl) (by first | exact .inl rfl | exact .inr rfl) se_int))
    (sss_cons (ss_for own_body rfl (si_rng2 (by rfl) M.n_range (sa_cons se_int (sa_cons (se_bin op_addAll ops_add (se_var (pv 0)) se_int) sa_nil (star_no rfl)) (star_no rfl)) rfl rfl) (sg_name (ts := [2]) (pg_name (i := 2) sc_factorial.nd (by rfl) (by first | exact .inl rfl | exact .inr rfl)) (by decide)) (sss_one (ss_set (ps_set (i := 1) sc_factorial.nd (by rfl) (by first | exact .inl rfl | exact .inr rfl) (se_bin op_mulAll ops_mul (se_var (pv 1)) (se_var (pv 2)))))) (fun _ => rfl))
    (sss_one (ss_ret (se_move (pv 1))))))
theorem ok_weight_in (M : Md K mg) (hD : base.NoDigits) : FnG P w K mg base 3 M.a_weight_in M.d_weight_in ["counts"] (spF ⟨K, mg⟩ 1 false F_weight_in) := fn_text M.t_weight_in sc_weight_in fun cdv A outer s H E hg hr =>
    (sss_cons (ss_set (ps_set (i := 1) sc_weight_in.nd (by rfl) (by first | exact .inl rfl | exact .inr rfl) (se_call (sh := ⟨1, [], [.pos 0]⟩) (ok_factorial M hD) (sh_factorial_0 M) rfl hg (hr.mono (by decide)) pass_body (by rfl) M.g_factorial M.t_factorial.kp (by decide) (sa_cons (se_bin op_sub ops_sub (se_callB call_len cas_len (by rfl) M.n_len (by first | exact PySem.boot_len | decide +kernel | rfl) (sa_cons (se_var (pv 0)) sa_nil (star_no rfl)) (by decide) (by decide) rfl) se_int) sa_nil (star_no rfl)) sk_nil rfl rfl rfl (fun h => nomatch h) (fun _ => rfl))))
    (sss_cons (ss_for own_body rfl (si_seq (se_var (pv 0))) (sg_name (ts := [2]) (pg_name (i := 2) sc_weight_in.nd (by rfl) (by first | exact .inl rfl | exact .inr rfl)) (by decide)) (sss_one (ss_set (ps_set (i := 1) sc_weight_in.nd (by rfl) (by first | exact .inl rfl | exact .inr rfl) (se_bin op_mulAll ops_mul (se_var (pv 1)) (se_call (sh := ⟨1, [], [.pos 0]⟩) (ok_factorial M hD) (sh_factorial_0 M) rfl hg (hr.mono (by decide)) pass_body (by rfl) M.g_factorial M.t_factorial.kp (by decide) (sa_cons (se_var (pv 2)) sa_nil (star_no rfl)) sk_nil rfl rfl rfl (fun h => nomatch h) (fun _ => rfl)))))) (fun _ => rfl))
    (sss_one (ss_ret (se_call (sh := ⟨2, [], [.pos 0, .pos 1]⟩) (ok_lowest M hD) (sh_lowest_0 M) rfl hg (hr.mono (by decide)) pass_body (by rfl) M.g_lowest M.t_lowest.kp (by decide) (sa_cons (se_var (pv 1)) (sa_cons (se_call (sh := ⟨1, [], [.pos 0]⟩) (ok_factorial M hD) (sh_factorial_0 M) rfl hg (hr.mono (by decide)) pass_body (by rfl) M.g_factorial M.t_factorial.kp (by decide) (sa_cons (se_bin op_sub ops_sub (se_bin op_addAll ops_add (se_callB (sum_all rfl) cas_sum (by rfl) M.n_sum (by first | exact PySem.boot_sum | decide +kernel | rfl) (sa_cons (se_var (pv 0)) sa_nil (star_no rfl)) (by decide) (by decide) rfl) (se_callB call_len cas_len (by rfl) M.n_len (by first | exact PySem.boot_len | decide +kernel | rfl) (sa_cons (se_var (pv 0)) sa_nil (star_no rfl)) (by decide) (by decide) rfl)) se_int) sa_nil (star_no rfl)) sk_nil rfl rfl rfl (fun h => nomatch h) (fun _ => rfl)) sa_nil (star_no rfl)) (star_no rfl)) sk_nil rfl rfl rfl (fun h => nomatch h) (fun _ => rfl))))))
theorem ok_with_one (M : Md K mg) (hD : base.NoDigits) : FnG P w K mg base 1 M.a_with_one M.d_with_one ["counts", "good"] (spF ⟨K, mg⟩ 2 false F_with_one) := fn_text M.t_with_one sc_with_one fun cdv A outer s H E hg hr =>
    (sss_one (ss_ret (se_tup (sa_star (se_sl (se_var (pv 0)) so_none (so_some (se_var (pv 1)))) (sa_cons (se_bin op_addAll ops_add (se_ixS (pv 0) (se_var (pv 1)) (fun _ _ => rfl)) se_int) (sa_star (se_sl (se_var (pv 0)) (so_some (se_bin op_addAll ops_add (se_var (pv 1)) se_int)) so_none) sa_nil) (star_no rfl))))))
theorem ok_grouped (M : Md K mg) (hD : base.NoDigits) : FnG P w K mg base 4 M.a_grouped M.d_grouped ["goods", "market"] (spF ⟨K, mg⟩ 2 false F_grouped) := fn_text M.t_grouped sc_grouped fun cdv A outer s H E hg hr =>
    (sss_cons (ss_set (ps_set (i := 2) sc_grouped.nd (by rfl) (by first | exact .inl rfl | exact .inr rfl) (se_disp1 (un1 hr) (se_callTy call_tuple_of cas_tuple (by rfl) M.n_tuple (by first | exact PySem.boot_tuple | decide +kernel | rfl) (sa_cons (se_lc (own := [("_", 9)]) rfl sc_grouped.nd (si_rng1 (by rfl) M.n_range (sa_cons (se_var (pv 0)) sa_nil (star_no rfl)) rfl) (blkOk_by (by rfl)) (fun _ _ _ _ _ => (sg_name (ts := (List.map (fun p : Str × Nat => p.2) [("_", 9)])) (pg_name (i := 9) sc_grouped.nd (by rfl) (by first | exact .inl rfl | exact .inr rfl)) (by decide))) (fun _ _ _ _ _ => spt_nil) (fun _ _ _ _ _ => se_int) (fun _ => rfl)) sa_nil (star_no rfl)) (by decide) (by decide) rfl) se_int)))
    (sss_cons (ss_for own_body rfl (si_seq (se_var (pv 1))) (sg_name (ts := [3]) (pg_name (i := 3) sc_grouped.nd (by rfl) (by first | exact .inl rfl | exact .inr rfl)) (by decide)) (sss_cons (ss_set (ps_set (i := 4) sc_grouped.nd (by rfl) (by first | exact .inl rfl | exact .inr rfl) se_dnew))
    (sss_cons (ss_for own_body rfl (si_itmS (pv 2) (by rfl) (by rfl)) (sg_tup rfl (sgs_cons (sg_name (ts := [5, 6]) (pg_name (i := 5) sc_grouped.nd (by rfl) (by first | exact .inl rfl | exact .inr rfl)) (by decide)) (sgs_cons (sg_name (ts := [5, 6]) (pg_name (i := 6) sc_grouped.nd (by rfl) (by first | exact .inl rfl | exact .inr rfl)) (by decide)) sgs_nil (by rfl)) (by rfl)) (by rfl) (by rfl)) (sss_one (ss_for own_body rfl (si_rng1 (by rfl) M.n_range (sa_cons (se_var (pv 0)) sa_nil (star_no rfl)) rfl) (sg_name (ts := [7]) (pg_name (i := 7) sc_grouped.nd (by rfl) (by first | exact .inl rfl | exact .inr rfl)) (by decide)) (sss_cons (ss_set (ps_set (i := 8) sc_grouped.nd (by rfl) (by first | exact .inl rfl | exact .inr rfl) (se_call (sh := ⟨2, [], [.pos 0, .pos 1]⟩) (ok_with_one M hD) (sh_with_one_0 M) rfl hg (hr.mono (by decide)) pass_body (by rfl) M.g_with_one M.t_with_one.kp (by decide) (sa_cons (se_var (pv 5)) (sa_cons (se_var (pv 7)) sa_nil (star_no rfl)) (star_no rfl)) sk_nil rfl rfl rfl (fun h => nomatch h) (fun _ => rfl))))
    (sss_one (ss_dput (un1 hr) (pv 4) (se_var (pv 8)) (se_call (sh := ⟨2, [], [.pos 0, .pos 1]⟩) (ok_added M hD) (sh_added_0 M) rfl hg (hr.mono (by decide)) pass_body (by rfl) M.g_added M.t_added.kp (by decide) (sa_cons (se_dget (un1 hr) (pv 4) (se_var (pv 8)) se_int ⟨by rfl, by rfl, by rfl, by rfl⟩) (sa_cons (se_call (sh := ⟨2, [], [.pos 0, .pos 1]⟩) (ok_product M hD) (sh_product_0 M) rfl hg (hr.mono (by decide)) pass_body (by rfl) M.g_product M.t_product.kp (by decide) (sa_cons (se_var (pv 6)) (sa_cons (se_ixS (pv 3) (se_var (pv 7)) (fun _ _ => rfl)) sa_nil (star_no rfl)) (star_no rfl)) sk_nil rfl rfl rfl (fun h => nomatch h) (fun _ => rfl)) sa_nil (star_no rfl)) (star_no rfl)) sk_nil rfl rfl rfl (fun h => nomatch h) (fun _ => rfl)) (by rfl)))) (fun _ => rfl))) (fun _ => rfl))
    (sss_one (ss_set (ps_set (i := 2) sc_grouped.nd (by rfl) (by first | exact .inl rfl | exact .inr rfl) (se_move (pv 4))))))) (fun _ => rfl))
    (sss_one (ss_ret (se_move (pv 2))))))
theorem ok_purse_in (M : Md K mg) (hD : base.NoDigits) : FnG P w K mg base 5 M.a_purse_in M.d_purse_in ["goods", "market"] (spF ⟨K, mg⟩ 2 false F_purse_in) := fn_text M.t_purse_in sc_purse_in fun cdv A outer s H E hg hr =>
    (sss_one (ss_ret (se_call (sh := ⟨1, [], [.pos 0]⟩) (ok_total M hD) (sh_total_0 M) rfl hg (hr.mono (by decide)) pass_body (by rfl) M.g_total M.t_total.kp (by decide) (sa_cons (se_lc (own := [("counts", 2), ("number", 3)]) rfl sc_purse_in.nd (si_itmF (se_call (sh := ⟨2, [], [.pos 0, .pos 1]⟩) (ok_grouped M hD) (sh_grouped_0 M) rfl hg (hr.mono (by decide)) pass_body (by rfl) M.g_grouped M.t_grouped.kp (by decide) (sa_cons (se_var (pv 0)) (sa_cons (se_var (pv 1)) sa_nil (star_no rfl)) (star_no rfl)) sk_nil rfl rfl rfl (fun h => nomatch h) (fun _ => rfl)) (by rfl) (by rfl)) (blkOk_by (by rfl)) (fun _ _ _ _ _ => (sg_tup rfl (sgs_cons (sg_name (ts := (List.map (fun p : Str × Nat => p.2) [("counts", 2), ("number", 3)])) (pg_name (i := 2) sc_purse_in.nd (by rfl) (by first | exact .inl rfl | exact .inr rfl)) (by decide)) (sgs_cons (sg_name (ts := (List.map (fun p : Str × Nat => p.2) [("counts", 2), ("number", 3)])) (pg_name (i := 3) sc_purse_in.nd (by rfl) (by first | exact .inl rfl | exact .inr rfl)) (by decide)) sgs_nil (by rfl)) (by rfl)) (by rfl) (by rfl))) (fun _ _ _ _ _ => spt_nil) (fun _ _ _ _ _ => (se_call (sh := ⟨2, [], [.pos 0, .pos 1]⟩) (ok_product M hD) (sh_product_0 M) rfl hg (hr.mono (by decide)) pass_blk (by rfl) M.g_product M.t_product.kp (by decide) (sa_cons (se_var (pv 3)) (sa_cons (se_call (sh := ⟨1, [], [.pos 0]⟩) (ok_weight_in M hD) (sh_weight_in_0 M) rfl hg (hr.mono (by decide)) pass_blk (by rfl) M.g_weight_in M.t_weight_in.kp (by decide) (sa_cons (se_var (pv 2)) sa_nil (star_no rfl)) sk_nil rfl rfl rfl (fun h => nomatch h) (fun _ => rfl)) sa_nil (star_no rfl)) (star_no rfl)) sk_nil rfl rfl rfl (fun h => nomatch h) (fun _ => rfl))) (fun _ => rfl)) sa_nil (star_no rfl)) sk_nil rfl rfl rfl (fun h => nomatch h) (fun _ => rfl))))
theorem ok_even_spare (M : Md K mg) (hD : base.NoDigits) : FnG P w K mg base 8 M.a_even_spare M.d_even_spare ["goods", "market", "shares"] (spF ⟨K, mg⟩ 3 false F_even_spare) := fn_text M.t_even_spare sc_even_spare fun cdv A outer s H E hg hr =>
    (sss_cons (ss_expr (se_call (sh := ⟨1, [], [.pos 0]⟩) (ok_need_goods M hD) (sh_need_goods_0 M) rfl hg (hr.mono (by decide)) pass_body (by rfl) M.g_need_goods M.t_need_goods.kp (by decide) (sa_cons (se_var (pv 0)) sa_nil (star_no rfl)) sk_nil rfl rfl rfl (fun h => nomatch h) (fun _ => rfl)) (by rfl))
    (sss_cons (ss_set (ps_set (i := 3) sc_even_spare.nd (by rfl) (by first | exact .inl rfl | exact .inr rfl) (se_call (sh := ⟨2, [], [.pos 0, .pos 1, .cst 0 (.str "market")]⟩) (ok_need_market M hD) (sh_need_market_0 M).choose_spec rfl hg (hr.mono (by decide)) pass_body (by rfl) M.g_need_market M.t_need_market.kp (by decide) (sa_cons (se_var (pv 1)) (sa_cons (se_var (pv 0)) sa_nil (star_no rfl)) (star_no rfl)) sk_nil rfl rfl rfl (fun h => nomatch h) (fun _ => rfl))))
    (sss_cons (ss_set (ps_set (i := 4) sc_even_spare.nd (by rfl) (by first | exact .inl rfl | exact .inr rfl) (se_call (sh := ⟨2, [], [.pos 0, .pos 1, .cst 0 (.str "shares")]⟩) (ok_need_mix M hD) (sh_need_mix_0 M).choose_spec rfl hg (hr.mono (by decide)) pass_body (by rfl) M.g_need_mix M.t_need_mix.kp (by decide) (sa_cons (se_var (pv 2)) (sa_cons (se_var (pv 0)) sa_nil (star_no rfl)) (star_no rfl)) sk_nil rfl rfl rfl (fun h => nomatch h) (fun _ => rfl))))
    (sss_cons (ss_expr (se_call (sh := ⟨2, [], [.pos 0, .pos 1]⟩) (ok_need_few M hD) (sh_need_few_0 M) rfl hg (hr.mono (by decide)) pass_body (by rfl) M.g_need_few M.t_need_few.kp (by decide) (sa_cons (se_var (pv 0)) (sa_cons (se_var (pv 3)) sa_nil (star_no rfl)) (star_no rfl)) sk_nil rfl rfl rfl (fun h => nomatch h) (fun _ => rfl)) (by rfl))
    (sss_cons (ss_set (ps_set (i := 5) sc_even_spare.nd (by rfl) (by first | exact .inl rfl | exact .inr rfl) (se_call (sh := ⟨1, [], [.pos 0]⟩) (ok_multiplied M hD) (sh_multiplied_0 M) rfl hg (hr.mono (by decide)) pass_body (by rfl) M.g_multiplied M.t_multiplied.kp (by decide) (sa_cons (se_lc (own := [("day", 6)]) rfl sc_even_spare.nd (si_seq (se_var (pv 3))) (blkOk_by (by rfl)) (fun _ _ _ _ _ => (sg_name (ts := (List.map (fun p : Str × Nat => p.2) [("day", 6)])) (pg_name (i := 6) sc_even_spare.nd (by rfl) (by first | exact .inl rfl | exact .inr rfl)) (by decide))) (fun _ _ _ _ _ => spt_nil) (fun _ _ _ _ _ => (se_call (sh := ⟨2, [], [.pos 0, .pos 1]⟩) (ok_summed M hD) (sh_summed_0 M) rfl hg (hr.mono (by decide)) pass_blk (by rfl) M.g_summed M.t_summed.kp (by decide) (sa_cons (se_var (pv 4)) (sa_cons (se_var (pv 6)) sa_nil (star_no rfl)) (star_no rfl)) sk_nil rfl rfl rfl (fun h => nomatch h) (fun _ => rfl))) (fun _ => rfl)) sa_nil (star_no rfl)) sk_nil rfl rfl rfl (fun h => nomatch h) (fun _ => rfl))))
    (sss_one (ss_ret (se_call (sh := ⟨2, [], [.pos 0, .pos 1]⟩) (ok_less_by M hD) (sh_less_by_0 M) rfl hg (hr.mono (by decide)) pass_body (by rfl) M.g_less_by M.t_less_by.kp (by decide) (sa_cons (se_call (sh := ⟨2, [], [.pos 0, .pos 1]⟩) (ok_product M hD) (sh_product_0 M) rfl hg (hr.mono (by decide)) pass_body (by rfl) M.g_product M.t_product.kp (by decide) (sa_cons (se_call (sh := ⟨2, [], [.pos 0, .pos 1]⟩) (ok_purse_in M hD) (sh_purse_in_0 M) rfl hg (hr.mono (by decide)) pass_body (by rfl) M.g_purse_in M.t_purse_in.kp (by decide) (sa_cons (se_var (pv 0)) (sa_cons (se_var (pv 3)) sa_nil (star_no rfl)) (star_no rfl)) sk_nil rfl rfl rfl (fun h => nomatch h) (fun _ => rfl)) (sa_cons (se_call (sh := ⟨2, [], [.pos 0, .pos 1]⟩) (ok_factor_in M hD) (sh_factor_in_0 M) rfl hg (hr.mono (by decide)) pass_body (by rfl) M.g_factor_in M.t_factor_in.kp (by decide) (sa_cons (se_var (pv 0)) (sa_cons (se_callB call_len cas_len (by rfl) M.n_len (by first | exact PySem.boot_len | decide +kernel | rfl) (sa_cons (se_var (pv 3)) sa_nil (star_no rfl)) (by decide) (by decide) rfl) sa_nil (star_no rfl)) (star_no rfl)) sk_nil rfl rfl rfl (fun h => nomatch h) (fun _ => rfl)) sa_nil (star_no rfl)) (star_no rfl)) sk_nil rfl rfl rfl (fun h => nomatch h) (fun _ => rfl)) (sa_cons (se_var (pv 5)) sa_nil (star_no rfl)) (star_no rfl)) sk_nil rfl rfl rfl (fun h => nomatch h) (fun _ => rfl)))))))))
theorem ok__law_words (M : Md K mg) (hD : base.NoDigits) : FnG P w K mg base 1 M.a__law_words M.d__law_words ["_law_goods", "_law_days"] (spF ⟨K, mg⟩ 2 false F__law_words) := fn_text M.t__law_words sc__law_words fun cdv A outer s H E hg hr =>
    (sss_cons (ss_set (ps_set (i := 2) sc__law_words.nd (by rfl) (by first | exact .inl rfl | exact .inr rfl) (se_lst (sa_cons (se_tup sa_nil) sa_nil (star_no rfl)))))
    (sss_cons (ss_for own_body rfl (si_rng1 (by rfl) M.n_range (sa_cons (se_var (pv 1)) sa_nil (star_no rfl)) rfl) (sg_name (ts := [3]) (pg_name (i := 3) sc__law_words.nd (by rfl) (by first | exact .inl rfl | exact .inr rfl)) (by decide)) (sss_cons (ss_set (ps_set (i := 4) sc__law_words.nd (by rfl) (by first | exact .inl rfl | exact .inr rfl) (se_lst sa_nil)))
    (sss_cons (ss_for own_body rfl (si_seq (se_var (pv 2))) (sg_name (ts := [5]) (pg_name (i := 5) sc__law_words.nd (by rfl) (by first | exact .inl rfl | exact .inr rfl)) (by decide)) (sss_one (ss_ext (ps_expr (pe_bm PySem.F.plainAttrs_list PySem.F.slot_list_extend PySem.F.type_list_extend mt_extend (pv 4) (pa_cons (se_lc (own := [("_law_good", 6)]) rfl sc__law_words.nd (si_rng1 (by rfl) M.n_range (sa_cons (se_var (pv 0)) sa_nil (star_no rfl)) rfl) (blkOk_by (by rfl)) (fun _ _ _ _ _ => (sg_name (ts := (List.map (fun p : Str × Nat => p.2) [("_law_good", 6)])) (pg_name (i := 6) sc__law_words.nd (by rfl) (by first | exact .inl rfl | exact .inr rfl)) (by decide))) (fun _ _ _ _ _ => spt_nil) (fun _ _ _ _ _ => (se_bin op_addAll ops_add (se_var (pv 5)) (se_tup (sa_cons (se_var (pv 6)) sa_nil (star_no rfl))))) (fun _ => rfl)) pa_nil (star_no rfl)))))) (fun _ => rfl))
    (sss_one (ss_set (ps_set (i := 2) sc__law_words.nd (by rfl) (by first | exact .inl rfl | exact .inr rfl) (se_move (pv 4))))))) (fun _ => rfl))
    (sss_one (ss_ret (se_move (pv 2))))))
theorem ok__law_price (M : Md K mg) (hD : base.NoDigits) : FnG P w K mg base 4 M.a__law_price M.d__law_price ["_law_goods", "_law_days"] (spF ⟨K, mg⟩ 2 false F__law_price) := fn_text M.t__law_price sc__law_price fun cdv A outer s H E hg hr =>
    (sss_cons (ss_set (ps_set (i := 2) sc__law_price.nd (by rfl) (by first | exact .inl rfl | exact .inr rfl) (se_lst sa_nil)))
    (sss_cons (ss_for own_body rfl (si_seq (se_call (sh := ⟨2, [], [.pos 0, .pos 1]⟩) (ok__law_words M hD) (sh__law_words_0 M) rfl hg (hr.mono (by decide)) pass_body (by rfl) M.g__law_words M.t__law_words.kp (by decide) (sa_cons (se_var (pv 0)) (sa_cons (se_var (pv 1)) sa_nil (star_no rfl)) (star_no rfl)) sk_nil rfl rfl rfl (fun h => nomatch h) (fun _ => rfl))) (sg_name (ts := [3]) (pg_name (i := 3) sc__law_price.nd (by rfl) (by first | exact .inl rfl | exact .inr rfl)) (by decide)) (sss_cons (ss_set (ps_set (i := 4) sc__law_price.nd (by rfl) (by first | exact .inl rfl | exact .inr rfl) (se_tup (sa_cons se_int (sa_cons se_int sa_nil (star_no rfl)) (star_no rfl)))))
    (sss_cons (ss_for own_body rfl (si_seq (se_var (pv 3))) (sg_name (ts := [5]) (pg_name (i := 5) sc__law_price.nd (by rfl) (by first | exact .inl rfl | exact .inr rfl)) (by decide)) (sss_one (ss_set (ps_set (i := 4) sc__law_price.nd (by rfl) (by first | exact .inl rfl | exact .inr rfl) (se_call (sh := ⟨2, [], [.pos 0, .pos 1]⟩) (ok__law_times M hD) (sh__law_times_0 M) rfl hg (hr.mono (by decide)) pass_body (by rfl) M.g__law_times M.t__law_times.kp (by decide) (sa_cons (se_var (pv 4)) (sa_cons (se_tup (sa_cons (se_callB call_len cas_len (by rfl) M.n_len (by first | exact PySem.boot_len | decide +kernel | rfl) (sa_cons (se_lc (own := [("_law_its", 6)]) rfl sc__law_price.nd (si_seq (se_var (pv 3))) (blkOk_by (by rfl)) (fun _ _ _ _ _ => (sg_name (ts := (List.map (fun p : Str × Nat => p.2) [("_law_its", 6)])) (pg_name (i := 6) sc__law_price.nd (by rfl) (by first | exact .inl rfl | exact .inr rfl)) (by decide))) (fun _ _ _ _ _ => (spt_one (st_cmp (op_eqS (un64 hr)) ops_eqS (se_var (pv 6)) (se_var (pv 5)) (nomark _)))) (fun _ _ _ _ _ => se_int) (fun _ => rfl)) sa_nil (star_no rfl)) (by decide) (by decide) rfl) (sa_cons (se_var (pv 1)) sa_nil (star_no rfl)) (star_no rfl))) sa_nil (star_no rfl)) (star_no rfl)) sk_nil rfl rfl rfl (fun h => nomatch h) (fun _ => rfl))))) (fun _ => rfl))
    (sss_one (ss_app (ps_expr (pe_bm PySem.F.plainAttrs_list PySem.F.slot_list_append PySem.F.type_list_append mt_append (pv 2) (pa_cons (se_var (pv 4)) pa_nil (star_no rfl)))))))) (fun _ => rfl))
    (sss_one (ss_ret (se_call (sh := ⟨1, [], [.pos 0]⟩) (ok__law_sum M hD) (sh__law_sum_0 M) rfl hg (hr.mono (by decide)) pass_body (by rfl) M.g__law_sum M.t__law_sum.kp (by decide) (sa_cons (se_var (pv 2)) sa_nil (star_no rfl)) sk_nil rfl rfl rfl (fun h => nomatch h) (fun _ => rfl))))))
theorem ok__law_day (M : Md K mg) (hD : base.NoDigits) : FnG P w K mg base 3 M.a__law_day M.d__law_day ["_law_pen_here", "_law_goods"] (spF ⟨K, mg⟩ 2 true F__law_day) := fn_text M.t__law_day sc__law_day fun cdv A outer s H E hg hr =>
    (sss_one (ss_ret (se_lc (own := [("_law_good", 2)]) rfl sc__law_day.nd (si_rng1 (by rfl) M.n_range (sa_cons (se_var (pv 1)) sa_nil (star_no rfl)) rfl) (blkOk_by (by rfl)) (fun _ _ _ _ _ => (sg_name (ts := (List.map (fun p : Str × Nat => p.2) [("_law_good", 2)])) (pg_name (i := 2) sc__law_day.nd (by rfl) (by first | exact .inl rfl | exact .inr rfl)) (by decide))) (fun _ _ _ _ _ => spt_nil) (fun _ _ _ _ _ => (se_callIo (ok__law_one_of M hD) (binds_of M.t__law_one_of 2 fun _ _ _ _ _ _ us hl => match us, hl with | [_, _], _ => rfl) hg (hr.mono (by decide)) pass_blk (by rfl) M.g__law_one_of M.t__law_one_of.kp (by decide) (pv 0) (sa_cons (se_lst (sa_cons (se_tup (sa_cons se_int (sa_cons se_int sa_nil (star_no rfl)) (star_no rfl))) (sa_cons (se_tup (sa_cons se_int (sa_cons se_int sa_nil (star_no rfl)) (star_no rfl))) (sa_cons (se_tup (sa_cons se_int (sa_cons se_int sa_nil (star_no rfl)) (star_no rfl))) (sa_cons (se_tup (sa_cons se_int (sa_cons se_int sa_nil (star_no rfl)) (star_no rfl))) (sa_cons (se_tup (sa_cons se_int (sa_cons se_int sa_nil (star_no rfl)) (star_no rfl))) (sa_cons (se_tup (sa_cons (se_callIo (ok__law_draw M hD) (binds_of M.t__law_draw 2 fun _ _ _ _ _ _ us hl => match us, hl with | [_, _], _ => rfl) hg (hr.mono (by decide)) pass_blk (by rfl) M.g__law_draw M.t__law_draw.kp (by decide) (pv 0) (sa_cons se_int sa_nil (star_no rfl)) rfl) (sa_cons se_int sa_nil (star_no rfl)) (star_no rfl))) (sa_cons (se_tup (sa_cons (se_bin op_addAll ops_add (se_bin op_pow ops_pow se_int se_int) se_int) (sa_cons se_int sa_nil (star_no rfl)) (star_no rfl))) sa_nil (star_no rfl)) (star_no rfl)) (star_no rfl)) (star_no rfl)) (star_no rfl)) (star_no rfl)) (star_no rfl))) sa_nil (star_no rfl)) rfl)) (fun _ => rfl))))
theorem ok__law_paid (M : Md K mg) (hD : base.NoDigits) : FnG P w K mg base 4 M.a__law_paid M.d__law_paid ["_law_shares", "_law_day_here"] (spF ⟨K, mg⟩ 2 false F__law_paid) := fn_text M.t__law_paid sc__law_paid fun cdv A outer s H E hg hr =>
    (sss_one (ss_ret (se_call (sh := ⟨1, [], [.pos 0]⟩) (ok__law_sum M hD) (sh__law_sum_0 M) rfl hg (hr.mono (by decide)) pass_body (by rfl) M.g__law_sum M.t__law_sum.kp (by decide) (sa_cons (se_lc (own := [("_law_share", 2), ("_law_number_here", 3)]) rfl sc__law_paid.nd (si_zip (by rfl) M.n_zip (sa_cons (se_var (pv 0)) (sa_cons (se_var (pv 1)) sa_nil (star_no rfl)) (star_no rfl)) rfl rfl) (blkOk_by (by rfl)) (fun _ _ _ _ _ => (sg_tup rfl (sgs_cons (sg_name (ts := (List.map (fun p : Str × Nat => p.2) [("_law_share", 2), ("_law_number_here", 3)])) (pg_name (i := 2) sc__law_paid.nd (by rfl) (by first | exact .inl rfl | exact .inr rfl)) (by decide)) (sgs_cons (sg_name (ts := (List.map (fun p : Str × Nat => p.2) [("_law_share", 2), ("_law_number_here", 3)])) (pg_name (i := 3) sc__law_paid.nd (by rfl) (by first | exact .inl rfl | exact .inr rfl)) (by decide)) sgs_nil (by rfl)) (by rfl)) (by rfl) (by rfl))) (fun _ _ _ _ _ => spt_nil) (fun _ _ _ _ _ => (se_call (sh := ⟨2, [], [.pos 0, .pos 1]⟩) (ok__law_times M hD) (sh__law_times_0 M) rfl hg (hr.mono (by decide)) pass_blk (by rfl) M.g__law_times M.t__law_times.kp (by decide) (sa_cons (se_var (pv 2)) (sa_cons (se_var (pv 3)) sa_nil (star_no rfl)) (star_no rfl)) sk_nil rfl rfl rfl (fun h => nomatch h) (fun _ => rfl))) (fun _ => rfl)) sa_nil (star_no rfl)) sk_nil rfl rfl rfl (fun h => nomatch h) (fun _ => rfl))))
theorem ok__law_worth (M : Md K mg) (hD : base.NoDigits) : FnG P w K mg base 5 M.a__law_worth M.d__law_worth ["_law_shares", "_law_market"] (spF ⟨K, mg⟩ 2 false F__law_worth) := fn_text M.t__law_worth sc__law_worth fun cdv A outer s H E hg hr =>
    (sss_cons (ss_set (ps_set (i := 2) sc__law_worth.nd (by rfl) (by first | exact .inl rfl | exact .inr rfl) (se_tup (sa_cons se_int (sa_cons se_int sa_nil (star_no rfl)) (star_no rfl)))))
    (sss_cons (ss_for own_body rfl (si_seq (se_var (pv 1))) (sg_name (ts := [3]) (pg_name (i := 3) sc__law_worth.nd (by rfl) (by first | exact .inl rfl | exact .inr rfl)) (by decide)) (sss_one (ss_set (ps_set (i := 2) sc__law_worth.nd (by rfl) (by first | exact .inl rfl | exact .inr rfl) (se_call (sh := ⟨2, [], [.pos 0, .pos 1]⟩) (ok__law_times M hD) (sh__law_times_0 M) rfl hg (hr.mono (by decide)) pass_body (by rfl) M.g__law_times M.t__law_times.kp (by decide) (sa_cons (se_var (pv 2)) (sa_cons (se_call (sh := ⟨2, [], [.pos 0, .pos 1]⟩) (ok__law_paid M hD) (sh__law_paid_0 M) rfl hg (hr.mono (by decide)) pass_body (by rfl) M.g__law_paid M.t__law_paid.kp (by decide) (sa_cons (se_var (pv 0)) (sa_cons (se_var (pv 3)) sa_nil (star_no rfl)) (star_no rfl)) sk_nil rfl rfl rfl (fun h => nomatch h) (fun _ => rfl)) sa_nil (star_no rfl)) (star_no rfl)) sk_nil rfl rfl rfl (fun h => nomatch h) (fun _ => rfl))))) (fun _ => rfl))
    (sss_one (ss_ret (se_move (pv 2))))))
theorem ok__law_bettered (M : Md K mg) (hD : base.NoDigits) : FnG P w K mg base 6 M.a__law_bettered M.d__law_bettered ["_law_shares", "_law_market"] (spF ⟨K, mg⟩ 2 false F__law_bettered) := fn_text M.t__law_bettered sc__law_bettered fun cdv A outer s H E hg hr =>
    (sss_cons (ss_if (PW.pt (sw_or (st_cmp (op_eqS (un64 hr)) ops_eqS (se_var (pv 1)) (se_lst sa_nil) (nomark _)) (sw_or1 (st_cmp (op_eqS (un64 hr)) ops_eqS (se_ix (se_call (sh := ⟨2, [], [.pos 0, .pos 1]⟩) (ok__law_worth M hD) (sh__law_worth_0 M) rfl hg (hr.mono (by decide)) pass_body (by rfl) M.g__law_worth M.t__law_worth.kp (by decide) (sa_cons (se_var (pv 0)) (sa_cons (se_var (pv 1)) sa_nil (star_no rfl)) (star_no rfl)) sk_nil rfl rfl rfl (fun h => nomatch h) (fun _ => rfl)) se_int (fun _ _ => rfl)) se_int (nomark _))))) (sss_one (ss_ret (se_move (pv 0)))) sss_nil)
    (sss_cons (ss_set (ps_set (i := 2) sc__law_bettered.nd (by rfl) (by first | exact .inl rfl | exact .inr rfl) (se_lst sa_nil)))
    (sss_cons (ss_for own_body rfl (si_enum (by rfl) M.n_enumerate (se_var (pv 0)) rfl) (sg_tup rfl (sgs_cons (sg_name (ts := [3, 4]) (pg_name (i := 3) sc__law_bettered.nd (by rfl) (by first | exact .inl rfl | exact .inr rfl)) (by decide)) (sgs_cons (sg_name (ts := [3, 4]) (pg_name (i := 4) sc__law_bettered.nd (by rfl) (by first | exact .inl rfl | exact .inr rfl)) (by decide)) sgs_nil (by rfl)) (by rfl)) (by rfl) (by rfl)) (sss_cons (ss_set (ps_set (i := 5) sc__law_bettered.nd (by rfl) (by first | exact .inl rfl | exact .inr rfl) (se_lst sa_nil)))
    (sss_cons (ss_for own_body rfl (si_seq (se_var (pv 1))) (sg_name (ts := [6]) (pg_name (i := 6) sc__law_bettered.nd (by rfl) (by first | exact .inl rfl | exact .inr rfl)) (by decide)) (sss_cons (ss_set (ps_set (i := 7) sc__law_bettered.nd (by rfl) (by first | exact .inl rfl | exact .inr rfl) (se_call (sh := ⟨2, [], [.pos 0, .pos 1]⟩) (ok__law_paid M hD) (sh__law_paid_0 M) rfl hg (hr.mono (by decide)) pass_body (by rfl) M.g__law_paid M.t__law_paid.kp (by decide) (sa_cons (se_var (pv 0)) (sa_cons (se_var (pv 6)) sa_nil (star_no rfl)) (star_no rfl)) sk_nil rfl rfl rfl (fun h => nomatch h) (fun _ => rfl))))
    (sss_one (ss_app (ps_expr (pe_bm PySem.F.plainAttrs_list PySem.F.slot_list_append PySem.F.type_list_append mt_append (pv 5) (pa_cons (se_call (sh := ⟨2, [], [.pos 0, .pos 1]⟩) (ok__law_times M hD) (sh__law_times_0 M) rfl hg (hr.mono (by decide)) pass_body (by rfl) M.g__law_times M.t__law_times.kp (by decide) (sa_cons (se_ixS (pv 6) (se_var (pv 3)) (fun _ _ => rfl)) (sa_cons (se_tup (sa_cons (se_ixS (pv 7) se_int (fun _ _ => rfl)) (sa_cons (se_ixS (pv 7) se_int (fun _ _ => rfl)) sa_nil (star_no rfl)) (star_no rfl))) sa_nil (star_no rfl)) (star_no rfl)) sk_nil rfl rfl rfl (fun h => nomatch h) (fun _ => rfl)) pa_nil (star_no rfl))))))) (fun _ => rfl))
    (sss_one (ss_app (ps_expr (pe_bm PySem.F.plainAttrs_list PySem.F.slot_list_append PySem.F.type_list_append mt_append (pv 2) (pa_cons (se_call (sh := ⟨2, [], [.pos 0, .pos 1]⟩) (ok__law_times M hD) (sh__law_times_0 M) rfl hg (hr.mono (by decide)) pass_body (by rfl) M.g__law_times M.t__law_times.kp (by decide) (sa_cons (se_var (pv 4)) (sa_cons (se_call (sh := ⟨2, [], [.pos 0, .pos 1]⟩) (ok__law_times M hD) (sh__law_times_0 M) rfl hg (hr.mono (by decide)) pass_body (by rfl) M.g__law_times M.t__law_times.kp (by decide) (sa_cons (se_call (sh := ⟨1, [], [.pos 0]⟩) (ok__law_sum M hD) (sh__law_sum_0 M) rfl hg (hr.mono (by decide)) pass_body (by rfl) M.g__law_sum M.t__law_sum.kp (by decide) (sa_cons (se_var (pv 5)) sa_nil (star_no rfl)) sk_nil rfl rfl rfl (fun h => nomatch h) (fun _ => rfl)) (sa_cons (se_tup (sa_cons se_int (sa_cons (se_callB call_len cas_len (by rfl) M.n_len (by first | exact PySem.boot_len | decide +kernel | rfl) (sa_cons (se_var (pv 1)) sa_nil (star_no rfl)) (by decide) (by decide) rfl) sa_nil (star_no rfl)) (star_no rfl))) sa_nil (star_no rfl)) (star_no rfl)) sk_nil rfl rfl rfl (fun h => nomatch h) (fun _ => rfl)) sa_nil (star_no rfl)) (star_no rfl)) sk_nil rfl rfl rfl (fun h => nomatch h) (fun _ => rfl)) pa_nil (star_no rfl)))))))) (fun _ => rfl))
    (sss_one (ss_ret (se_if (st_cmp op_lt ops_lt (se_callB (max_all rfl) cas_max (by rfl) M.n_max (by first | exact PySem.boot_max | decide +kernel | rfl) (sa_cons (se_lc (own := [("_law_share", 4)]) rfl sc__law_bettered.nd (si_seq (se_var (pv 2))) (blkOk_by (by rfl)) (fun _ _ _ _ _ => (sg_name (ts := (List.map (fun p : Str × Nat => p.2) [("_law_share", 4)])) (pg_name (i := 4) sc__law_bettered.nd (by rfl) (by first | exact .inl rfl | exact .inr rfl)) (by decide))) (fun _ _ _ _ _ => spt_nil) (fun _ _ _ _ _ => (se_ixS (pv 4) se_int (fun _ _ => rfl))) (fun _ => rfl)) sa_nil (star_no rfl)) (by decide) (by decide) rfl) (se_bin op_pow ops_pow se_int se_int) (nomark _)) (se_move (pv 2)) (se_move (pv 0))))))))
theorem ok_need_days (M : Md K mg) (hD : base.NoDigits) : FnG P w K mg base 4 M.a_need_days M.d_need_days ["value"] (spF ⟨K, mg⟩ 1 false F_need_days) := fn_text M.t_need_days sc_need_days fun cdv A outer s H E hg hr =>
    (sss_one (ss_expr (se_call (sh := ⟨4, [], [.pos 0, .pos 1, .pos 2, .pos 3]⟩) (ok_need_integer M hD) (sh_need_integer_0 M) rfl hg (hr.mono (by decide)) pass_body (by rfl) M.g_need_integer M.t_need_integer.kp (by decide) (sa_cons (se_var (pv 0)) (sa_cons se_str (sa_cons se_int (sa_cons (se_glob (v := .int 1000) (by rfl) M.c_MOST_DAYS ⟨_, rfl⟩ rfl (by decide)) sa_nil (star_no rfl)) (star_no rfl)) (star_no rfl)) (star_no rfl)) sk_nil rfl rfl rfl (fun h => nomatch h) (fun _ => rfl)) (by rfl)))
theorem ok_even_factor (M : Md K mg) (hD : base.NoDigits) : FnG P w K mg base 5 M.a_even_factor M.d_even_factor ["goods", "days"] (spF ⟨K, mg⟩ 2 false F_even_factor) := fn_text M.t_even_factor sc_even_factor fun cdv A outer s H E hg hr =>
    (sss_cons (ss_expr (se_call (sh := ⟨1, [], [.pos 0]⟩) (ok_need_goods M hD) (sh_need_goods_0 M) rfl hg (hr.mono (by decide)) pass_body (by rfl) M.g_need_goods M.t_need_goods.kp (by decide) (sa_cons (se_var (pv 0)) sa_nil (star_no rfl)) sk_nil rfl rfl rfl (fun h => nomatch h) (fun _ => rfl)) (by rfl))
    (sss_cons (ss_expr (se_call (sh := ⟨1, [], [.pos 0]⟩) (ok_need_days M hD) (sh_need_days_0 M) rfl hg (hr.mono (by decide)) pass_body (by rfl) M.g_need_days M.t_need_days.kp (by decide) (sa_cons (se_var (pv 1)) sa_nil (star_no rfl)) sk_nil rfl rfl rfl (fun h => nomatch h) (fun _ => rfl)) (by rfl))
    (sss_one (ss_ret (se_call (sh := ⟨2, [], [.pos 0, .pos 1]⟩) (ok_factor_in M hD) (sh_factor_in_0 M) rfl hg (hr.mono (by decide)) pass_body (by rfl) M.g_factor_in M.t_factor_in.kp (by decide) (sa_cons (se_var (pv 0)) (sa_cons (se_var (pv 1)) sa_nil (star_no rfl)) (star_no rfl)) sk_nil rfl rfl rfl (fun h => nomatch h) (fun _ => rfl))))))
theorem ok__law_less (M : Md K mg) (hD : base.NoDigits) : FnG P w K mg base 1 M.a__law_less M.d__law_less ["_law_one", "_law_other"] (spF ⟨K, mg⟩ 2 false F__law_less) := fn_text M.t__law_less sc__law_less fun cdv A outer s H E hg hr =>
    (sss_one (ss_ret (se_cmp op_lt ops_lt (se_bin op_mulAll ops_mul (se_ixS (pv 0) se_int (fun _ _ => rfl)) (se_ixS (pv 1) se_int (fun _ _ => rfl))) (se_bin op_mulAll ops_mul (se_ixS (pv 1) se_int (fun _ _ => rfl)) (se_ixS (pv 0) se_int (fun _ _ => rfl))) (nomark _))))
theorem ok_even_purse (M : Md K mg) (hD : base.NoDigits) : FnG P w K mg base 8 M.a_even_purse M.d_even_purse ["goods", "market"] (spF ⟨K, mg⟩ 2 false F_even_purse) := fn_text M.t_even_purse sc_even_purse fun cdv A outer s H E hg hr =>
    (sss_cons (ss_expr (se_call (sh := ⟨1, [], [.pos 0]⟩) (ok_need_goods M hD) (sh_need_goods_0 M) rfl hg (hr.mono (by decide)) pass_body (by rfl) M.g_need_goods M.t_need_goods.kp (by decide) (sa_cons (se_var (pv 0)) sa_nil (star_no rfl)) sk_nil rfl rfl rfl (fun h => nomatch h) (fun _ => rfl)) (by rfl))
    (sss_cons (ss_set (ps_set (i := 2) sc_even_purse.nd (by rfl) (by first | exact .inl rfl | exact .inr rfl) (se_call (sh := ⟨2, [], [.pos 0, .pos 1, .cst 0 (.str "market")]⟩) (ok_need_market M hD) (sh_need_market_0 M).choose_spec rfl hg (hr.mono (by decide)) pass_body (by rfl) M.g_need_market M.t_need_market.kp (by decide) (sa_cons (se_var (pv 1)) (sa_cons (se_var (pv 0)) sa_nil (star_no rfl)) (star_no rfl)) sk_nil rfl rfl rfl (fun h => nomatch h) (fun _ => rfl))))
    (sss_cons (ss_expr (se_call (sh := ⟨2, [], [.pos 0, .pos 1]⟩) (ok_need_few M hD) (sh_need_few_0 M) rfl hg (hr.mono (by decide)) pass_body (by rfl) M.g_need_few M.t_need_few.kp (by decide) (sa_cons (se_var (pv 0)) (sa_cons (se_var (pv 2)) sa_nil (star_no rfl)) (star_no rfl)) sk_nil rfl rfl rfl (fun h => nomatch h) (fun _ => rfl)) (by rfl))
    (sss_one (ss_ret (se_call (sh := ⟨2, [], [.pos 0, .pos 1]⟩) (ok_purse_in M hD) (sh_purse_in_0 M) rfl hg (hr.mono (by decide)) pass_body (by rfl) M.g_purse_in M.t_purse_in.kp (by decide) (sa_cons (se_var (pv 0)) (sa_cons (se_var (pv 2)) sa_nil (star_no rfl)) (star_no rfl)) sk_nil rfl rfl rfl (fun h => nomatch h) (fun _ => rfl)))))))
theorem ok__law_weight (M : Md K mg) (hD : base.NoDigits) : FnG P w K mg base 3 M.a__law_weight M.d__law_weight ["_law_market", "_law_word"] (spF ⟨K, mg⟩ 2 false F__law_weight) := fn_text M.t__law_weight sc__law_weight fun cdv A outer s H E hg hr =>
    (sss_cons (ss_set (ps_set (i := 2) sc__law_weight.nd (by rfl) (by first | exact .inl rfl | exact .inr rfl) (se_tup (sa_cons se_int (sa_cons se_int sa_nil (star_no rfl)) (star_no rfl)))))
    (sss_cons (ss_for own_body rfl (si_zip (by rfl) M.n_zip (sa_cons (se_var (pv 0)) (sa_cons (se_var (pv 1)) sa_nil (star_no rfl)) (star_no rfl)) rfl rfl) (sg_tup rfl (sgs_cons (sg_name (ts := [3, 4]) (pg_name (i := 3) sc__law_weight.nd (by rfl) (by first | exact .inl rfl | exact .inr rfl)) (by decide)) (sgs_cons (sg_name (ts := [3, 4]) (pg_name (i := 4) sc__law_weight.nd (by rfl) (by first | exact .inl rfl | exact .inr rfl)) (by decide)) sgs_nil (by rfl)) (by rfl)) (by rfl) (by rfl)) (sss_one (ss_set (ps_set (i := 2) sc__law_weight.nd (by rfl) (by first | exact .inl rfl | exact .inr rfl) (se_call (sh := ⟨2, [], [.pos 0, .pos 1]⟩) (ok__law_times M hD) (sh__law_times_0 M) rfl hg (hr.mono (by decide)) pass_body (by rfl) M.g__law_times M.t__law_times.kp (by decide) (sa_cons (se_var (pv 2)) (sa_cons (se_ixS (pv 3) (se_var (pv 4)) (fun _ _ => rfl)) sa_nil (star_no rfl)) (star_no rfl)) sk_nil rfl rfl rfl (fun h => nomatch h) (fun _ => rfl))))) (fun _ => rfl))
    (sss_one (ss_ret (se_move (pv 2))))))
theorem ok__law_even (M : Md K mg) (hD : base.NoDigits) : FnG P w K mg base 3 M.a__law_even M.d__law_even ["_law_goods", "_law_word"] (spF ⟨K, mg⟩ 2 false F__law_even) := fn_text M.t__law_even sc__law_even fun cdv A outer s H E hg hr =>
    (sss_cons (ss_set (ps_set (i := 2) sc__law_even.nd (by rfl) (by first | exact .inl rfl | exact .inr rfl) (se_tup (sa_cons se_int (sa_cons se_int sa_nil (star_no rfl)) (star_no rfl)))))
    (sss_cons (ss_for own_body rfl (si_enum (by rfl) M.n_enumerate (se_var (pv 1)) rfl) (sg_tup rfl (sgs_cons (sg_name (ts := [3, 4]) (pg_name (i := 3) sc__law_even.nd (by rfl) (by first | exact .inl rfl | exact .inr rfl)) (by decide)) (sgs_cons (sg_name (ts := [3, 4]) (pg_name (i := 4) sc__law_even.nd (by rfl) (by first | exact .inl rfl | exact .inr rfl)) (by decide)) sgs_nil (by rfl)) (by rfl)) (by rfl) (by rfl)) (sss_one (ss_set (ps_set (i := 2) sc__law_even.nd (by rfl) (by first | exact .inl rfl | exact .inr rfl) (se_call (sh := ⟨2, [], [.pos 0, .pos 1]⟩) (ok__law_times M hD) (sh__law_times_0 M) rfl hg (hr.mono (by decide)) pass_body (by rfl) M.g__law_times M.t__law_times.kp (by decide) (sa_cons (se_var (pv 2)) (sa_cons (se_tup (sa_cons (se_bin op_addAll ops_add se_int (se_callB call_len cas_len (by rfl) M.n_len (by first | exact PySem.boot_len | decide +kernel | rfl) (sa_cons (se_lc (own := [("_law_its", 5)]) rfl sc__law_even.nd (si_seq (se_sl (se_var (pv 1)) so_none (so_some (se_var (pv 3))))) (blkOk_by (by rfl)) (fun _ _ _ _ _ => (sg_name (ts := (List.map (fun p : Str × Nat => p.2) [("_law_its", 5)])) (pg_name (i := 5) sc__law_even.nd (by rfl) (by first | exact .inl rfl | exact .inr rfl)) (by decide))) (fun _ _ _ _ _ => (spt_one (st_cmp (op_eqS (un64 hr)) ops_eqS (se_var (pv 5)) (se_var (pv 4)) (nomark _)))) (fun _ _ _ _ _ => se_int) (fun _ => rfl)) sa_nil (star_no rfl)) (by decide) (by decide) rfl)) (sa_cons (se_bin op_addAll ops_add (se_var (pv 3)) (se_var (pv 0))) sa_nil (star_no rfl)) (star_no rfl))) sa_nil (star_no rfl)) (star_no rfl)) sk_nil rfl rfl rfl (fun h => nomatch h) (fun _ => rfl))))) (fun _ => rfl))
    (sss_one (ss_ret (se_move (pv 2))))))
theorem ok_law (M : Md K mg) (hD : base.NoDigits) : FnG P w K mg base 9 M.a_law M.d_law ["_law_script"] (spF ⟨K, mg⟩ 1 false F_law) := fn_text M.t_law sc_law fun cdv A outer s H E hg hr =>
    (sss_cons (ss_set (ps_set (i := 1) sc_law.nd (by rfl) (by first | exact .inl rfl | exact .inr rfl) (se_call (sh := ⟨1, [], [.pos 0]⟩) (ok__law_pen M hD) (sh__law_pen_0 M) rfl hg (hr.mono (by decide)) pass_body (by rfl) M.g__law_pen M.t__law_pen.kp (by decide) (sa_cons (se_var (pv 0)) sa_nil (star_no rfl)) sk_nil rfl rfl rfl (fun h => nomatch h) (fun _ => rfl))))
    (sss_cons (ss_for own_body rfl (si_rng1 (by rfl) M.n_range (sa_cons se_int sa_nil (star_no rfl)) rfl) (sg_name (ts := [2]) (pg_name (i := 2) sc_law.nd (by rfl) (by first | exact .inl rfl | exact .inr rfl)) (by decide)) (sss_cons (ss_set (ps_set (i := 3) sc_law.nd (by rfl) (by first | exact .inl rfl | exact .inr rfl) (se_callIo (ok__law_one_of M hD) (binds_of M.t__law_one_of 2 fun _ _ _ _ _ _ us hl => match us, hl with | [_, _], _ => rfl) hg (hr.mono (by decide)) pass_body (by rfl) M.g__law_one_of M.t__law_one_of.kp (by decide) (pv 1) (sa_cons (se_lst (sa_cons se_int (sa_cons se_int (sa_cons se_int (sa_cons se_int sa_nil (star_no rfl)) (star_no rfl)) (star_no rfl)) (star_no rfl))) sa_nil (star_no rfl)) rfl)))
    (sss_cons (ss_set (ps_set (i := 4) sc_law.nd (by rfl) (by first | exact .inl rfl | exact .inr rfl) (se_lc (own := [("_law_day_here", 19)]) rfl sc_law.nd (si_rng1 (by rfl) M.n_range (sa_cons (se_callIo (ok__law_one_of M hD) (binds_of M.t__law_one_of 2 fun _ _ _ _ _ _ us hl => match us, hl with | [_, _], _ => rfl) hg (hr.mono (by decide)) pass_body (by rfl) M.g__law_one_of M.t__law_one_of.kp (by decide) (pv 1) (sa_cons (se_lst (sa_cons se_int (sa_cons se_int (sa_cons (se_if (st_cmp op_lt ops_lt (se_var (pv 3)) se_int (nomark _)) se_int se_int) (sa_cons se_int (sa_cons (se_if (st_cmp op_lt ops_lt (se_var (pv 3)) se_int (nomark _)) se_int se_int) sa_nil (star_no rfl)) (star_no rfl)) (star_no rfl)) (star_no rfl)) (star_no rfl))) sa_nil (star_no rfl)) rfl) sa_nil (star_no rfl)) rfl) (blkOk_by (by rfl)) (fun _ _ _ _ _ => (sg_name (ts := (List.map (fun p : Str × Nat => p.2) [("_law_day_here", 19)])) (pg_name (i := 19) sc_law.nd (by rfl) (by first | exact .inl rfl | exact .inr rfl)) (by decide))) (fun _ _ _ _ _ => spt_nil) (fun _ _ _ _ _ => (se_callIo (ok__law_day M hD) (binds_of M.t__law_day 2 fun _ _ _ _ _ _ us hl => match us, hl with | [_, _], _ => rfl) hg (hr.mono (by decide)) pass_blk (by rfl) M.g__law_day M.t__law_day.kp (by decide) (pv 1) (sa_cons (se_var (pv 3)) sa_nil (star_no rfl)) rfl)) (fun _ => rfl))))
    (sss_cons (ss_if (PW.pt (sw_and (st_cmp (op_neS (un64 hr)) ops_neS (se_var (pv 4)) (se_lst sa_nil) (nomark _)) (sw_and1 (st_cmp (op_eqS (un64 hr)) ops_eqS (se_callIo (ok__law_draw M hD) (binds_of M.t__law_draw 2 fun _ _ _ _ _ _ us hl => match us, hl with | [_, _], _ => rfl) hg (hr.mono (by decide)) pass_body (by rfl) M.g__law_draw M.t__law_draw.kp (by decide) (pv 1) (sa_cons se_int sa_nil (star_no rfl)) rfl) se_int (nomark _))))) (sss_one (ss_set (ps_set (i := 4) sc_law.nd (by rfl) (by first | exact .inl rfl | exact .inr rfl) (se_lc (own := [("_law_day_here", 19)]) rfl sc_law.nd (si_seq (se_var (pv 4))) (blkOk_by (by rfl)) (fun _ _ _ _ _ => (sg_name (ts := (List.map (fun p : Str × Nat => p.2) [("_law_day_here", 19)])) (pg_name (i := 19) sc_law.nd (by rfl) (by first | exact .inl rfl | exact .inr rfl)) (by decide))) (fun _ _ _ _ _ => spt_nil) (fun _ _ _ _ _ => (se_lc (own := [("_law_good", 13), ("_law_number_here", 20)]) rfl sc_law.nd (si_enum (by rfl) M.n_enumerate (se_var (pv 19)) rfl) (blkOk_by (by rfl)) (fun _ _ _ _ _ => (sg_tup rfl (sgs_cons (sg_name (ts := (List.map (fun p : Str × Nat => p.2) [("_law_good", 13), ("_law_number_here", 20)])) (pg_name (i := 13) sc_law.nd (by rfl) (by first | exact .inl rfl | exact .inr rfl)) (by decide)) (sgs_cons (sg_name (ts := (List.map (fun p : Str × Nat => p.2) [("_law_good", 13), ("_law_number_here", 20)])) (pg_name (i := 20) sc_law.nd (by rfl) (by first | exact .inl rfl | exact .inr rfl)) (by decide)) sgs_nil (by rfl)) (by rfl)) (by rfl) (by rfl))) (fun _ _ _ _ _ => spt_nil) (fun _ _ _ _ _ => (se_if (st_cmp (op_eqS (un64 hr)) ops_eqS (se_var (pv 13)) se_int (nomark _)) (se_var (pv 20)) (se_tup (sa_cons se_int (sa_cons se_int sa_nil (star_no rfl)) (star_no rfl))))) (fun _ => rfl))) (fun _ => rfl))))) sss_nil)
    (sss_cons (ss_set (ps_set (i := 5) sc_law.nd (by rfl) (by first | exact .inl rfl | exact .inr rfl) (se_call (sh := ⟨1, [], [.pos 0]⟩) (ok__law_passed M hD) (sh__law_passed_0 M) rfl hg (hr.mono (by decide)) pass_body (by rfl) M.g__law_passed M.t__law_passed.kp (by decide) (sa_cons (se_var (pv 4)) sa_nil (star_no rfl)) sk_nil rfl rfl rfl (fun h => nomatch h) (fun _ => rfl))))
    (sss_cons (ss_set (ps_set (i := 6) sc_law.nd (by rfl) (by first | exact .inl rfl | exact .inr rfl) (se_call (sh := ⟨1, [], [.pos 0]⟩) (ok__law_sum M hD) (sh__law_sum_0 M) rfl hg (hr.mono (by decide)) pass_body (by rfl) M.g__law_sum M.t__law_sum.kp (by decide) (sa_cons (se_lc (own := [("_law_word", 21)]) rfl sc_law.nd (si_seq (se_call (sh := ⟨2, [], [.pos 0, .pos 1]⟩) (ok__law_words M hD) (sh__law_words_0 M) rfl hg (hr.mono (by decide)) pass_body (by rfl) M.g__law_words M.t__law_words.kp (by decide) (sa_cons (se_var (pv 3)) (sa_cons (se_callB call_len cas_len (by rfl) M.n_len (by first | exact PySem.boot_len | decide +kernel | rfl) (sa_cons (se_var (pv 4)) sa_nil (star_no rfl)) (by decide) (by decide) rfl) sa_nil (star_no rfl)) (star_no rfl)) sk_nil rfl rfl rfl (fun h => nomatch h) (fun _ => rfl))) (blkOk_by (by rfl)) (fun _ _ _ _ _ => (sg_name (ts := (List.map (fun p : Str × Nat => p.2) [("_law_word", 21)])) (pg_name (i := 21) sc_law.nd (by rfl) (by first | exact .inl rfl | exact .inr rfl)) (by decide))) (fun _ _ _ _ _ => spt_nil) (fun _ _ _ _ _ => (se_call (sh := ⟨2, [], [.pos 0, .pos 1]⟩) (ok__law_times M hD) (sh__law_times_0 M) rfl hg (hr.mono (by decide)) pass_blk (by rfl) M.g__law_times M.t__law_times.kp (by decide) (sa_cons (se_call (sh := ⟨2, [], [.pos 0, .pos 1]⟩) (ok__law_weight M hD) (sh__law_weight_0 M) rfl hg (hr.mono (by decide)) pass_blk (by rfl) M.g__law_weight M.t__law_weight.kp (by decide) (sa_cons (se_var (pv 4)) (sa_cons (se_var (pv 21)) sa_nil (star_no rfl)) (star_no rfl)) sk_nil rfl rfl rfl (fun h => nomatch h) (fun _ => rfl)) (sa_cons (se_call (sh := ⟨2, [], [.pos 0, .pos 1]⟩) (ok__law_even M hD) (sh__law_even_0 M) rfl hg (hr.mono (by decide)) pass_blk (by rfl) M.g__law_even M.t__law_even.kp (by decide) (sa_cons (se_var (pv 3)) (sa_cons (se_var (pv 21)) sa_nil (star_no rfl)) (star_no rfl)) sk_nil rfl rfl rfl (fun h => nomatch h) (fun _ => rfl)) sa_nil (star_no rfl)) (star_no rfl)) sk_nil rfl rfl rfl (fun h => nomatch h) (fun _ => rfl))) (fun _ => rfl)) sa_nil (star_no rfl)) sk_nil rfl rfl rfl (fun h => nomatch h) (fun _ => rfl))))
    (sss_cons (ss_set (ps_set (i := 7) sc_law.nd (by rfl) (by first | exact .inl rfl | exact .inr rfl) (se_call (sh := ⟨2, [], [.pos 0, .pos 1]⟩) (ok__law_times M hD) (sh__law_times_0 M) rfl hg (hr.mono (by decide)) pass_body (by rfl) M.g__law_times M.t__law_times.kp (by decide) (sa_cons (se_var (pv 6)) (sa_cons (se_tup (sa_cons (se_call (sh := ⟨2, [], [.pos 0, .pos 1]⟩) (ok_even_factor M hD) (sh_even_factor_0 M) rfl hg (hr.mono (by decide)) pass_body (by rfl) M.g_even_factor M.t_even_factor.kp (by decide) (sa_cons (se_var (pv 3)) (sa_cons (se_callB call_len cas_len (by rfl) M.n_len (by first | exact PySem.boot_len | decide +kernel | rfl) (sa_cons (se_var (pv 4)) sa_nil (star_no rfl)) (by decide) (by decide) rfl) sa_nil (star_no rfl)) (star_no rfl)) sk_nil rfl rfl rfl (fun h => nomatch h) (fun _ => rfl)) (sa_cons se_int sa_nil (star_no rfl)) (star_no rfl))) sa_nil (star_no rfl)) (star_no rfl)) sk_nil rfl rfl rfl (fun h => nomatch h) (fun _ => rfl))))
    (sss_cons (ss_if (st_cmp (op_neS (un64 hr)) ops_neS (se_callB (cr_repr hg (un150 hr) hD) cas_repr (by rfl) M.n_repr (by first | exact PySem.boot_repr | decide +kernel | rfl) (sa_cons (se_call (sh := ⟨2, [], [.pos 0, .pos 1]⟩) (ok_even_purse M hD) (sh_even_purse_0 M) rfl hg (hr.mono (by decide)) pass_body (by rfl) M.g_even_purse M.t_even_purse.kp (by decide) (sa_cons (se_var (pv 3)) (sa_cons (se_var (pv 5)) sa_nil (star_no rfl)) (star_no rfl)) sk_nil rfl rfl rfl (fun h => nomatch h) (fun _ => rfl)) sa_nil (star_no rfl)) (by decide) (by decide) rfl) (se_callB (cr_repr hg (un150 hr) hD) cas_repr (by rfl) M.n_repr (by first | exact PySem.boot_repr | decide +kernel | rfl) (sa_cons (se_call (sh := ⟨1, [], [.pos 0]⟩) (ok__law_number M hD) (sh__law_number_0 M) rfl hg (hr.mono (by decide)) pass_body (by rfl) M.g__law_number M.t__law_number.kp (by decide) (sa_cons (se_var (pv 6)) sa_nil (star_no rfl)) sk_nil rfl rfl rfl (fun h => nomatch h) (fun _ => rfl)) sa_nil (star_no rfl)) (by decide) (by decide) rfl) (nomark _)) (sss_one (ss_ret se_bl)) sss_nil)
    (sss_cons (ss_set (ps_set (i := 8) sc_law.nd (by rfl) (by first | exact .inl rfl | exact .inr rfl) (se_callIo (ok__law_mix M hD) (binds_of M.t__law_mix 2 fun _ _ _ _ _ _ us hl => match us, hl with | [_, _], _ => rfl) hg (hr.mono (by decide)) pass_body (by rfl) M.g__law_mix M.t__law_mix.kp (by decide) (pv 1) (sa_cons (se_var (pv 3)) sa_nil (star_no rfl)) rfl)))
    (sss_cons (ss_set (ps_set (i := 9) sc_law.nd (by rfl) (by first | exact .inl rfl | exact .inr rfl) (se_lst (sa_cons (se_var (pv 8)) (sa_cons (se_call (sh := ⟨2, [], [.pos 0, .pos 1]⟩) (ok__law_bettered M hD) (sh__law_bettered_0 M) rfl hg (hr.mono (by decide)) pass_body (by rfl) M.g__law_bettered M.t__law_bettered.kp (by decide) (sa_cons (se_var (pv 8)) (sa_cons (se_var (pv 4)) sa_nil (star_no rfl)) (star_no rfl)) sk_nil rfl rfl rfl (fun h => nomatch h) (fun _ => rfl)) (sa_cons (se_lc (own := [("_law_good", 13)]) rfl sc_law.nd (si_rng1 (by rfl) M.n_range (sa_cons (se_var (pv 3)) sa_nil (star_no rfl)) rfl) (blkOk_by (by rfl)) (fun _ _ _ _ _ => (sg_name (ts := (List.map (fun p : Str × Nat => p.2) [("_law_good", 13)])) (pg_name (i := 13) sc_law.nd (by rfl) (by first | exact .inl rfl | exact .inr rfl)) (by decide))) (fun _ _ _ _ _ => spt_nil) (fun _ _ _ _ _ => (se_tup (sa_cons (se_callTy call_int1 cas_int (by rfl) M.n_int (by first | exact PySem.boot_int | decide +kernel | rfl) (sa_cons (se_cmp (op_eqS (un64 hr)) ops_eqS (se_var (pv 13)) se_int (nomark _)) sa_nil (star_no rfl)) (by decide) (by decide) rfl) (sa_cons se_int sa_nil (star_no rfl)) (star_no rfl)))) (fun _ => rfl)) (sa_cons (se_call (sh := ⟨2, [], [.pos 0, .pos 1]⟩) (ok__law_bettered M hD) (sh__law_bettered_0 M) rfl hg (hr.mono (by decide)) pass_body (by rfl) M.g__law_bettered M.t__law_bettered.kp (by decide) (sa_cons (se_bin op_mulAll ops_mul (se_lst (sa_cons (se_call (sh := ⟨2, [], [.pos 0, .pos 1]⟩) (ok__law_low M hD) (sh__law_low_0 M) rfl hg (hr.mono (by decide)) pass_body (by rfl) M.g__law_low M.t__law_low.kp (by decide) (sa_cons se_int (sa_cons (se_var (pv 3)) sa_nil (star_no rfl)) (star_no rfl)) sk_nil rfl rfl rfl (fun h => nomatch h) (fun _ => rfl)) sa_nil (star_no rfl))) (se_var (pv 3))) (sa_cons (se_var (pv 4)) sa_nil (star_no rfl)) (star_no rfl)) sk_nil rfl rfl rfl (fun h => nomatch h) (fun _ => rfl)) sa_nil (star_no rfl)) (star_no rfl)) (star_no rfl)) (star_no rfl)))))
    (sss_one (ss_for own_body rfl (si_seq (se_var (pv 9))) (sg_name (ts := [10]) (pg_name (i := 10) sc_law.nd (by rfl) (by first | exact .inl rfl | exact .inr rfl)) (by decide)) (sss_cons (ss_set (ps_set (i := 11) sc_law.nd (by rfl) (by first | exact .inl rfl | exact .inr rfl) (se_call (sh := ⟨2, [], [.pos 0, .pos 1]⟩) (ok__law_plus M hD) (sh__law_plus_0 M) rfl hg (hr.mono (by decide)) pass_body (by rfl) M.g__law_plus M.t__law_plus.kp (by decide) (sa_cons (se_var (pv 7)) (sa_cons (se_call (sh := ⟨2, [], [.pos 0, .pos 1]⟩) (ok__law_times M hD) (sh__law_times_0 M) rfl hg (hr.mono (by decide)) pass_body (by rfl) M.g__law_times M.t__law_times.kp (by decide) (sa_cons (se_tup (sa_cons (se_neg se_int) (sa_cons se_int sa_nil (star_no rfl)) (star_no rfl))) (sa_cons (se_call (sh := ⟨2, [], [.pos 0, .pos 1]⟩) (ok__law_worth M hD) (sh__law_worth_0 M) rfl hg (hr.mono (by decide)) pass_body (by rfl) M.g__law_worth M.t__law_worth.kp (by decide) (sa_cons (se_var (pv 10)) (sa_cons (se_var (pv 4)) sa_nil (star_no rfl)) (star_no rfl)) sk_nil rfl rfl rfl (fun h => nomatch h) (fun _ => rfl)) sa_nil (star_no rfl)) (star_no rfl)) sk_nil rfl rfl rfl (fun h => nomatch h) (fun _ => rfl)) sa_nil (star_no rfl)) (star_no rfl)) sk_nil rfl rfl rfl (fun h => nomatch h) (fun _ => rfl))))
    (sss_cons (ss_setLc (own := [("_law_share", 22)]) (i := 12) rfl sc_law.nd (by rfl) (by rfl) (by rfl) (si_seq (se_var (pv 10))) (blkOk_by (by rfl)) (fun _ _ _ _ _ => (sg_name (ts := (List.map (fun p : Str × Nat => p.2) [("_law_share", 22)])) (pg_name (i := 22) sc_law.nd (by rfl) (by first | exact .inl rfl | exact .inr rfl)) (by decide))) (fun _ _ _ _ _ => spt_nil) (fun _ _ _ _ _ => (se_call (sh := ⟨1, [], [.pos 0]⟩) (ok__law_number M hD) (sh__law_number_0 M) rfl hg (hr.mono (by decide)) pass_blk (by rfl) M.g__law_number M.t__law_number.kp (by decide) (sa_cons (se_var (pv 22)) sa_nil (star_no rfl)) sk_nil rfl rfl rfl (fun h => nomatch h) (fun _ => rfl))) (fun _ => rfl))
    (sss_one (ss_if (PW.pt (sw_or (st_cmp (op_neS (un64 hr)) ops_neS (se_callB (cr_repr hg (un150 hr) hD) cas_repr (by rfl) M.n_repr (by first | exact PySem.boot_repr | decide +kernel | rfl) (sa_cons (se_lst (sa_cons (se_call (sh := ⟨3, [], [.pos 0, .pos 1, .pos 2]⟩) (ok_even_spare M hD) (sh_even_spare_1 M) rfl hg (hr.mono (by decide)) pass_body (by rfl) M.g_even_spare M.t_even_spare.kp (by decide) (sa_cons (se_var (pv 3)) (sa_cons (se_var (pv 5)) (sa_cons (se_var (pv 12)) sa_nil (star_no rfl)) (star_no rfl)) (star_no rfl)) sk_nil rfl rfl rfl (fun h => nomatch h) (fun _ => rfl)) (sa_cons (se_call (sh := ⟨0, ["shares", "market", "goods"], [.kw 2, .kw 1, .kw 0]⟩) (ok_even_spare M hD) (sh_even_spare_0 M) rfl hg (hr.mono (by decide)) pass_body (by rfl) M.g_even_spare M.t_even_spare.kp (by decide) sa_nil (sk_cons (se_callTy call_tuple_of cas_tuple (by rfl) M.n_tuple (by first | exact PySem.boot_tuple | decide +kernel | rfl) (sa_cons (se_var (pv 12)) sa_nil (star_no rfl)) (by decide) (by decide) rfl) (sk_cons (se_var (pv 5)) (sk_cons (se_var (pv 3)) sk_nil))) rfl rfl rfl (fun _ => rfl) (fun h => nomatch h)) sa_nil (star_no rfl)) (star_no rfl))) sa_nil (star_no rfl)) (by decide) (by decide) rfl) (se_callB (cr_repr hg (un150 hr) hD) cas_repr (by rfl) M.n_repr (by first | exact PySem.boot_repr | decide +kernel | rfl) (sa_cons (se_bin op_mulAll ops_mul (se_lst (sa_cons (se_call (sh := ⟨1, [], [.pos 0]⟩) (ok__law_number M hD) (sh__law_number_0 M) rfl hg (hr.mono (by decide)) pass_body (by rfl) M.g__law_number M.t__law_number.kp (by decide) (sa_cons (se_var (pv 11)) sa_nil (star_no rfl)) sk_nil rfl rfl rfl (fun h => nomatch h) (fun _ => rfl)) sa_nil (star_no rfl))) se_int) sa_nil (star_no rfl)) (by decide) (by decide) rfl) (nomark _)) (sw_or1 (st_cmp op_lt ops_lt (se_ixS (pv 11) se_int (fun _ _ => rfl)) se_int (nomark _))))) (sss_one (ss_ret se_bl)) sss_nil)))) (fun _ => rfl)))))))))))) (fun _ => rfl))
    (sss_cons (ss_asg (sg_tup rfl (sgs_cons (sg_name (ts := [13, 3, 14]) (pg_name (i := 13) sc_law.nd (by rfl) (by first | exact .inl rfl | exact .inr rfl)) (by decide)) (sgs_cons (sg_name (ts := [13, 3, 14]) (pg_name (i := 3) sc_law.nd (by rfl) (by first | exact .inl rfl | exact .inr rfl)) (by decide)) (sgs_cons (sg_name (ts := [13, 3, 14]) (pg_name (i := 14) sc_law.nd (by rfl) (by first | exact .inl rfl | exact .inr rfl)) (by decide)) sgs_nil (by rfl)) (by rfl)) (by rfl)) (by rfl) (by rfl)) (se_tup (sa_cons (se_callIo (ok__law_draw M hD) (binds_of M.t__law_draw 2 fun _ _ _ _ _ _ us hl => match us, hl with | [_, _], _ => rfl) hg (hr.mono (by decide)) pass_body (by rfl) M.g__law_draw M.t__law_draw.kp (by decide) (pv 1) (sa_cons se_int sa_nil (star_no rfl)) rfl) (sa_cons (se_callIo (ok__law_one_of M hD) (binds_of M.t__law_one_of 2 fun _ _ _ _ _ _ us hl => match us, hl with | [_, _], _ => rfl) hg (hr.mono (by decide)) pass_body (by rfl) M.g__law_one_of M.t__law_one_of.kp (by decide) (pv 1) (sa_cons (se_lst (sa_cons se_int (sa_cons se_int (sa_cons se_int sa_nil (star_no rfl)) (star_no rfl)) (star_no rfl))) sa_nil (star_no rfl)) rfl) (sa_cons (se_lc (own := [("_law_day_here", 19)]) rfl sc_law.nd (si_rng1 (by rfl) M.n_range (sa_cons (se_callIo (ok__law_draw M hD) (binds_of M.t__law_draw 2 fun _ _ _ _ _ _ us hl => match us, hl with | [_, _], _ => rfl) hg (hr.mono (by decide)) pass_body (by rfl) M.g__law_draw M.t__law_draw.kp (by decide) (pv 1) (sa_cons se_int sa_nil (star_no rfl)) rfl) sa_nil (star_no rfl)) rfl) (blkOk_by (by rfl)) (fun _ _ _ _ _ => (sg_name (ts := (List.map (fun p : Str × Nat => p.2) [("_law_day_here", 19)])) (pg_name (i := 19) sc_law.nd (by rfl) (by first | exact .inl rfl | exact .inr rfl)) (by decide))) (fun _ _ _ _ _ => spt_nil) (fun _ _ _ _ _ => (se_callIo (ok__law_one_of M hD) (binds_of M.t__law_one_of 2 fun _ _ _ _ _ _ us hl => match us, hl with | [_, _], _ => rfl) hg (hr.mono (by decide)) pass_blk (by rfl) M.g__law_one_of M.t__law_one_of.kp (by decide) (pv 1) (sa_cons (se_lst (sa_cons (se_tup (sa_cons se_int (sa_cons se_int sa_nil (star_no rfl)) (star_no rfl))) (sa_cons (se_tup (sa_cons se_int (sa_cons se_int sa_nil (star_no rfl)) (star_no rfl))) (sa_cons (se_tup (sa_cons se_int (sa_cons se_int sa_nil (star_no rfl)) (star_no rfl))) (sa_cons (se_tup (sa_cons se_int (sa_cons se_int sa_nil (star_no rfl)) (star_no rfl))) sa_nil (star_no rfl)) (star_no rfl)) (star_no rfl)) (star_no rfl))) sa_nil (star_no rfl)) rfl)) (fun _ => rfl)) sa_nil (star_no rfl)) (star_no rfl)) (star_no rfl))) (by rfl) (by rfl) (by rfl))
    (sss_cons (ss_setLc (own := [("_law_number_here", 20)]) (i := 15) rfl sc_law.nd (by rfl) (by rfl) (by rfl) (si_seq (se_var (pv 14))) (blkOk_by (by rfl)) (fun _ _ _ _ _ => (sg_name (ts := (List.map (fun p : Str × Nat => p.2) [("_law_number_here", 20)])) (pg_name (i := 20) sc_law.nd (by rfl) (by first | exact .inl rfl | exact .inr rfl)) (by decide))) (fun _ _ _ _ _ => spt_nil) (fun _ _ _ _ _ => (se_lc (own := [("_law_its", 23)]) rfl sc_law.nd (si_rng1 (by rfl) M.n_range (sa_cons (se_var (pv 3)) sa_nil (star_no rfl)) rfl) (blkOk_by (by rfl)) (fun _ _ _ _ _ => (sg_name (ts := (List.map (fun p : Str × Nat => p.2) [("_law_its", 23)])) (pg_name (i := 23) sc_law.nd (by rfl) (by first | exact .inl rfl | exact .inr rfl)) (by decide))) (fun _ _ _ _ _ => spt_nil) (fun _ _ _ _ _ => (se_if (st_cmp (op_eqS (un64 hr)) ops_eqS (se_var (pv 23)) (se_var (pv 13)) (nomark _)) (se_call (sh := ⟨1, [], [.pos 0]⟩) (ok__law_number M hD) (sh__law_number_0 M) rfl hg (hr.mono (by decide)) pass_blk (by rfl) M.g__law_number M.t__law_number.kp (by decide) (sa_cons (se_var (pv 20)) sa_nil (star_no rfl)) sk_nil rfl rfl rfl (fun h => nomatch h) (fun _ => rfl)) se_int)) (fun _ => rfl))) (fun _ => rfl))
    (sss_cons (ss_if (st_cmp (op_neS (un64 hr)) ops_neS (se_call (sh := ⟨3, [], [.pos 0, .pos 1, .pos 2]⟩) (ok_even_spare M hD) (sh_even_spare_1 M) rfl hg (hr.mono (by decide)) pass_body (by rfl) M.g_even_spare M.t_even_spare.kp (by decide) (sa_cons (se_var (pv 3)) (sa_cons (se_var (pv 15)) (sa_cons (se_lc (own := [("_law_its", 23)]) rfl sc_law.nd (si_rng1 (by rfl) M.n_range (sa_cons (se_var (pv 3)) sa_nil (star_no rfl)) rfl) (blkOk_by (by rfl)) (fun _ _ _ _ _ => (sg_name (ts := (List.map (fun p : Str × Nat => p.2) [("_law_its", 23)])) (pg_name (i := 23) sc_law.nd (by rfl) (by first | exact .inl rfl | exact .inr rfl)) (by decide))) (fun _ _ _ _ _ => spt_nil) (fun _ _ _ _ _ => (se_callTy call_int1 cas_int (by rfl) M.n_int (by first | exact PySem.boot_int | decide +kernel | rfl) (sa_cons (se_cmp (op_eqS (un64 hr)) ops_eqS (se_var (pv 23)) (se_var (pv 13)) (nomark _)) sa_nil (star_no rfl)) (by decide) (by decide) rfl)) (fun _ => rfl)) sa_nil (star_no rfl)) (star_no rfl)) (star_no rfl)) sk_nil rfl rfl rfl (fun h => nomatch h) (fun _ => rfl)) se_int (nomark _)) (sss_one (ss_ret se_bl)) sss_nil)
    (sss_cons (ss_asg (sg_tup rfl (sgs_cons (sg_name (ts := [3, 16]) (pg_name (i := 3) sc_law.nd (by rfl) (by first | exact .inl rfl | exact .inr rfl)) (by decide)) (sgs_cons (sg_name (ts := [3, 16]) (pg_name (i := 16) sc_law.nd (by rfl) (by first | exact .inl rfl | exact .inr rfl)) (by decide)) sgs_nil (by rfl)) (by rfl)) (by rfl) (by rfl)) (se_tup (sa_cons (se_callIo (ok__law_one_of M hD) (binds_of M.t__law_one_of 2 fun _ _ _ _ _ _ us hl => match us, hl with | [_, _], _ => rfl) hg (hr.mono (by decide)) pass_body (by rfl) M.g__law_one_of M.t__law_one_of.kp (by decide) (pv 1) (sa_cons (se_lst (sa_cons se_int (sa_cons se_int (sa_cons se_int sa_nil (star_no rfl)) (star_no rfl)) (star_no rfl))) sa_nil (star_no rfl)) rfl) (sa_cons (se_callIo (ok__law_draw M hD) (binds_of M.t__law_draw 2 fun _ _ _ _ _ _ us hl => match us, hl with | [_, _], _ => rfl) hg (hr.mono (by decide)) pass_body (by rfl) M.g__law_draw M.t__law_draw.kp (by decide) (pv 1) (sa_cons se_int sa_nil (star_no rfl)) rfl) sa_nil (star_no rfl)) (star_no rfl))) (by rfl) (by rfl) (by rfl))
    (sss_cons (ss_par (by decide) (ps_par rfl sc_law.nd (by rfl) (by rfl) (by decide) (by rfl) (by rfl) (sa_cons (se_call (sh := ⟨2, [], [.pos 0, .pos 1]⟩) (ok__law_price M hD) (sh__law_price_0 M) rfl hg (hr.mono (by decide)) pass_body (by rfl) M.g__law_price M.t__law_price.kp (by decide) (sa_cons (se_var (pv 3)) (sa_cons (se_var (pv 16)) sa_nil (star_no rfl)) (star_no rfl)) sk_nil rfl rfl rfl (fun h => nomatch h) (fun _ => rfl)) (sa_cons (se_tup (sa_cons (se_call (sh := ⟨2, [], [.pos 0, .pos 1]⟩) (ok_even_factor M hD) (sh_even_factor_0 M) rfl hg (hr.mono (by decide)) pass_body (by rfl) M.g_even_factor M.t_even_factor.kp (by decide) (sa_cons (se_var (pv 3)) (sa_cons (se_var (pv 16)) sa_nil (star_no rfl)) (star_no rfl)) sk_nil rfl rfl rfl (fun h => nomatch h) (fun _ => rfl)) (sa_cons se_int sa_nil (star_no rfl)) (star_no rfl))) sa_nil (star_no rfl)) (star_no rfl)) (by rfl)))
    (sss_one (ss_ret (se_and (se_not (se_call (sh := ⟨2, [], [.pos 0, .pos 1]⟩) (ok__law_less M hD) (sh__law_less_0 M) rfl hg (hr.mono (by decide)) pass_body (by rfl) M.g__law_less M.t__law_less.kp (by decide) (sa_cons (se_var (pv 18)) (sa_cons (se_var (pv 17)) sa_nil (star_no rfl)) (star_no rfl)) sk_nil rfl rfl rfl (fun h => nomatch h) (fun _ => rfl))) (se_one (se_cmp (op_eqS (un64 hr)) ops_eqS (se_call (sh := ⟨2, [], [.pos 0, .pos 1]⟩) (ok__law_less M hD) (sh__law_less_0 M) rfl hg (hr.mono (by decide)) pass_body (by rfl) M.g__law_less M.t__law_less.kp (by decide) (sa_cons (se_var (pv 17)) (sa_cons (se_var (pv 18)) sa_nil (star_no rfl)) (star_no rfl)) sk_nil rfl rfl rfl (fun h => nomatch h) (fun _ => rfl)) (se_and (se_cmp op_gt ops_gt (se_var (pv 3)) se_int (nomark _)) (se_one (se_cmp op_gt ops_gt (se_var (pv 16)) se_int (nomark _)))) (nomark _)))))))))))))
theorem all_mk {w : World} {h : Heap} {fa : Addr} (X : K.In h) (G : h.Ns mainGlobals mg) (hfa : mg "law" = some (.ref fa))
    {f0 f1 f2 f3 f4 f5 f6 f7 f8 f9 f10 f11 f12 f13 f14 f15 f16 f17 f18 f19 f20 f21 f22 f23 f24 f25 f26 f27 f28 f29 f30 f31 f32 f33 f34 f35 f36 f37 f38 f39 f40 f41 f42 f43 f44 f45 f46 f47 f48 f49 f50 f51 f52 f53 f54 f55 f56 f57 : Addr} {od0 an0 od1 an1 od2 an2 od3 an3 od4 an4 od5 an5 od6 an6 od7 an7 od8 an8 od9 an9 od10 an10 od11 an11 od12 an12 od13 an13 od14 an14 od15 an15 od16 an16 od17 an17 od18 an18 od19 an19 od20 an20 od21 an21 od22 an22 od23 an23 od24 an24 od25 an25 od26 an26 od27 an27 od28 an28 od29 an29 od30 an30 od31 an31 od32 an32 od33 an33 od34 an34 od35 an35 od36 an36 od37 an37 od38 an38 od39 an39 od40 an40 od41 an41 od42 an42 od43 an43 od44 an44 od45 an45 od46 an46 od47 an47 od48 an48 od49 an49 od50 an50 od51 an51 od52 an52 od53 an53 od54 an54 od55 an55 od56 an56 od57 an57 : Option Addr} {sl0 sl1 sl2 sl3 sl4 sl5 sl6 sl7 sl8 sl9 sl10 sl11 sl12 sl13 sl14 sl15 sl16 sl17 sl18 sl19 sl20 sl21 sl22 sl23 sl24 sl25 sl26 sl27 sl28 sl29 sl30 sl31 sl32 sl33 sl34 sl35 sl36 sl37 sl38 sl39 sl40 sl41 sl42 sl43 sl44 sl45 sl46 sl47 sl48 sl49 sl50 sl51 sl52 sl53 sl54 sl55 sl56 sl57 : Array (Option Value)} {oc0 kV0 dc0 pm0 cd0 ct0 oc1 kV1 dc1 pm1 cd1 ct1 oc2 kV2 dc2 pm2 cd2 ct2 oc3 kV3 dc3 pm3 cd3 ct3 oc4 kV4 dc4 pm4 cd4 ct4 oc5 kV5 dc5 pm5 cd5 ct5 oc6 kV6 dc6 pm6 cd6 ct6 oc7 kV7 dc7 pm7 cd7 ct7 oc8 kV8 dc8 pm8 cd8 ct8 oc9 kV9 dc9 pm9 cd9 ct9 oc10 kV10 dc10 pm10 cd10 ct10 oc11 kV11 dc11 pm11 cd11 ct11 oc12 kV12 dc12 pm12 cd12 ct12 oc13 kV13 dc13 pm13 cd13 ct13 oc14 kV14 dc14 pm14 cd14 ct14 oc15 kV15 dc15 pm15 cd15 ct15 oc16 kV16 dc16 pm16 cd16 ct16 oc17 kV17 dc17 pm17 cd17 ct17 oc18 kV18 dc18 pm18 cd18 ct18 oc19 kV19 dc19 pm19 cd19 ct19 oc20 kV20 dc20 pm20 cd20 ct20 oc21 kV21 dc21 pm21 cd21 ct21 oc22 kV22 dc22 pm22 cd22 ct22 oc23 kV23 dc23 pm23 cd23 ct23 oc24 kV24 dc24 pm24 cd24 ct24 oc25 kV25 dc25 pm25 cd25 ct25 oc26 kV26 dc26 pm26 cd26 ct26 oc27 kV27 dc27 pm27 cd27 ct27 oc28 kV28 dc28 pm28 cd28 ct28 oc29 kV29 dc29 pm29 cd29 ct29 oc30 kV30 dc30 pm30 cd30 ct30 oc31 kV31 dc31 pm31 cd31 ct31 oc32 kV32 dc32 pm32 cd32 ct32 oc33 kV33 dc33 pm33 cd33 ct33 oc34 kV34 dc34 pm34 cd34 ct34 oc35 kV35 dc35 pm35 cd35 ct35 oc36 kV36 dc36 pm36 cd36 ct36 oc37 kV37 dc37 pm37 cd37 ct37 oc38 kV38 dc38 pm38 cd38 ct38 oc39 kV39 dc39 pm39 cd39 ct39 oc40 kV40 dc40 pm40 cd40 ct40 oc41 kV41 dc41 pm41 cd41 ct41 oc42 kV42 dc42 pm42 cd42 ct42 oc43 kV43 dc43 pm43 cd43 ct43 oc44 kV44 dc44 pm44 cd44 ct44 oc45 kV45 dc45 pm45 cd45 ct45 oc46 kV46 dc46 pm46 cd46 ct46 oc47 kV47 dc47 pm47 cd47 ct47 oc48 kV48 dc48 pm48 cd48 ct48 oc49 kV49 dc49 pm49 cd49 ct49 oc50 kV50 dc50 pm50 cd50 ct50 oc51 kV51 dc51 pm51 cd51 ct51 oc52 kV52 dc52 pm52 cd52 ct52 oc53 kV53 dc53 pm53 cd53 ct53 oc54 kV54 dc54 pm54 cd54 ct54 oc55 kV55 dc55 pm55 cd55 ct55 oc56 kV56 dc56 pm56 cd56 ct56 oc57 kV57 dc57 pm57 cd57 ct57 : Value} {tk0 tk1 tk2 : Tok} {T23 : Addr} {Tc23 : Value} {Td23 : Option Addr} {Tn23 : Nat} {Ts23 : Array (Option Value)} {T26 : Addr} {Tc26 : Value} {Td26 : Option Addr} {Tn26 : Nat} {Ts26 : Array (Option Value)} {Tk23_0 : Tok} {Tk26_0 : Tok}
    (p0 : PySem.W.nsIn K mainGlobals "_law_pen" = some (some (.ref f0))) (l0 : K.lookup f0 = some ⟨oc0, od0, .func (PySem.W.fnOf "_law_pen" "_law_pen" (defArgs s__law_pen) (defBody s__law_pen) (defScope s__law_pen) .none kV0 dc0 pm0 an0 cd0 ct0), sl0⟩) (c0 : PySem.W.codeIn K cd0 "_law_pen" = true) (q0 : PySem.W.keepIn K (.ref f0) = true)
    (p1 : PySem.W.nsIn K mainGlobals "_law_draw" = some (some (.ref f1))) (l1 : K.lookup f1 = some ⟨oc1, od1, .func (PySem.W.fnOf "_law_draw" "_law_draw" (defArgs s__law_draw) (defBody s__law_draw) (defScope s__law_draw) .none kV1 dc1 pm1 an1 cd1 ct1), sl1⟩) (c1 : PySem.W.codeIn K cd1 "_law_draw" = true) (q1 : PySem.W.keepIn K (.ref f1) = true)
    (p2 : PySem.W.nsIn K mainGlobals "_law_one_of" = some (some (.ref f2))) (l2 : K.lookup f2 = some ⟨oc2, od2, .func (PySem.W.fnOf "_law_one_of" "_law_one_of" (defArgs s__law_one_of) (defBody s__law_one_of) (defScope s__law_one_of) .none kV2 dc2 pm2 an2 cd2 ct2), sl2⟩) (c2 : PySem.W.codeIn K cd2 "_law_one_of" = true) (q2 : PySem.W.keepIn K (.ref f2) = true)
    (p3 : PySem.W.nsIn K mainGlobals "_law_number" = some (some (.ref f3))) (l3 : K.lookup f3 = some ⟨oc3, od3, .func (PySem.W.fnOf "_law_number" "_law_number" (defArgs s__law_number) (defBody s__law_number) (defScope s__law_number) .none kV3 dc3 pm3 an3 cd3 ct3), sl3⟩) (c3 : PySem.W.codeIn K cd3 "_law_number" = true) (q3 : PySem.W.keepIn K (.ref f3) = true)
    (p4 : PySem.W.nsIn K mainGlobals "_law_passed" = some (some (.ref f4))) (l4 : K.lookup f4 = some ⟨oc4, od4, .func (PySem.W.fnOf "_law_passed" "_law_passed" (defArgs s__law_passed) (defBody s__law_passed) (defScope s__law_passed) .none kV4 dc4 pm4 an4 cd4 ct4), sl4⟩) (c4 : PySem.W.codeIn K cd4 "_law_passed" = true) (q4 : PySem.W.keepIn K (.ref f4) = true)
    (p5 : PySem.W.nsIn K mainGlobals "_law_low" = some (some (.ref f5))) (l5 : K.lookup f5 = some ⟨oc5, od5, .func (PySem.W.fnOf "_law_low" "_law_low" (defArgs s__law_low) (defBody s__law_low) (defScope s__law_low) .none kV5 dc5 pm5 an5 cd5 ct5), sl5⟩) (c5 : PySem.W.codeIn K cd5 "_law_low" = true) (q5 : PySem.W.keepIn K (.ref f5) = true)
    (p6 : PySem.W.nsIn K mainGlobals "_law_plus" = some (some (.ref f6))) (l6 : K.lookup f6 = some ⟨oc6, od6, .func (PySem.W.fnOf "_law_plus" "_law_plus" (defArgs s__law_plus) (defBody s__law_plus) (defScope s__law_plus) .none kV6 dc6 pm6 an6 cd6 ct6), sl6⟩) (c6 : PySem.W.codeIn K cd6 "_law_plus" = true) (q6 : PySem.W.keepIn K (.ref f6) = true)
    (p7 : PySem.W.nsIn K mainGlobals "_law_sum" = some (some (.ref f7))) (l7 : K.lookup f7 = some ⟨oc7, od7, .func (PySem.W.fnOf "_law_sum" "_law_sum" (defArgs s__law_sum) (defBody s__law_sum) (defScope s__law_sum) .none kV7 dc7 pm7 an7 cd7 ct7), sl7⟩) (c7 : PySem.W.codeIn K cd7 "_law_sum" = true) (q7 : PySem.W.keepIn K (.ref f7) = true)
    (p8 : PySem.W.nsIn K mainGlobals "_law_times" = some (some (.ref f8))) (l8 : K.lookup f8 = some ⟨oc8, od8, .func (PySem.W.fnOf "_law_times" "_law_times" (defArgs s__law_times) (defBody s__law_times) (defScope s__law_times) .none kV8 dc8 pm8 an8 cd8 ct8), sl8⟩) (c8 : PySem.W.codeIn K cd8 "_law_times" = true) (q8 : PySem.W.keepIn K (.ref f8) = true)
    (p9 : PySem.W.nsIn K mainGlobals "_law_mix" = some (some (.ref f9))) (l9 : K.lookup f9 = some ⟨oc9, od9, .func (PySem.W.fnOf "_law_mix" "_law_mix" (defArgs s__law_mix) (defBody s__law_mix) (defScope s__law_mix) .none kV9 dc9 pm9 an9 cd9 ct9), sl9⟩) (c9 : PySem.W.codeIn K cd9 "_law_mix" = true) (q9 : PySem.W.keepIn K (.ref f9) = true)
    (p10 : PySem.W.nsIn K mainGlobals "is_integer" = some (some (.ref f10))) (l10 : K.lookup f10 = some ⟨oc10, od10, .func (PySem.W.fnOf "is_integer" "is_integer" (defArgs s_is_integer) (defBody s_is_integer) (defScope s_is_integer) .none kV10 dc10 pm10 an10 cd10 ct10), sl10⟩) (c10 : PySem.W.codeIn K cd10 "is_integer" = true) (q10 : PySem.W.keepIn K (.ref f10) = true)
    (p11 : PySem.W.nsIn K mainGlobals "is_within" = some (some (.ref f11))) (l11 : K.lookup f11 = some ⟨oc11, od11, .func (PySem.W.fnOf "is_within" "is_within" (defArgs s_is_within) (defBody s_is_within) (defScope s_is_within) .none kV11 dc11 pm11 an11 cd11 ct11), sl11⟩) (c11 : PySem.W.codeIn K cd11 "is_within" = true) (q11 : PySem.W.keepIn K (.ref f11) = true)
    (p12 : PySem.W.nsIn K mainGlobals "need_integer" = some (some (.ref f12))) (l12 : K.lookup f12 = some ⟨oc12, od12, .func (PySem.W.fnOf "need_integer" "need_integer" (defArgs s_need_integer) (defBody s_need_integer) (defScope s_need_integer) .none kV12 dc12 pm12 an12 cd12 ct12), sl12⟩) (c12 : PySem.W.codeIn K cd12 "need_integer" = true) (q12 : PySem.W.keepIn K (.ref f12) = true)
    (p13 : PySem.W.nsIn K mainGlobals "need_goods" = some (some (.ref f13))) (l13 : K.lookup f13 = some ⟨oc13, od13, .func (PySem.W.fnOf "need_goods" "need_goods" (defArgs s_need_goods) (defBody s_need_goods) (defScope s_need_goods) .none kV13 dc13 pm13 an13 cd13 ct13), sl13⟩) (c13 : PySem.W.codeIn K cd13 "need_goods" = true) (q13 : PySem.W.keepIn K (.ref f13) = true)
    (p14 : PySem.W.nsIn K mainGlobals "is_list" = some (some (.ref f14))) (l14 : K.lookup f14 = some ⟨oc14, od14, .func (PySem.W.fnOf "is_list" "is_list" (defArgs s_is_list) (defBody s_is_list) (defScope s_is_list) .none kV14 dc14 pm14 an14 cd14 ct14), sl14⟩) (c14 : PySem.W.codeIn K cd14 "is_list" = true) (q14 : PySem.W.keepIn K (.ref f14) = true)
    (p15 : PySem.W.nsIn K mainGlobals "common" = some (some (.ref f15))) (l15 : K.lookup f15 = some ⟨oc15, od15, .func (PySem.W.fnOf "common" "common" (defArgs s_common) (defBody s_common) (defScope s_common) .none kV15 dc15 pm15 an15 cd15 ct15), sl15⟩) (c15 : PySem.W.codeIn K cd15 "common" = true) (q15 : PySem.W.keepIn K (.ref f15) = true)
    (p16 : PySem.W.nsIn K mainGlobals "is_number" = some (some (.ref f16))) (l16 : K.lookup f16 = some ⟨oc16, od16, .func (PySem.W.fnOf "is_number" "is_number" (defArgs s_is_number) (defBody s_is_number) (defScope s_is_number) .none kV16 dc16 pm16 an16 cd16 ct16), sl16⟩) (c16 : PySem.W.codeIn K cd16 "is_number" = true) (q16 : PySem.W.keepIn K (.ref f16) = true)
    (p17 : PySem.W.nsIn K mainGlobals "above_in" = some (some (.ref f17))) (l17 : K.lookup f17 = some ⟨oc17, od17, .func (PySem.W.fnOf "above_in" "above_in" (defArgs s_above_in) (defBody s_above_in) (defScope s_above_in) .none kV17 dc17 pm17 an17 cd17 ct17), sl17⟩) (c17 : PySem.W.codeIn K cd17 "above_in" = true) (q17 : PySem.W.keepIn K (.ref f17) = true)
    (p18 : PySem.W.nsIn K mainGlobals "is_from_0" = some (some (.ref f18))) (l18 : K.lookup f18 = some ⟨oc18, od18, .func (PySem.W.fnOf "is_from_0" "is_from_0" (defArgs s_is_from_0) (defBody s_is_from_0) (defScope s_is_from_0) .none kV18 dc18 pm18 an18 cd18 ct18), sl18⟩) (c18 : PySem.W.codeIn K cd18 "is_from_0" = true) (q18 : PySem.W.keepIn K (.ref f18) = true)
    (p19 : PySem.W.nsIn K mainGlobals "is_row" = some (some (.ref f19))) (l19 : K.lookup f19 = some ⟨oc19, od19, .func (PySem.W.fnOf "is_row" "is_row" (defArgs s_is_row) (defBody s_is_row) (defScope s_is_row) .none kV19 dc19 pm19 an19 cd19 ct19), sl19⟩) (c19 : PySem.W.codeIn K cd19 "is_row" = true) (q19 : PySem.W.keepIn K (.ref f19) = true)
    (p20 : PySem.W.nsIn K mainGlobals "is_market_of" = some (some (.ref f20))) (l20 : K.lookup f20 = some ⟨oc20, od20, .func (PySem.W.fnOf "is_market_of" "is_market_of" (defArgs s_is_market_of) (defBody s_is_market_of) (defScope s_is_market_of) .none kV20 dc20 pm20 an20 cd20 ct20), sl20⟩) (c20 : PySem.W.codeIn K cd20 "is_market_of" = true) (q20 : PySem.W.keepIn K (.ref f20) = true)
    (p21 : PySem.W.nsIn K mainGlobals "kept" = some (some (.ref f21))) (l21 : K.lookup f21 = some ⟨oc21, od21, .func (PySem.W.fnOf "kept" "kept" (defArgs s_kept) (defBody s_kept) (defScope s_kept) .none kV21 dc21 pm21 an21 cd21 ct21), sl21⟩) (c21 : PySem.W.codeIn K cd21 "kept" = true) (q21 : PySem.W.keepIn K (.ref f21) = true)
    (p22 : PySem.W.nsIn K mainGlobals "kept_row" = some (some (.ref f22))) (l22 : K.lookup f22 = some ⟨oc22, od22, .func (PySem.W.fnOf "kept_row" "kept_row" (defArgs s_kept_row) (defBody s_kept_row) (defScope s_kept_row) .none kV22 dc22 pm22 an22 cd22 ct22), sl22⟩) (c22 : PySem.W.codeIn K cd22 "kept_row" = true) (q22 : PySem.W.keepIn K (.ref f22) = true)
    (p23 : PySem.W.nsIn K mainGlobals "need_market" = some (some (.ref f23))) (l23 : K.lookup f23 = some ⟨oc23, od23, .func (PySem.W.fnOf "need_market" "need_market" (defArgs s_need_market) (defBody s_need_market) (defScope s_need_market) (.ref T23) kV23 dc23 pm23 an23 cd23 ct23), sl23⟩) (c23 : PySem.W.codeIn K cd23 "need_market" = true) (q23 : PySem.W.keepIn K (.ref f23) = true)
    (r23 : K.lookup T23 = some ⟨Tc23, Td23, .seq [.str "market" Tk23_0].toArray Tn23, Ts23⟩)
    (p24 : PySem.W.nsIn K mainGlobals "is_sum_1" = some (some (.ref f24))) (l24 : K.lookup f24 = some ⟨oc24, od24, .func (PySem.W.fnOf "is_sum_1" "is_sum_1" (defArgs s_is_sum_1) (defBody s_is_sum_1) (defScope s_is_sum_1) .none kV24 dc24 pm24 an24 cd24 ct24), sl24⟩) (c24 : PySem.W.codeIn K cd24 "is_sum_1" = true) (q24 : PySem.W.keepIn K (.ref f24) = true)
    (p25 : PySem.W.nsIn K mainGlobals "is_mix_of" = some (some (.ref f25))) (l25 : K.lookup f25 = some ⟨oc25, od25, .func (PySem.W.fnOf "is_mix_of" "is_mix_of" (defArgs s_is_mix_of) (defBody s_is_mix_of) (defScope s_is_mix_of) .none kV25 dc25 pm25 an25 cd25 ct25), sl25⟩) (c25 : PySem.W.codeIn K cd25 "is_mix_of" = true) (q25 : PySem.W.keepIn K (.ref f25) = true)
    (p26 : PySem.W.nsIn K mainGlobals "need_mix" = some (some (.ref f26))) (l26 : K.lookup f26 = some ⟨oc26, od26, .func (PySem.W.fnOf "need_mix" "need_mix" (defArgs s_need_mix) (defBody s_need_mix) (defScope s_need_mix) (.ref T26) kV26 dc26 pm26 an26 cd26 ct26), sl26⟩) (c26 : PySem.W.codeIn K cd26 "need_mix" = true) (q26 : PySem.W.keepIn K (.ref f26) = true)
    (r26 : K.lookup T26 = some ⟨Tc26, Td26, .seq [.str "shares" Tk26_0].toArray Tn26, Ts26⟩)
    (p27 : PySem.W.nsIn K mainGlobals "choose_in" = some (some (.ref f27))) (l27 : K.lookup f27 = some ⟨oc27, od27, .func (PySem.W.fnOf "choose_in" "choose_in" (defArgs s_choose_in) (defBody s_choose_in) (defScope s_choose_in) .none kV27 dc27 pm27 an27 cd27 ct27), sl27⟩) (c27 : PySem.W.codeIn K cd27 "choose_in" = true) (q27 : PySem.W.keepIn K (.ref f27) = true)
    (p28 : PySem.W.nsIn K mainGlobals "factor_in" = some (some (.ref f28))) (l28 : K.lookup f28 = some ⟨oc28, od28, .func (PySem.W.fnOf "factor_in" "factor_in" (defArgs s_factor_in) (defBody s_factor_in) (defScope s_factor_in) .none kV28 dc28 pm28 an28 cd28 ct28), sl28⟩) (c28 : PySem.W.codeIn K cd28 "factor_in" = true) (q28 : PySem.W.keepIn K (.ref f28) = true)
    (p29 : PySem.W.nsIn K mainGlobals "need_few" = some (some (.ref f29))) (l29 : K.lookup f29 = some ⟨oc29, od29, .func (PySem.W.fnOf "need_few" "need_few" (defArgs s_need_few) (defBody s_need_few) (defScope s_need_few) .none kV29 dc29 pm29 an29 cd29 ct29), sl29⟩) (c29 : PySem.W.codeIn K cd29 "need_few" = true) (q29 : PySem.W.keepIn K (.ref f29) = true)
    (p30 : PySem.W.nsIn K mainGlobals "lowest" = some (some (.ref f30))) (l30 : K.lookup f30 = some ⟨oc30, od30, .func (PySem.W.fnOf "lowest" "lowest" (defArgs s_lowest) (defBody s_lowest) (defScope s_lowest) .none kV30 dc30 pm30 an30 cd30 ct30), sl30⟩) (c30 : PySem.W.codeIn K cd30 "lowest" = true) (q30 : PySem.W.keepIn K (.ref f30) = true)
    (p31 : PySem.W.nsIn K mainGlobals "halves" = some (some (.ref f31))) (l31 : K.lookup f31 = some ⟨oc31, od31, .func (PySem.W.fnOf "halves" "halves" (defArgs s_halves) (defBody s_halves) (defScope s_halves) .none kV31 dc31 pm31 an31 cd31 ct31), sl31⟩) (c31 : PySem.W.codeIn K cd31 "halves" = true) (q31 : PySem.W.keepIn K (.ref f31) = true)
    (p32 : PySem.W.nsIn K mainGlobals "product" = some (some (.ref f32))) (l32 : K.lookup f32 = some ⟨oc32, od32, .func (PySem.W.fnOf "product" "product" (defArgs s_product) (defBody s_product) (defScope s_product) .none kV32 dc32 pm32 an32 cd32 ct32), sl32⟩) (c32 : PySem.W.codeIn K cd32 "product" = true) (q32 : PySem.W.keepIn K (.ref f32) = true)
    (p33 : PySem.W.nsIn K mainGlobals "multiplied" = some (some (.ref f33))) (l33 : K.lookup f33 = some ⟨oc33, od33, .func (PySem.W.fnOf "multiplied" "multiplied" (defArgs s_multiplied) (defBody s_multiplied) (defScope s_multiplied) .none kV33 dc33 pm33 an33 cd33 ct33), sl33⟩) (c33 : PySem.W.codeIn K cd33 "multiplied" = true) (q33 : PySem.W.keepIn K (.ref f33) = true)
    (p34 : PySem.W.nsIn K mainGlobals "added" = some (some (.ref f34))) (l34 : K.lookup f34 = some ⟨oc34, od34, .func (PySem.W.fnOf "added" "added" (defArgs s_added) (defBody s_added) (defScope s_added) .none kV34 dc34 pm34 an34 cd34 ct34), sl34⟩) (c34 : PySem.W.codeIn K cd34 "added" = true) (q34 : PySem.W.keepIn K (.ref f34) = true)
    (p35 : PySem.W.nsIn K mainGlobals "turned" = some (some (.ref f35))) (l35 : K.lookup f35 = some ⟨oc35, od35, .func (PySem.W.fnOf "turned" "turned" (defArgs s_turned) (defBody s_turned) (defScope s_turned) .none kV35 dc35 pm35 an35 cd35 ct35), sl35⟩) (c35 : PySem.W.codeIn K cd35 "turned" = true) (q35 : PySem.W.keepIn K (.ref f35) = true)
    (p36 : PySem.W.nsIn K mainGlobals "less_by" = some (some (.ref f36))) (l36 : K.lookup f36 = some ⟨oc36, od36, .func (PySem.W.fnOf "less_by" "less_by" (defArgs s_less_by) (defBody s_less_by) (defScope s_less_by) .none kV36 dc36 pm36 an36 cd36 ct36), sl36⟩) (c36 : PySem.W.codeIn K cd36 "less_by" = true) (q36 : PySem.W.keepIn K (.ref f36) = true)
    (p37 : PySem.W.nsIn K mainGlobals "total" = some (some (.ref f37))) (l37 : K.lookup f37 = some ⟨oc37, od37, .func (PySem.W.fnOf "total" "total" (defArgs s_total) (defBody s_total) (defScope s_total) .none kV37 dc37 pm37 an37 cd37 ct37), sl37⟩) (c37 : PySem.W.codeIn K cd37 "total" = true) (q37 : PySem.W.keepIn K (.ref f37) = true)
    (p38 : PySem.W.nsIn K mainGlobals "summed" = some (some (.ref f38))) (l38 : K.lookup f38 = some ⟨oc38, od38, .func (PySem.W.fnOf "summed" "summed" (defArgs s_summed) (defBody s_summed) (defScope s_summed) .none kV38 dc38 pm38 an38 cd38 ct38), sl38⟩) (c38 : PySem.W.codeIn K cd38 "summed" = true) (q38 : PySem.W.keepIn K (.ref f38) = true)
    (p39 : PySem.W.nsIn K mainGlobals "factorial" = some (some (.ref f39))) (l39 : K.lookup f39 = some ⟨oc39, od39, .func (PySem.W.fnOf "factorial" "factorial" (defArgs s_factorial) (defBody s_factorial) (defScope s_factorial) .none kV39 dc39 pm39 an39 cd39 ct39), sl39⟩) (c39 : PySem.W.codeIn K cd39 "factorial" = true) (q39 : PySem.W.keepIn K (.ref f39) = true)
    (p40 : PySem.W.nsIn K mainGlobals "weight_in" = some (some (.ref f40))) (l40 : K.lookup f40 = some ⟨oc40, od40, .func (PySem.W.fnOf "weight_in" "weight_in" (defArgs s_weight_in) (defBody s_weight_in) (defScope s_weight_in) .none kV40 dc40 pm40 an40 cd40 ct40), sl40⟩) (c40 : PySem.W.codeIn K cd40 "weight_in" = true) (q40 : PySem.W.keepIn K (.ref f40) = true)
    (p41 : PySem.W.nsIn K mainGlobals "with_one" = some (some (.ref f41))) (l41 : K.lookup f41 = some ⟨oc41, od41, .func (PySem.W.fnOf "with_one" "with_one" (defArgs s_with_one) (defBody s_with_one) (defScope s_with_one) .none kV41 dc41 pm41 an41 cd41 ct41), sl41⟩) (c41 : PySem.W.codeIn K cd41 "with_one" = true) (q41 : PySem.W.keepIn K (.ref f41) = true)
    (p42 : PySem.W.nsIn K mainGlobals "grouped" = some (some (.ref f42))) (l42 : K.lookup f42 = some ⟨oc42, od42, .func (PySem.W.fnOf "grouped" "grouped" (defArgs s_grouped) (defBody s_grouped) (defScope s_grouped) .none kV42 dc42 pm42 an42 cd42 ct42), sl42⟩) (c42 : PySem.W.codeIn K cd42 "grouped" = true) (q42 : PySem.W.keepIn K (.ref f42) = true)
    (p43 : PySem.W.nsIn K mainGlobals "purse_in" = some (some (.ref f43))) (l43 : K.lookup f43 = some ⟨oc43, od43, .func (PySem.W.fnOf "purse_in" "purse_in" (defArgs s_purse_in) (defBody s_purse_in) (defScope s_purse_in) .none kV43 dc43 pm43 an43 cd43 ct43), sl43⟩) (c43 : PySem.W.codeIn K cd43 "purse_in" = true) (q43 : PySem.W.keepIn K (.ref f43) = true)
    (p44 : PySem.W.nsIn K mainGlobals "even_spare" = some (some (.ref f44))) (l44 : K.lookup f44 = some ⟨oc44, od44, .func (PySem.W.fnOf "even_spare" "even_spare" (defArgs s_even_spare) (defBody s_even_spare) (defScope s_even_spare) .none kV44 dc44 pm44 an44 cd44 ct44), sl44⟩) (c44 : PySem.W.codeIn K cd44 "even_spare" = true) (q44 : PySem.W.keepIn K (.ref f44) = true)
    (p45 : PySem.W.nsIn K mainGlobals "_law_words" = some (some (.ref f45))) (l45 : K.lookup f45 = some ⟨oc45, od45, .func (PySem.W.fnOf "_law_words" "_law_words" (defArgs s__law_words) (defBody s__law_words) (defScope s__law_words) .none kV45 dc45 pm45 an45 cd45 ct45), sl45⟩) (c45 : PySem.W.codeIn K cd45 "_law_words" = true) (q45 : PySem.W.keepIn K (.ref f45) = true)
    (p46 : PySem.W.nsIn K mainGlobals "_law_price" = some (some (.ref f46))) (l46 : K.lookup f46 = some ⟨oc46, od46, .func (PySem.W.fnOf "_law_price" "_law_price" (defArgs s__law_price) (defBody s__law_price) (defScope s__law_price) .none kV46 dc46 pm46 an46 cd46 ct46), sl46⟩) (c46 : PySem.W.codeIn K cd46 "_law_price" = true) (q46 : PySem.W.keepIn K (.ref f46) = true)
    (p47 : PySem.W.nsIn K mainGlobals "_law_day" = some (some (.ref f47))) (l47 : K.lookup f47 = some ⟨oc47, od47, .func (PySem.W.fnOf "_law_day" "_law_day" (defArgs s__law_day) (defBody s__law_day) (defScope s__law_day) .none kV47 dc47 pm47 an47 cd47 ct47), sl47⟩) (c47 : PySem.W.codeIn K cd47 "_law_day" = true) (q47 : PySem.W.keepIn K (.ref f47) = true)
    (p48 : PySem.W.nsIn K mainGlobals "_law_paid" = some (some (.ref f48))) (l48 : K.lookup f48 = some ⟨oc48, od48, .func (PySem.W.fnOf "_law_paid" "_law_paid" (defArgs s__law_paid) (defBody s__law_paid) (defScope s__law_paid) .none kV48 dc48 pm48 an48 cd48 ct48), sl48⟩) (c48 : PySem.W.codeIn K cd48 "_law_paid" = true) (q48 : PySem.W.keepIn K (.ref f48) = true)
    (p49 : PySem.W.nsIn K mainGlobals "_law_worth" = some (some (.ref f49))) (l49 : K.lookup f49 = some ⟨oc49, od49, .func (PySem.W.fnOf "_law_worth" "_law_worth" (defArgs s__law_worth) (defBody s__law_worth) (defScope s__law_worth) .none kV49 dc49 pm49 an49 cd49 ct49), sl49⟩) (c49 : PySem.W.codeIn K cd49 "_law_worth" = true) (q49 : PySem.W.keepIn K (.ref f49) = true)
    (p50 : PySem.W.nsIn K mainGlobals "_law_bettered" = some (some (.ref f50))) (l50 : K.lookup f50 = some ⟨oc50, od50, .func (PySem.W.fnOf "_law_bettered" "_law_bettered" (defArgs s__law_bettered) (defBody s__law_bettered) (defScope s__law_bettered) .none kV50 dc50 pm50 an50 cd50 ct50), sl50⟩) (c50 : PySem.W.codeIn K cd50 "_law_bettered" = true) (q50 : PySem.W.keepIn K (.ref f50) = true)
    (p51 : PySem.W.nsIn K mainGlobals "need_days" = some (some (.ref f51))) (l51 : K.lookup f51 = some ⟨oc51, od51, .func (PySem.W.fnOf "need_days" "need_days" (defArgs s_need_days) (defBody s_need_days) (defScope s_need_days) .none kV51 dc51 pm51 an51 cd51 ct51), sl51⟩) (c51 : PySem.W.codeIn K cd51 "need_days" = true) (q51 : PySem.W.keepIn K (.ref f51) = true)
    (p52 : PySem.W.nsIn K mainGlobals "even_factor" = some (some (.ref f52))) (l52 : K.lookup f52 = some ⟨oc52, od52, .func (PySem.W.fnOf "even_factor" "even_factor" (defArgs s_even_factor) (defBody s_even_factor) (defScope s_even_factor) .none kV52 dc52 pm52 an52 cd52 ct52), sl52⟩) (c52 : PySem.W.codeIn K cd52 "even_factor" = true) (q52 : PySem.W.keepIn K (.ref f52) = true)
    (p53 : PySem.W.nsIn K mainGlobals "_law_less" = some (some (.ref f53))) (l53 : K.lookup f53 = some ⟨oc53, od53, .func (PySem.W.fnOf "_law_less" "_law_less" (defArgs s__law_less) (defBody s__law_less) (defScope s__law_less) .none kV53 dc53 pm53 an53 cd53 ct53), sl53⟩) (c53 : PySem.W.codeIn K cd53 "_law_less" = true) (q53 : PySem.W.keepIn K (.ref f53) = true)
    (p54 : PySem.W.nsIn K mainGlobals "even_purse" = some (some (.ref f54))) (l54 : K.lookup f54 = some ⟨oc54, od54, .func (PySem.W.fnOf "even_purse" "even_purse" (defArgs s_even_purse) (defBody s_even_purse) (defScope s_even_purse) .none kV54 dc54 pm54 an54 cd54 ct54), sl54⟩) (c54 : PySem.W.codeIn K cd54 "even_purse" = true) (q54 : PySem.W.keepIn K (.ref f54) = true)
    (p55 : PySem.W.nsIn K mainGlobals "_law_weight" = some (some (.ref f55))) (l55 : K.lookup f55 = some ⟨oc55, od55, .func (PySem.W.fnOf "_law_weight" "_law_weight" (defArgs s__law_weight) (defBody s__law_weight) (defScope s__law_weight) .none kV55 dc55 pm55 an55 cd55 ct55), sl55⟩) (c55 : PySem.W.codeIn K cd55 "_law_weight" = true) (q55 : PySem.W.keepIn K (.ref f55) = true)
    (p56 : PySem.W.nsIn K mainGlobals "_law_even" = some (some (.ref f56))) (l56 : K.lookup f56 = some ⟨oc56, od56, .func (PySem.W.fnOf "_law_even" "_law_even" (defArgs s__law_even) (defBody s__law_even) (defScope s__law_even) .none kV56 dc56 pm56 an56 cd56 ct56), sl56⟩) (c56 : PySem.W.codeIn K cd56 "_law_even" = true) (q56 : PySem.W.keepIn K (.ref f56) = true)
    (p57 : PySem.W.nsIn K mainGlobals "law" = some (some (.ref f57))) (l57 : K.lookup f57 = some ⟨oc57, od57, .func (PySem.W.fnOf "law" "law" (defArgs s_law) (defBody s_law) (defScope s_law) .none kV57 dc57 pm57 an57 cd57 ct57), sl57⟩) (c57 : PySem.W.codeIn K cd57 "law" = true) (q57 : PySem.W.keepIn K (.ref f57) = true)
    (b0 : PySem.W.nsIn K mainGlobals "abs" = some none)
    (b1 : PySem.W.nsIn K mainGlobals "all" = some none)
    (b2 : PySem.W.nsIn K mainGlobals "bool" = some none)
    (b3 : PySem.W.nsIn K mainGlobals "enumerate" = some none)
    (b4 : PySem.W.nsIn K mainGlobals "int" = some none)
    (b5 : PySem.W.nsIn K mainGlobals "isinstance" = some none)
    (b6 : PySem.W.nsIn K mainGlobals "len" = some none)
    (b7 : PySem.W.nsIn K mainGlobals "list" = some none)
    (b8 : PySem.W.nsIn K mainGlobals "max" = some none)
    (b9 : PySem.W.nsIn K mainGlobals "range" = some none)
    (b10 : PySem.W.nsIn K mainGlobals "repr" = some none)
    (b11 : PySem.W.nsIn K mainGlobals "sum" = some none)
    (b12 : PySem.W.nsIn K mainGlobals "tuple" = some none)
    (b13 : PySem.W.nsIn K mainGlobals "zip" = some none)
    (v0 : PySem.W.nsIn K mainGlobals "MOST_COUNTS" = some (some (.int 5000 tk0)))
    (v1 : PySem.W.nsIn K mainGlobals "MOST_DAYS" = some (some (.int 1000 tk1)))
    (v2 : PySem.W.nsIn K mainGlobals "MOST_GOODS" = some (some (.int 5 tk2))) :
    ∃ fd : FuncData, (∀ (s : Shared) (v : Value), BindsTo s fd ⟨[v], []⟩ [("_law_script", v)]) ∧ ∀ base : Heap, K.In base → base.Ns mainGlobals mg → base.NoDigits → FnG P w K mg base 9 fa fd ["_law_script"] (spF ⟨K, mg⟩ 1 false F_law) := by
  have e := hfa.symm.trans (PySem.W.mg_of X G p57)
  cases e
  let M : Md K mg := {
    a__law_pen := f0
    d__law_pen := _
    t__law_pen := fun_mk (st := s__law_pen) l0 c0 q0
    g__law_pen := PySem.W.mg_of X G p0
    a__law_draw := f1
    d__law_draw := _
    t__law_draw := fun_mk (st := s__law_draw) l1 c1 q1
    g__law_draw := PySem.W.mg_of X G p1
    a__law_one_of := f2
    d__law_one_of := _
    t__law_one_of := fun_mk (st := s__law_one_of) l2 c2 q2
    g__law_one_of := PySem.W.mg_of X G p2
    a__law_number := f3
    d__law_number := _
    t__law_number := fun_mk (st := s__law_number) l3 c3 q3
    g__law_number := PySem.W.mg_of X G p3
    a__law_passed := f4
    d__law_passed := _
    t__law_passed := fun_mk (st := s__law_passed) l4 c4 q4
    g__law_passed := PySem.W.mg_of X G p4
    a__law_low := f5
    d__law_low := _
    t__law_low := fun_mk (st := s__law_low) l5 c5 q5
    g__law_low := PySem.W.mg_of X G p5
    a__law_plus := f6
    d__law_plus := _
    t__law_plus := fun_mk (st := s__law_plus) l6 c6 q6
    g__law_plus := PySem.W.mg_of X G p6
    a__law_sum := f7
    d__law_sum := _
    t__law_sum := fun_mk (st := s__law_sum) l7 c7 q7
    g__law_sum := PySem.W.mg_of X G p7
    a__law_times := f8
    d__law_times := _
    t__law_times := fun_mk (st := s__law_times) l8 c8 q8
    g__law_times := PySem.W.mg_of X G p8
    a__law_mix := f9
    d__law_mix := _
    t__law_mix := fun_mk (st := s__law_mix) l9 c9 q9
    g__law_mix := PySem.W.mg_of X G p9
    a_is_integer := f10
    d_is_integer := _
    t_is_integer := fun_mk (st := s_is_integer) l10 c10 q10
    g_is_integer := PySem.W.mg_of X G p10
    a_is_within := f11
    d_is_within := _
    t_is_within := fun_mk (st := s_is_within) l11 c11 q11
    g_is_within := PySem.W.mg_of X G p11
    a_need_integer := f12
    d_need_integer := _
    t_need_integer := fun_mk (st := s_need_integer) l12 c12 q12
    g_need_integer := PySem.W.mg_of X G p12
    a_need_goods := f13
    d_need_goods := _
    t_need_goods := fun_mk (st := s_need_goods) l13 c13 q13
    g_need_goods := PySem.W.mg_of X G p13
    a_is_list := f14
    d_is_list := _
    t_is_list := fun_mk (st := s_is_list) l14 c14 q14
    g_is_list := PySem.W.mg_of X G p14
    a_common := f15
    d_common := _
    t_common := fun_mk (st := s_common) l15 c15 q15
    g_common := PySem.W.mg_of X G p15
    a_is_number := f16
    d_is_number := _
    t_is_number := fun_mk (st := s_is_number) l16 c16 q16
    g_is_number := PySem.W.mg_of X G p16
    a_above_in := f17
    d_above_in := _
    t_above_in := fun_mk (st := s_above_in) l17 c17 q17
    g_above_in := PySem.W.mg_of X G p17
    a_is_from_0 := f18
    d_is_from_0 := _
    t_is_from_0 := fun_mk (st := s_is_from_0) l18 c18 q18
    g_is_from_0 := PySem.W.mg_of X G p18
    a_is_row := f19
    d_is_row := _
    t_is_row := fun_mk (st := s_is_row) l19 c19 q19
    g_is_row := PySem.W.mg_of X G p19
    a_is_market_of := f20
    d_is_market_of := _
    t_is_market_of := fun_mk (st := s_is_market_of) l20 c20 q20
    g_is_market_of := PySem.W.mg_of X G p20
    a_kept := f21
    d_kept := _
    t_kept := fun_mk (st := s_kept) l21 c21 q21
    g_kept := PySem.W.mg_of X G p21
    a_kept_row := f22
    d_kept_row := _
    t_kept_row := fun_mk (st := s_kept_row) l22 c22 q22
    g_kept_row := PySem.W.mg_of X G p22
    a_need_market := f23
    d_need_market := _
    t_need_market := funT_mk (st := s_need_market) l23 r23 (by repeat first | exact .nil | refine .cons ⟨_, rfl⟩ ?_ | refine .cons rfl ?_) c23 q23
    g_need_market := PySem.W.mg_of X G p23
    a_is_sum_1 := f24
    d_is_sum_1 := _
    t_is_sum_1 := fun_mk (st := s_is_sum_1) l24 c24 q24
    g_is_sum_1 := PySem.W.mg_of X G p24
    a_is_mix_of := f25
    d_is_mix_of := _
    t_is_mix_of := fun_mk (st := s_is_mix_of) l25 c25 q25
    g_is_mix_of := PySem.W.mg_of X G p25
    a_need_mix := f26
    d_need_mix := _
    t_need_mix := funT_mk (st := s_need_mix) l26 r26 (by repeat first | exact .nil | refine .cons ⟨_, rfl⟩ ?_ | refine .cons rfl ?_) c26 q26
    g_need_mix := PySem.W.mg_of X G p26
    a_choose_in := f27
    d_choose_in := _
    t_choose_in := fun_mk (st := s_choose_in) l27 c27 q27
    g_choose_in := PySem.W.mg_of X G p27
    a_factor_in := f28
    d_factor_in := _
    t_factor_in := fun_mk (st := s_factor_in) l28 c28 q28
    g_factor_in := PySem.W.mg_of X G p28
    a_need_few := f29
    d_need_few := _
    t_need_few := fun_mk (st := s_need_few) l29 c29 q29
    g_need_few := PySem.W.mg_of X G p29
    a_lowest := f30
    d_lowest := _
    t_lowest := fun_mk (st := s_lowest) l30 c30 q30
    g_lowest := PySem.W.mg_of X G p30
    a_halves := f31
    d_halves := _
    t_halves := fun_mk (st := s_halves) l31 c31 q31
    g_halves := PySem.W.mg_of X G p31
    a_product := f32
    d_product := _
    t_product := fun_mk (st := s_product) l32 c32 q32
    g_product := PySem.W.mg_of X G p32
    a_multiplied := f33
    d_multiplied := _
    t_multiplied := fun_mk (st := s_multiplied) l33 c33 q33
    g_multiplied := PySem.W.mg_of X G p33
    a_added := f34
    d_added := _
    t_added := fun_mk (st := s_added) l34 c34 q34
    g_added := PySem.W.mg_of X G p34
    a_turned := f35
    d_turned := _
    t_turned := fun_mk (st := s_turned) l35 c35 q35
    g_turned := PySem.W.mg_of X G p35
    a_less_by := f36
    d_less_by := _
    t_less_by := fun_mk (st := s_less_by) l36 c36 q36
    g_less_by := PySem.W.mg_of X G p36
    a_total := f37
    d_total := _
    t_total := fun_mk (st := s_total) l37 c37 q37
    g_total := PySem.W.mg_of X G p37
    a_summed := f38
    d_summed := _
    t_summed := fun_mk (st := s_summed) l38 c38 q38
    g_summed := PySem.W.mg_of X G p38
    a_factorial := f39
    d_factorial := _
    t_factorial := fun_mk (st := s_factorial) l39 c39 q39
    g_factorial := PySem.W.mg_of X G p39
    a_weight_in := f40
    d_weight_in := _
    t_weight_in := fun_mk (st := s_weight_in) l40 c40 q40
    g_weight_in := PySem.W.mg_of X G p40
    a_with_one := f41
    d_with_one := _
    t_with_one := fun_mk (st := s_with_one) l41 c41 q41
    g_with_one := PySem.W.mg_of X G p41
    a_grouped := f42
    d_grouped := _
    t_grouped := fun_mk (st := s_grouped) l42 c42 q42
    g_grouped := PySem.W.mg_of X G p42
    a_purse_in := f43
    d_purse_in := _
    t_purse_in := fun_mk (st := s_purse_in) l43 c43 q43
    g_purse_in := PySem.W.mg_of X G p43
    a_even_spare := f44
    d_even_spare := _
    t_even_spare := fun_mk (st := s_even_spare) l44 c44 q44
    g_even_spare := PySem.W.mg_of X G p44
    a__law_words := f45
    d__law_words := _
    t__law_words := fun_mk (st := s__law_words) l45 c45 q45
    g__law_words := PySem.W.mg_of X G p45
    a__law_price := f46
    d__law_price := _
    t__law_price := fun_mk (st := s__law_price) l46 c46 q46
    g__law_price := PySem.W.mg_of X G p46
    a__law_day := f47
    d__law_day := _
    t__law_day := fun_mk (st := s__law_day) l47 c47 q47
    g__law_day := PySem.W.mg_of X G p47
    a__law_paid := f48
    d__law_paid := _
    t__law_paid := fun_mk (st := s__law_paid) l48 c48 q48
    g__law_paid := PySem.W.mg_of X G p48
    a__law_worth := f49
    d__law_worth := _
    t__law_worth := fun_mk (st := s__law_worth) l49 c49 q49
    g__law_worth := PySem.W.mg_of X G p49
    a__law_bettered := f50
    d__law_bettered := _
    t__law_bettered := fun_mk (st := s__law_bettered) l50 c50 q50
    g__law_bettered := PySem.W.mg_of X G p50
    a_need_days := f51
    d_need_days := _
    t_need_days := fun_mk (st := s_need_days) l51 c51 q51
    g_need_days := PySem.W.mg_of X G p51
    a_even_factor := f52
    d_even_factor := _
    t_even_factor := fun_mk (st := s_even_factor) l52 c52 q52
    g_even_factor := PySem.W.mg_of X G p52
    a__law_less := f53
    d__law_less := _
    t__law_less := fun_mk (st := s__law_less) l53 c53 q53
    g__law_less := PySem.W.mg_of X G p53
    a_even_purse := f54
    d_even_purse := _
    t_even_purse := fun_mk (st := s_even_purse) l54 c54 q54
    g_even_purse := PySem.W.mg_of X G p54
    a__law_weight := f55
    d__law_weight := _
    t__law_weight := fun_mk (st := s__law_weight) l55 c55 q55
    g__law_weight := PySem.W.mg_of X G p55
    a__law_even := f56
    d__law_even := _
    t__law_even := fun_mk (st := s__law_even) l56 c56 q56
    g__law_even := PySem.W.mg_of X G p56
    a_law := fa
    d_law := _
    t_law := fun_mk (st := s_law) l57 c57 q57
    g_law := PySem.W.mg_of X G p57
    n_abs := PySem.W.mg_none_of X G b0
    n_all := PySem.W.mg_none_of X G b1
    n_bool := PySem.W.mg_none_of X G b2
    n_enumerate := PySem.W.mg_none_of X G b3
    n_int := PySem.W.mg_none_of X G b4
    n_isinstance := PySem.W.mg_none_of X G b5
    n_len := PySem.W.mg_none_of X G b6
    n_list := PySem.W.mg_none_of X G b7
    n_max := PySem.W.mg_none_of X G b8
    n_range := PySem.W.mg_none_of X G b9
    n_repr := PySem.W.mg_none_of X G b10
    n_sum := PySem.W.mg_none_of X G b11
    n_tuple := PySem.W.mg_none_of X G b12
    n_zip := PySem.W.mg_none_of X G b13
    k_MOST_COUNTS := tk0
    c_MOST_COUNTS := PySem.W.mg_of X G v0
    k_MOST_DAYS := tk1
    c_MOST_DAYS := PySem.W.mg_of X G v1
    k_MOST_GOODS := tk2
    c_MOST_GOODS := PySem.W.mg_of X G v2 }
  exact ⟨M.d_law, fun s v => .of_eq rfl, fun base _ _ hD => ok_law M hD⟩
end
end G


set_option maxRecDepth 100000
set_option maxHeartbeats 4000000
set_option exponentiation.threshold 30000
namespace G
open PySem PySem.Spec PyProof.Rows L2
/-! Rt4: whole numbers and rationals as data; the fractions of the program and of the law. -/
theorem pyl_xi {a b : Int} (h : a.natAbs < 2 ^ 13500) : Builtin.divisionGoesByPylong a b = false := by
  have hl := log_lt (by decide) h
  clear h
  unfold Builtin.divisionGoesByPylong
  rw [Bool.and_eq_false_iff, decide_eq_false_iff_not, decide_eq_false_iff_not]
  dsimp only
  split <;> split <;> omega
theorem mul_smalli {a b : Int} (ha : a.natAbs < 2 ^ 20000) (hb : b.natAbs < 2 ^ 20000) : mulOk a b = true := by
  have h1 := log_lt (by decide) ha
  have h2 := log_lt (by decide) hb
  clear ha hb
  unfold mulOk
  rw [Bool.or_eq_true]
  right
  rw [decide_eq_true_eq]
  unfold Builtin.Int.intBits
  split <;> split <;> omega
theorem i_mul {a b : Int} (h : mulOk a b = true) : opMul (.int a) (.int b) = .ok (.imm (.int (a * b))) := by
  show (if mulOk a b = true then vI (a * b) else .bad) = _
  rw [if_pos h]
  rfl
theorem i_fdiv {a b : Int} (hb : b ≠ 0) (h : a.natAbs < 2 ^ 13500) : opFDiv (.int a) (.int b) = .ok (.imm (.int (a.fdiv b))) := by
  show (if b ≠ 0 ∧ Builtin.divisionGoesByPylong a b = false then vI (Int.fdiv a b) else .bad) = _
  rw [if_pos ⟨hb, pyl_xi h⟩]
  rfl
theorem i_add (a b : Int) : opAdd (.int a) (.int b) = .ok (.imm (.int (a + b))) := rfl
theorem i_sub (a b : Int) : opSub (.int a) (.int b) = .ok (.imm (.int (a - b))) := rfl
theorem i_gt (a b : Int) : opGt (.int a) (.int b) = .ok (.imm (.bl (decide (b < a)))) := rfl
theorem i_lt (a b : Int) : opLt (.int a) (.int b) = .ok (.imm (.bl (decide (a < b)))) := rfl
theorem i_le (a b : Int) : opLe (.int a) (.int b) = .ok (.imm (.bl (decide (a ≤ b)))) := rfl
theorem i_ge (a b : Int) : opGe (.int a) (.int b) = .ok (.imm (.bl (decide (b ≤ a)))) := rfl
theorem i_neg (a : Int) : opNeg (.int a) = .ok (.imm (.int (-a))) := rfl
theorem i_eq (a b : Int) : eqS false (.int a) (.int b) = .ok (.imm (.bl (decide (a = b)))) := by
  show vB (a == b) = vB (decide (a = b))
  congr 1
theorem i_ne (a b : Int) : eqS true (.int a) (.int b) = .ok (.imm (.bl (!decide (a = b)))) := by
  show vB (!(a == b)) = vB (!decide (a = b))
  congr 1
theorem i_isi (a : Int) : isiD "int" (.int a) = .ok (.imm (.bl true)) := by
  have h : kitB "int" "int" = some true := by decide +kernel
  show (match (some "int").bind fun t => kitB t "int" with
    | some b => vB b
    | none => .bad) = _
  rw [show ((some "int").bind fun t => kitB t "int") = some true from h]
  rfl
theorem i_isb (a : Int) : isiD "bool" (.int a) = .ok (.imm (.bl false)) := by
  have h : kitB "int" "bool" = some false := by decide +kernel
  show (match (some "int").bind fun t => kitB t "bool" with
    | some b => vB b
    | none => .bad) = _
  rw [show ((some "int").bind fun t => kitB t "bool") = some false from h]
  rfl
theorem t_isi (ds : List Dt) : isiD "int" (.tup ds) = .ok (.imm (.bl false)) := by
  have h : kitB "tuple" "int" = some false := by decide +kernel
  show (match (some "tuple").bind fun t => kitB t "int" with
    | some b => vB b
    | none => .bad) = _
  rw [show ((some "tuple").bind fun t => kitB t "int") = some false from h]
  rfl
theorem jxt0 (x : Dt) (xs : List Dt) : opIx (.tup (x :: xs)) (.int 0) = .ok (.imm x) := ix_t rfl
theorem jxt1 (x y : Dt) (xs : List Dt) : opIx (.tup (x :: y :: xs)) (.int 1) = .ok (.imm y) := ix_t rfl
theorem jlen_l (ds : List Dt) : bLen [.lst ds] = .ok (.imm (.int ds.length)) := rfl
theorem jlen_t (ds : List Dt) : bLen [.tup ds] = .ok (.imm (.int ds.length)) := rfl
/-- a fraction of the law; a number of the program -/
def fr (q : Rat) : Dt := .tup [.int q.num, .int q.den]
def nm (q : Rat) : Dt := if q.den = 1 then .int q.num else .tup [.int q.num, .int q.den]
def Sz (q : Rat) : Prop := q.num.natAbs < 2 ^ 6000 ∧ q.den < 2 ^ 6000
theorem Bz.sz {D N : Nat} {q : Rat} (h : Bz D N q) (hD : D < 2 ^ 6000) (hN : N < 2 ^ 6000) : Sz q := ⟨Nat.lt_of_le_of_lt h.num hN, Nat.lt_of_le_of_lt h.den hD⟩
theorem common_loop : ∀ (n a b : Nat), b < n → sWhile (dTest (dBin opGt (dVar 1) (dC (.int 0)))) (sPar 0 1 (aCons (dVar 1) (aCons (dBin opMod (dVar 0) (dVar 1)) aNil))) n [.imm (ni a), .imm (ni b)] = .ok (.nx, [.imm (ni (Nat.gcd a b)), .imm (ni 0)])
  | 0, a, b, h => absurd h (Nat.not_lt_zero _)
  | n + 1, a, b, h => by
    unfold sWhile
    by_cases hb : b = 0
    · subst hb
      simp [dTest, dBin, dVar, dC, dMove, dUn, dIf, dTru, dAnd, dOr, dNot, tAndD, tOrD, tNotD, dTup, dLst, aCons, aNil, aStar, dCallB, dCall, dIxS, asB, asTru, truD, Val.d, sSeq, seqK, sIf, sRet, sRetN, sExpr, sSet, setVal, sAsg, gDone, sPar, sNext, itRng1, itRng2, itSeq, gSet, gTupD, gsCons, gsNil, canSet, slotD, seqD, Src.d, Src.ok, asRes, runF, env0, outOf, sizeLine, Res.map, ni_add, ni_gt, ni_lt, ni_le, ni_ge, ni_abs, ni_int, ni_eq, ni_ne, ni_isi, ni_isb, bLen_l, bLen_t, ixt0, ixt1, ixl0, ixl1, ixl2, lit0, lit1, lit2]
    · have hp : 0 < b := Nat.pos_of_ne_zero hb
      have ih := common_loop n b (a % b) (by have := Nat.mod_lt a hp; omega)
      have hg : Nat.gcd b (a % b) = Nat.gcd a b := by
        rw [Nat.gcd_comm b, ← Nat.gcd_rec, Nat.gcd_comm]
      rw [hg] at ih
      simp only [lit0] at ih
      simp [dTest, dBin, dVar, dC, dMove, dUn, dIf, dTru, dAnd, dOr, dNot, tAndD, tOrD, tNotD, dTup, dLst, aCons, aNil, aStar, dCallB, dCall, dIxS, asB, asTru, truD, Val.d, sSeq, seqK, sIf, sRet, sRetN, sExpr, sSet, setVal, sAsg, gDone, sPar, sNext, itRng1, itRng2, itSeq, gSet, gTupD, gsCons, gsNil, canSet, slotD, seqD, Src.d, Src.ok, asRes, runF, env0, outOf, sizeLine, Res.map, ni_add, ni_gt, ni_lt, ni_le, ni_ge, ni_abs, ni_int, ni_eq, ni_ne, ni_isi, ni_isb, bLen_l, bLen_t, ixt0, ixt1, ixl0, ixl1, ixl2, lit0, lit1, lit2, ni_mod hp, hp, ih]
theorem low_loop (x y : Slot) : ∀ (n a b : Nat), b < n → sWhile (dTest (dBin opGt (dVar 3) (dC (.int 0)))) (sPar 2 3 (aCons (dVar 3) (aCons (dBin opMod (dCallB bInt (aCons (dVar 2) aNil)) (dVar 3)) aNil))) n [x, y, .imm (ni a), .imm (ni b)] = .ok (.nx, [x, y, .imm (ni (Nat.gcd a b)), .imm (ni 0)])
  | 0, a, b, h => absurd h (Nat.not_lt_zero _)
  | n + 1, a, b, h => by
    unfold sWhile
    by_cases hb : b = 0
    · subst hb
      simp [dTest, dBin, dVar, dC, dMove, dUn, dIf, dTru, dAnd, dOr, dNot, tAndD, tOrD, tNotD, dTup, dLst, aCons, aNil, aStar, dCallB, dCall, dIxS, asB, asTru, truD, Val.d, sSeq, seqK, sIf, sRet, sRetN, sExpr, sSet, setVal, sAsg, gDone, sPar, sNext, itRng1, itRng2, itSeq, gSet, gTupD, gsCons, gsNil, canSet, slotD, seqD, Src.d, Src.ok, asRes, runF, env0, outOf, sizeLine, Res.map, ni_add, ni_gt, ni_lt, ni_le, ni_ge, ni_abs, ni_int, ni_eq, ni_ne, ni_isi, ni_isb, bLen_l, bLen_t, ixt0, ixt1, ixl0, ixl1, ixl2, lit0, lit1, lit2]
    · have hp : 0 < b := Nat.pos_of_ne_zero hb
      have ih := low_loop x y n b (a % b) (by have := Nat.mod_lt a hp; omega)
      have hg : Nat.gcd b (a % b) = Nat.gcd a b := by
        rw [Nat.gcd_comm b, ← Nat.gcd_rec, Nat.gcd_comm]
      rw [hg] at ih
      simp only [lit0] at ih
      simp [dTest, dBin, dVar, dC, dMove, dUn, dIf, dTru, dAnd, dOr, dNot, tAndD, tOrD, tNotD, dTup, dLst, aCons, aNil, aStar, dCallB, dCall, dIxS, asB, asTru, truD, Val.d, sSeq, seqK, sIf, sRet, sRetN, sExpr, sSet, setVal, sAsg, gDone, sPar, sNext, itRng1, itRng2, itSeq, gSet, gTupD, gsCons, gsNil, canSet, slotD, seqD, Src.d, Src.ok, asRes, runF, env0, outOf, sizeLine, Res.map, ni_add, ni_gt, ni_lt, ni_le, ni_ge, ni_abs, ni_int, ni_eq, ni_ne, ni_isi, ni_isb, bLen_l, bLen_t, ixt0, ixt1, ixl0, ixl1, ixl2, lit0, lit1, lit2, ni_mod hp, hp, ih]
theorem common_okI {a b : Int} (h : b.natAbs < 2 ^ 20000) : F_common [.int a, .int b] = .ok (.imm (.int (Nat.gcd a.natAbs b.natAbs)), none) := by
  have l := common_loop fuel a.natAbs b.natAbs h
  unfold F_common b_common
  simp only [lit0] at l ⊢
  simp [dTest, dBin, dVar, dC, dMove, dUn, dIf, dTru, dAnd, dOr, dNot, tAndD, tOrD, tNotD, dTup, dLst, aCons, aNil, aStar, dCallB, dCall, dIxS, asB, asTru, truD, Val.d, sSeq, seqK, sIf, sRet, sRetN, sExpr, sSet, setVal, sAsg, gDone, sPar, sNext, itRng1, itRng2, itSeq, gSet, gTupD, gsCons, gsNil, canSet, slotD, seqD, Src.d, Src.ok, asRes, runF, env0, outOf, sizeLine, Res.map, i_abs, l]
  rfl
theorem div_num {a b : Int} (hb : 0 < b) : ((a : Rat) / (b : Rat)).num = a.fdiv (Nat.gcd a.natAbs b.natAbs : Nat) ∧ (((a : Rat) / (b : Rat)).den : Int) = b.fdiv (Nat.gcd a.natAbs b.natAbs : Nat) := by
  rw [← Rat.divInt_eq_div]
  have e : Int.gcd b a = Nat.gcd a.natAbs b.natAbs := Nat.gcd_comm _ _
  constructor
  · rw [Rat.num_divInt, Int.sign_eq_one_of_pos hb, Int.one_mul, e, Int.fdiv_eq_ediv_of_nonneg _ (by omega)]
  · rw [Rat.den_divInt, if_neg (by omega), e, Int.fdiv_eq_ediv_of_nonneg _ (by omega)]
    rw [Int.natCast_ediv, Int.natAbs_of_nonneg (by omega)]
theorem gcd_pos {a b : Int} (hb : 0 < b) : ((Nat.gcd a.natAbs b.natAbs : Nat) : Int) ≠ 0 := by
  have : 0 < Nat.gcd a.natAbs b.natAbs := Nat.gcd_pos_of_pos_right _ (by omega)
  omega
theorem up135 {x : Nat} (h : x < 2 ^ 13500) : x < 2 ^ 20000 := Nat.lt_of_lt_of_le h (Nat.pow_le_pow_right (by decide) (by decide))
theorem lowest_okI {a b : Int} (hb : 0 < b) (ha' : a.natAbs < 2 ^ 13500) (hb' : b.natAbs < 2 ^ 13500) : F_lowest [.int a, .int b] = .ok (.imm (nm ((a : Rat) / (b : Rat))), none) := by
  have c := common_okI (a := a) (b := b) (up135 hb')
  have g := gcd_pos (a := a) hb
  have d1 := i_fdiv g ha'
  have d2 := i_fdiv g hb'
  obtain ⟨n1, n2⟩ := div_num (a := a) hb
  have hlt : ¬ b < 0 := by omega
  rw [← n1] at d1
  rw [← n2] at d2
  unfold F_lowest b_lowest nm
  by_cases h : ((a : Rat) / (b : Rat)).den = 1
  · have h' : (((a : Rat) / (b : Rat)).den : Int) = 1 := by omega
    simp [dTest, dBin, dVar, dC, dMove, dUn, dIf, dTru, dAnd, dOr, dNot, tAndD, tOrD, tNotD, dTup, dLst, aCons, aNil, aStar, dCallB, dCall, dIxS, asB, asTru, truD, Val.d, sSeq, seqK, sIf, sRet, sRetN, sExpr, sSet, setVal, sAsg, gDone, sPar, sNext, itRng1, itRng2, itSeq, gSet, gTupD, gsCons, gsNil, canSet, slotD, seqD, Src.d, Src.ok, asRes, runF, env0, outOf, sizeLine, Res.map, c, d1, d2, h, h', i_lt, i_eq, hlt]
  · have h' : ¬ (((a : Rat) / (b : Rat)).den : Int) = 1 := by omega
    simp [dTest, dBin, dVar, dC, dMove, dUn, dIf, dTru, dAnd, dOr, dNot, tAndD, tOrD, tNotD, dTup, dLst, aCons, aNil, aStar, dCallB, dCall, dIxS, asB, asTru, truD, Val.d, sSeq, seqK, sIf, sRet, sRetN, sExpr, sSet, setVal, sAsg, gDone, sPar, sNext, itRng1, itRng2, itSeq, gSet, gTupD, gsCons, gsNil, canSet, slotD, seqD, Src.d, Src.ok, asRes, runF, env0, outOf, sizeLine, Res.map, c, d1, d2, h, h', i_lt, i_eq, hlt]
theorem low_okI {a b : Int} (hb : 0 < b) (ha' : a.natAbs < 2 ^ 13500) (hb' : b.natAbs < 2 ^ 13500) : F__law_low [.int a, .int b] = .ok (.imm (fr ((a : Rat) / (b : Rat))), none) := by
  have l := low_loop (.imm (.int a)) (.imm (.int b)) fuel a.natAbs b.natAbs (up135 hb')
  have g := gcd_pos (a := a) hb
  have d1 := i_fdiv g ha'
  have d2 := i_fdiv g hb'
  obtain ⟨n1, n2⟩ := div_num (a := a) hb
  rw [← n1] at d1
  rw [← n2] at d2
  unfold F__law_low b__law_low fr
  simp only [ni_def] at l
  simp [dTest, dBin, dVar, dC, dMove, dUn, dIf, dTru, dAnd, dOr, dNot, tAndD, tOrD, tNotD, dTup, dLst, aCons, aNil, aStar, dCallB, dCall, dIxS, asB, asTru, truD, Val.d, sSeq, seqK, sIf, sRet, sRetN, sExpr, sSet, setVal, sAsg, gDone, sPar, sNext, itRng1, itRng2, itSeq, gSet, gTupD, gsCons, gsNil, canSet, slotD, seqD, Src.d, Src.ok, asRes, runF, env0, outOf, sizeLine, Res.map, i_abs, i_int, i_gt, ni_def, l, d1, d2, hb]
theorem sz_mul {a b : Nat} (ha : a < 2 ^ 6000) (hb : b < 2 ^ 6000) : a * b < 2 ^ 12000 := by
  have := Nat.mul_lt_mul_of_lt_of_lt ha hb
  rw [← Nat.pow_add, show 6000 + 6000 = 12000 from rfl] at this
  exact this
theorem up60 {x : Nat} (h : x < 2 ^ 6000) : x < 2 ^ 20000 := Nat.lt_of_lt_of_le h (Nat.pow_le_pow_right (by decide) (by decide))
theorem up120 {x : Nat} (h : x < 2 ^ 12000) : x < 2 ^ 13500 := Nat.lt_of_lt_of_le h (Nat.pow_le_pow_right (by decide) (by decide))
theorem up121 {x : Nat} (h : x < 2 ^ 12000 + 2 ^ 12000) : x < 2 ^ 13500 := by
  have e : (2 : Nat) ^ 12000 + 2 ^ 12000 = 2 ^ 12001 := by rw [Nat.pow_succ, Nat.mul_two]
  rw [e] at h
  exact Nat.lt_of_lt_of_le h (Nat.pow_le_pow_right (by decide) (by decide))
theorem den_pos' (q : Rat) : (0 : Int) < (q.den : Int) := by have := q.den_pos; omega
theorem mul_rat (p q : Rat) : ((p.num * q.num : Int) : Rat) / ((p.den * q.den : Int) : Rat) = p * q := by
  have h1 := num_div p
  have h2 := num_div q
  have e1 := ratD p.den_pos
  have e2 := ratD q.den_pos
  rw [Rat.intCast_mul, Rat.intCast_mul, Rat.intCast_natCast, Rat.intCast_natCast]
  generalize (p.num : Rat) = a at *
  generalize (q.num : Rat) = b at *
  generalize (p.den : Rat) = c at *
  generalize (q.den : Rat) = d at *
  grind
theorem add_rat (p q : Rat) : ((p.num * q.den + q.num * p.den : Int) : Rat) / ((p.den * q.den : Int) : Rat) = p + q := by
  have h1 := num_div p
  have h2 := num_div q
  have e1 := ratD p.den_pos
  have e2 := ratD q.den_pos
  rw [Rat.intCast_add, Rat.intCast_mul, Rat.intCast_mul, Rat.intCast_mul, Rat.intCast_natCast, Rat.intCast_natCast]
  generalize (p.num : Rat) = a at *
  generalize (q.num : Rat) = b at *
  generalize (p.den : Rat) = c at *
  generalize (q.den : Rat) = d at *
  grind
section
variable {p q : Rat}
theorem szm (hp : Sz p) (hq : Sz q) : mulOk p.num q.num = true ∧ mulOk p.num q.den = true ∧ mulOk q.num p.den = true ∧ mulOk p.den q.den = true ∧ (p.num * q.num).natAbs < 2 ^ 13500 ∧ ((p.den : Int) * q.den).natAbs < 2 ^ 13500 ∧ (p.num * q.den + q.num * p.den).natAbs < 2 ^ 13500 := by
  obtain ⟨p1, p2⟩ := hp
  obtain ⟨q1, q2⟩ := hq
  refine ⟨mul_smalli (up60 p1) (up60 q1), mul_smalli (up60 p1) (up60 (by simpa using q2)), mul_smalli (up60 q1) (up60 (by simpa using p2)), mul_smalli (up60 (by simpa using p2)) (up60 (by simpa using q2)), ?_, ?_, ?_⟩
  · rw [Int.natAbs_mul]
    exact up120 (sz_mul p1 q1)
  · rw [Int.natAbs_mul]
    exact up120 (sz_mul (by simpa using p2) (by simpa using q2))
  · refine up121 (Nat.lt_of_le_of_lt (Int.natAbs_add_le _ _) ?_)
    rw [Int.natAbs_mul, Int.natAbs_mul]
    exact Nat.add_lt_add (sz_mul p1 (by simpa using q2)) (sz_mul q1 (by simpa using p2))
theorem times_ok (hp : Sz p) (hq : Sz q) : F__law_times [fr p, fr q] = .ok (.imm (fr (p * q)), none) := by
  obtain ⟨m1, m2, m3, m4, s1, s2, s3⟩ := szm hp hq
  have l := low_okI (Int.mul_pos (den_pos' p) (den_pos' q)) s1 s2
  rw [mul_rat] at l
  have m1 := i_mul m1
  have m4 := i_mul m4
  unfold F__law_times b__law_times
  unfold fr at l ⊢
  simp [dTest, dBin, dVar, dC, dMove, dUn, dIf, dTru, dAnd, dOr, dNot, tAndD, tOrD, tNotD, dTup, dLst, aCons, aNil, aStar, dCallB, dCall, dIxS, asB, asTru, truD, Val.d, sSeq, seqK, sIf, sRet, sRetN, sExpr, sSet, setVal, sAsg, gDone, sPar, sNext, itRng1, itRng2, itSeq, gSet, gTupD, gsCons, gsNil, canSet, slotD, seqD, Src.d, Src.ok, asRes, runF, env0, outOf, sizeLine, Res.map, jxt0, jxt1, m1, m4, l]
theorem plus_ok (hp : Sz p) (hq : Sz q) : F__law_plus [fr p, fr q] = .ok (.imm (fr (p + q)), none) := by
  obtain ⟨m1, m2, m3, m4, s1, s2, s3⟩ := szm hp hq
  have l := low_okI (Int.mul_pos (den_pos' p) (den_pos' q)) s3 s2
  rw [add_rat] at l
  have m2 := i_mul m2
  have m3 := i_mul m3
  have m4 := i_mul m4
  unfold F__law_plus b__law_plus
  unfold fr at l ⊢
  simp [dTest, dBin, dVar, dC, dMove, dUn, dIf, dTru, dAnd, dOr, dNot, tAndD, tOrD, tNotD, dTup, dLst, aCons, aNil, aStar, dCallB, dCall, dIxS, asB, asTru, truD, Val.d, sSeq, seqK, sIf, sRet, sRetN, sExpr, sSet, setVal, sAsg, gDone, sPar, sNext, itRng1, itRng2, itSeq, gSet, gTupD, gsCons, gsNil, canSet, slotD, seqD, Src.d, Src.ok, asRes, runF, env0, outOf, sizeLine, Res.map, jxt0, jxt1, m2, m3, m4, i_add, l]
theorem number_ok (q : Rat) : F__law_number [fr q] = .ok (.imm (nm q), none) := by
  unfold F__law_number b__law_number fr nm
  by_cases h : q.den = 1
  · simp [dTest, dBin, dVar, dC, dMove, dUn, dIf, dTru, dAnd, dOr, dNot, tAndD, tOrD, tNotD, dTup, dLst, aCons, aNil, aStar, dCallB, dCall, dIxS, asB, asTru, truD, Val.d, sSeq, seqK, sIf, sRet, sRetN, sExpr, sSet, setVal, sAsg, gDone, sPar, sNext, itRng1, itRng2, itSeq, gSet, gTupD, gsCons, gsNil, canSet, slotD, seqD, Src.d, Src.ok, asRes, runF, env0, outOf, sizeLine, Res.map, jxt0, jxt1, i_eq, h]
  · have h' : ¬ (q.den : Int) = 1 := by omega
    simp [dTest, dBin, dVar, dC, dMove, dUn, dIf, dTru, dAnd, dOr, dNot, tAndD, tOrD, tNotD, dTup, dLst, aCons, aNil, aStar, dCallB, dCall, dIxS, asB, asTru, truD, Val.d, sSeq, seqK, sIf, sRet, sRetN, sExpr, sSet, setVal, sAsg, gDone, sPar, sNext, itRng1, itRng2, itSeq, gSet, gTupD, gsCons, gsNil, canSet, slotD, seqD, Src.d, Src.ok, asRes, runF, env0, outOf, sizeLine, Res.map, jxt0, jxt1, i_eq, h, h']
theorem halves_ok (q : Rat) : F_halves [nm q] = .ok (.imm (fr q), none) := by
  unfold F_halves b_halves fr nm
  by_cases h : q.den = 1
  · simp [dTest, dBin, dVar, dC, dMove, dUn, dIf, dTru, dAnd, dOr, dNot, tAndD, tOrD, tNotD, dTup, dLst, aCons, aNil, aStar, dCallB, dCall, dIxS, asB, asTru, truD, Val.d, sSeq, seqK, sIf, sRet, sRetN, sExpr, sSet, setVal, sAsg, gDone, sPar, sNext, itRng1, itRng2, itSeq, gSet, gTupD, gsCons, gsNil, canSet, slotD, seqD, Src.d, Src.ok, asRes, runF, env0, outOf, sizeLine, Res.map, i_isi, h]
  · simp [dTest, dBin, dVar, dC, dMove, dUn, dIf, dTru, dAnd, dOr, dNot, tAndD, tOrD, tNotD, dTup, dLst, aCons, aNil, aStar, dCallB, dCall, dIxS, asB, asTru, truD, Val.d, sSeq, seqK, sIf, sRet, sRetN, sExpr, sSet, setVal, sAsg, gDone, sPar, sNext, itRng1, itRng2, itSeq, gSet, gTupD, gsCons, gsNil, canSet, slotD, seqD, Src.d, Src.ok, asRes, runF, env0, outOf, sizeLine, Res.map, t_isi, jxt0, jxt1, h]
theorem fr_def (q : Rat) : fr q = .tup [.int q.num, .int q.den] := rfl
theorem added_ok (hp : Sz p) (hq : Sz q) : F_added [nm p, nm q] = .ok (.imm (nm (p + q)), none) := by
  obtain ⟨m1, m2, m3, m4, s1, s2, s3⟩ := szm hp hq
  have l := lowest_okI (Int.mul_pos (den_pos' p) (den_pos' q)) s3 s2
  rw [add_rat] at l
  have m2 := i_mul m2
  have m3 := i_mul m3
  have m4 := i_mul m4
  have h1 := halves_ok p
  have h2 := halves_ok q
  unfold F_added b_added
  rw [fr_def] at h1 h2
  simp [dTest, dBin, dVar, dC, dMove, dUn, dIf, dTru, dAnd, dOr, dNot, tAndD, tOrD, tNotD, dTup, dLst, aCons, aNil, aStar, dCallB, dCall, dIxS, asB, asTru, truD, Val.d, sSeq, seqK, sIf, sRet, sRetN, sExpr, sSet, setVal, sAsg, gDone, sPar, sNext, itRng1, itRng2, itSeq, gSet, gTupD, gsCons, gsNil, canSet, slotD, seqD, Src.d, Src.ok, asRes, runF, env0, outOf, sizeLine, Res.map, m2, m3, m4, i_add, l, h1, h2]
theorem product_ok (hp : Sz p) (hq : Sz q) : F_product [nm p, nm q] = .ok (.imm (nm (p * q)), none) := by
  obtain ⟨m1, m2, m3, m4, s1, s2, s3⟩ := szm hp hq
  have l := lowest_okI (Int.mul_pos (den_pos' p) (den_pos' q)) s1 s2
  rw [mul_rat] at l
  have m1 := i_mul m1
  have m4 := i_mul m4
  have h1 := halves_ok p
  have h2 := halves_ok q
  unfold F_product b_product
  rw [fr_def] at h1 h2
  simp [dTest, dBin, dVar, dC, dMove, dUn, dIf, dTru, dAnd, dOr, dNot, tAndD, tOrD, tNotD, dTup, dLst, aCons, aNil, aStar, dCallB, dCall, dIxS, asB, asTru, truD, Val.d, sSeq, seqK, sIf, sRet, sRetN, sExpr, sSet, setVal, sAsg, gDone, sPar, sNext, itRng1, itRng2, itSeq, gSet, gTupD, gsCons, gsNil, canSet, slotD, seqD, Src.d, Src.ok, asRes, runF, env0, outOf, sizeLine, Res.map, m1, m4, i_add, l, h1, h2]
end
end G


set_option maxRecDepth 100000
set_option maxHeartbeats 4000000
set_option exponentiation.threshold 30000
namespace G
open PySem PySem.Spec PyProof.Rows L2
/-! Rt5: checks; sums. -/
def Ls (d : Dt) (xs : List Dt) : Prop := d = .lst xs ∨ d = .tup xs
theorem Ls.seq {d : Dt} {xs : List Dt} (h : Ls d xs) : seqD d = some xs := by rcases h with rfl | rfl <;> rfl
theorem Ls.len {d : Dt} {xs : List Dt} (h : Ls d xs) : bLen [d] = .ok (.imm (.int xs.length)) := by rcases h with rfl | rfl <;> rfl
theorem Ls.tup {d : Dt} {xs : List Dt} (h : Ls d xs) : bTuple [d] = .ok (.imm (.tup xs)) := by rcases h with rfl | rfl <;> rfl
theorem isi_l (ds : List Dt) : isiD2 "list" "tuple" (.lst ds) = .ok (.imm (.bl true)) := by
  have h1 : kitB "list" "list" = some true := by decide +kernel
  have h2 : kitB "list" "tuple" = some false := by decide +kernel
  show (match kitB "list" "list", kitB "list" "tuple" with
    | some b, some c => vB (b || c)
    | _, _ => Res.bad) = _
  rw [h1, h2]
  rfl
theorem isi_t (ds : List Dt) : isiD2 "list" "tuple" (.tup ds) = .ok (.imm (.bl true)) := by
  have h1 : kitB "tuple" "list" = some false := by decide +kernel
  have h2 : kitB "tuple" "tuple" = some true := by decide +kernel
  show (match kitB "tuple" "list", kitB "tuple" "tuple" with
    | some b, some c => vB (b || c)
    | _, _ => Res.bad) = _
  rw [h1, h2]
  rfl
theorem isi_i (a : Int) : isiD2 "list" "tuple" (.int a) = .ok (.imm (.bl false)) := by
  have h1 : kitB "int" "list" = some false := by decide +kernel
  have h2 : kitB "int" "tuple" = some false := by decide +kernel
  show (match kitB "int" "list", kitB "int" "tuple" with
    | some b, some c => vB (b || c)
    | _, _ => Res.bad) = _
  rw [h1, h2]
  rfl
theorem is_list_ok {d : Dt} {xs : List Dt} (h : Ls d xs) : F_is_list [d] = .ok (.imm (.bl true), none) := by
  unfold F_is_list b_is_list
  rcases h with rfl | rfl
  · simp [dTest, dBin, dVar, dC, dMove, dUn, dIf, dTru, dAnd, dOr, dNot, tAndD, tOrD, tNotD, dTup, dLst, aCons, aNil, aStar, dCallB, dCall, dIxS, asB, asTru, truD, Val.d, sSeq, seqK, sIf, sRet, sRetN, sExpr, sSet, setVal, sAsg, gDone, sPar, sNext, itRng1, itRng2, itSeq, gSet, gTupD, gsCons, gsNil, canSet, slotD, seqD, Src.d, Src.ok, asRes, runF, env0, outOf, sizeLine, Res.map, isi_l]
  · simp [dTest, dBin, dVar, dC, dMove, dUn, dIf, dTru, dAnd, dOr, dNot, tAndD, tOrD, tNotD, dTup, dLst, aCons, aNil, aStar, dCallB, dCall, dIxS, asB, asTru, truD, Val.d, sSeq, seqK, sIf, sRet, sRetN, sExpr, sSet, setVal, sAsg, gDone, sPar, sNext, itRng1, itRng2, itSeq, gSet, gTupD, gsCons, gsNil, canSet, slotD, seqD, Src.d, Src.ok, asRes, runF, env0, outOf, sizeLine, Res.map, isi_t]
theorem is_list_i (a : Int) : F_is_list [.int a] = .ok (.imm (.bl false), none) := by
  unfold F_is_list b_is_list
  simp [dTest, dBin, dVar, dC, dMove, dUn, dIf, dTru, dAnd, dOr, dNot, tAndD, tOrD, tNotD, dTup, dLst, aCons, aNil, aStar, dCallB, dCall, dIxS, asB, asTru, truD, Val.d, sSeq, seqK, sIf, sRet, sRetN, sExpr, sSet, setVal, sAsg, gDone, sPar, sNext, itRng1, itRng2, itSeq, gSet, gTupD, gsCons, gsNil, canSet, slotD, seqD, Src.d, Src.ok, asRes, runF, env0, outOf, sizeLine, Res.map, isi_i]
theorem is_integer_ok (a : Int) : F_is_integer [.int a] = .ok (.imm (.bl true), none) := by
  unfold F_is_integer b_is_integer
  simp [dTest, dBin, dVar, dC, dMove, dUn, dIf, dTru, dAnd, dOr, dNot, tAndD, tOrD, tNotD, dTup, dLst, aCons, aNil, aStar, dCallB, dCall, dIxS, asB, asTru, truD, Val.d, sSeq, seqK, sIf, sRet, sRetN, sExpr, sSet, setVal, sAsg, gDone, sPar, sNext, itRng1, itRng2, itSeq, gSet, gTupD, gsCons, gsNil, canSet, slotD, seqD, Src.d, Src.ok, asRes, runF, env0, outOf, sizeLine, Res.map, i_isi, i_isb]
theorem is_integer_t (ds : List Dt) : F_is_integer [.tup ds] = .ok (.imm (.bl false), none) := by
  unfold F_is_integer b_is_integer
  simp [dTest, dBin, dVar, dC, dMove, dUn, dIf, dTru, dAnd, dOr, dNot, tAndD, tOrD, tNotD, dTup, dLst, aCons, aNil, aStar, dCallB, dCall, dIxS, asB, asTru, truD, Val.d, sSeq, seqK, sIf, sRet, sRetN, sExpr, sSet, setVal, sAsg, gDone, sPar, sNext, itRng1, itRng2, itSeq, gSet, gTupD, gsCons, gsNil, canSet, slotD, seqD, Src.d, Src.ok, asRes, runF, env0, outOf, sizeLine, Res.map, t_isi]
theorem is_i (a : Int) : opIs (.int a) .non = .ok (.imm (.bl false)) := rfl
theorem is_non : opIs .non .non = .ok (.imm (.bl true)) := rfl
theorem is_within_ok (v a b : Int) : F_is_within [.int v, .int a, .int b] = .ok (.imm (.bl (decide (a ≤ v) && decide (v ≤ b))), none) := by
  have h := is_integer_ok v
  unfold F_is_within b_is_within
  by_cases h1 : a ≤ v
  · simp [dTest, dBin, dVar, dC, dMove, dUn, dIf, dTru, dAnd, dOr, dNot, tAndD, tOrD, tNotD, dTup, dLst, aCons, aNil, aStar, dCallB, dCall, dIxS, asB, asTru, truD, Val.d, sSeq, seqK, sIf, sRet, sRetN, sExpr, sSet, setVal, sAsg, gDone, sPar, sNext, itRng1, itRng2, itSeq, gSet, gTupD, gsCons, gsNil, canSet, slotD, seqD, Src.d, Src.ok, asRes, runF, env0, outOf, sizeLine, Res.map, i_le, h, is_i, h1]
  · simp [dTest, dBin, dVar, dC, dMove, dUn, dIf, dTru, dAnd, dOr, dNot, tAndD, tOrD, tNotD, dTup, dLst, aCons, aNil, aStar, dCallB, dCall, dIxS, asB, asTru, truD, Val.d, sSeq, seqK, sIf, sRet, sRetN, sExpr, sSet, setVal, sAsg, gDone, sPar, sNext, itRng1, itRng2, itSeq, gSet, gTupD, gsCons, gsNil, canSet, slotD, seqD, Src.d, Src.ok, asRes, runF, env0, outOf, sizeLine, Res.map, i_le, h, is_i, h1]
theorem is_within_un (v a : Int) : F_is_within [.int v, .int a, .non] = .ok (.imm (.bl (decide (a ≤ v))), none) := by
  have h := is_integer_ok v
  unfold F_is_within b_is_within
  by_cases h1 : a ≤ v
  · simp [dTest, dBin, dVar, dC, dMove, dUn, dIf, dTru, dAnd, dOr, dNot, tAndD, tOrD, tNotD, dTup, dLst, aCons, aNil, aStar, dCallB, dCall, dIxS, asB, asTru, truD, Val.d, sSeq, seqK, sIf, sRet, sRetN, sExpr, sSet, setVal, sAsg, gDone, sPar, sNext, itRng1, itRng2, itSeq, gSet, gTupD, gsCons, gsNil, canSet, slotD, seqD, Src.d, Src.ok, asRes, runF, env0, outOf, sizeLine, Res.map, i_le, h, is_i, is_non, h1]
  · simp [dTest, dBin, dVar, dC, dMove, dUn, dIf, dTru, dAnd, dOr, dNot, tAndD, tOrD, tNotD, dTup, dLst, aCons, aNil, aStar, dCallB, dCall, dIxS, asB, asTru, truD, Val.d, sSeq, seqK, sIf, sRet, sRetN, sExpr, sSet, setVal, sAsg, gDone, sPar, sNext, itRng1, itRng2, itSeq, gSet, gTupD, gsCons, gsNil, canSet, slotD, seqD, Src.d, Src.ok, asRes, runF, env0, outOf, sizeLine, Res.map, i_le, h, is_i, is_non, h1]
theorem need_goods_ok {g : Nat} (h1 : 0 < g) (h2 : g ≤ 5) : F_need_goods [.int g] = .ok (.imm .non, none) := by
  have w := is_within_ok (g : Int) 1 5
  rw [decide_eq_true (show (1 : Int) ≤ g by omega), decide_eq_true (show (g : Int) ≤ 5 by omega)] at w
  unfold F_need_goods b_need_goods F_need_integer b_need_integer
  simp [dTest, dBin, dVar, dC, dMove, dUn, dIf, dTru, dAnd, dOr, dNot, tAndD, tOrD, tNotD, dTup, dLst, aCons, aNil, aStar, dCallB, dCall, dIxS, asB, asTru, truD, Val.d, sSeq, seqK, sIf, sRet, sRetN, sExpr, sSet, setVal, sAsg, gDone, sPar, sNext, itRng1, itRng2, itSeq, gSet, gTupD, gsCons, gsNil, canSet, slotD, seqD, Src.d, Src.ok, asRes, runF, env0, outOf, sizeLine, Res.map, w]
theorem is_number_ok {q : Rat} (hz : Sz q) : F_is_number [nm q] = .ok (.imm (.bl true), none) := by
  unfold nm
  by_cases h : q.den = 1
  · have i := is_integer_ok q.num
    unfold F_is_number b_is_number
    simp [dTest, dBin, dVar, dC, dMove, dUn, dIf, dTru, dAnd, dOr, dNot, tAndD, tOrD, tNotD, dTup, dLst, aCons, aNil, aStar, dCallB, dCall, dIxS, asB, asTru, truD, Val.d, sSeq, seqK, sIf, sRet, sRetN, sExpr, sSet, setVal, sAsg, gDone, sPar, sNext, itRng1, itRng2, itSeq, gSet, gTupD, gsCons, gsNil, canSet, slotD, seqD, Src.d, Src.ok, asRes, runF, env0, outOf, sizeLine, Res.map, h, i]
  · have i := is_integer_t [.int q.num, .int q.den]
    have l := is_list_ok (d := .tup [.int q.num, .int q.den]) (.inr rfl)
    have i2 := is_integer_ok q.num
    have w := is_within_un (q.den : Int) 2
    have hp := q.den_pos
    rw [decide_eq_true (show (2 : Int) ≤ (q.den : Int) by omega)] at w
    have c := common_okI (a := q.num) (b := (q.den : Int)) (up60 (by simpa using hz.2))
    have r : Nat.gcd q.num.natAbs q.den = 1 := q.reduced
    simp only [Int.natAbs_natCast, r] at c
    unfold F_is_number b_is_number
    simp [dTest, dBin, dVar, dC, dMove, dUn, dIf, dTru, dAnd, dOr, dNot, tAndD, tOrD, tNotD, dTup, dLst, aCons, aNil, aStar, dCallB, dCall, dIxS, asB, asTru, truD, Val.d, sSeq, seqK, sIf, sRet, sRetN, sExpr, sSet, setVal, sAsg, gDone, sPar, sNext, itRng1, itRng2, itSeq, gSet, gTupD, gsCons, gsNil, canSet, slotD, seqD, Src.d, Src.ok, asRes, runF, env0, outOf, sizeLine, Res.map, h, i, l, i2, jlen_t, jxt0, jxt1, i_ne, i_eq, w, c]
theorem above_in_ok (q : Rat) : F_above_in [nm q] = .ok (.imm (.int q.num), none) := by
  unfold nm
  by_cases h : q.den = 1
  · have l := is_list_i q.num
    unfold F_above_in b_above_in
    simp [dTest, dBin, dVar, dC, dMove, dUn, dIf, dTru, dAnd, dOr, dNot, tAndD, tOrD, tNotD, dTup, dLst, aCons, aNil, aStar, dCallB, dCall, dIxS, asB, asTru, truD, Val.d, sSeq, seqK, sIf, sRet, sRetN, sExpr, sSet, setVal, sAsg, gDone, sPar, sNext, itRng1, itRng2, itSeq, gSet, gTupD, gsCons, gsNil, canSet, slotD, seqD, Src.d, Src.ok, asRes, runF, env0, outOf, sizeLine, Res.map, h, l]
  · have l := is_list_ok (d := .tup [.int q.num, .int q.den]) (.inr rfl)
    unfold F_above_in b_above_in
    simp [dTest, dBin, dVar, dC, dMove, dUn, dIf, dTru, dAnd, dOr, dNot, tAndD, tOrD, tNotD, dTup, dLst, aCons, aNil, aStar, dCallB, dCall, dIxS, asB, asTru, truD, Val.d, sSeq, seqK, sIf, sRet, sRetN, sExpr, sSet, setVal, sAsg, gDone, sPar, sNext, itRng1, itRng2, itSeq, gSet, gTupD, gsCons, gsNil, canSet, slotD, seqD, Src.d, Src.ok, asRes, runF, env0, outOf, sizeLine, Res.map, h, l, jxt0]
theorem is_from_0_ok {q : Rat} (hz : Sz q) (h0 : 0 ≤ q) : F_is_from_0 [nm q] = .ok (.imm (.bl true), none) := by
  have n := is_number_ok hz
  have a := above_in_ok q
  have h1 : (0 : Int) ≤ q.num := Rat.num_nonneg.mpr h0
  unfold F_is_from_0 b_is_from_0
  simp [dTest, dBin, dVar, dC, dMove, dUn, dIf, dTru, dAnd, dOr, dNot, tAndD, tOrD, tNotD, dTup, dLst, aCons, aNil, aStar, dCallB, dCall, dIxS, asB, asTru, truD, Val.d, sSeq, seqK, sIf, sRet, sRetN, sExpr, sSet, setVal, sAsg, gDone, sPar, sNext, itRng1, itRng2, itSeq, gSet, gTupD, gsCons, gsNil, canSet, slotD, seqD, Src.d, Src.ok, asRes, runF, env0, outOf, sizeLine, Res.map, n, a, i_ge, h1]
theorem ball_ok (n : Nat) : bAll [.lst (List.replicate n (.bl true))] = .ok (.imm (.bl true)) := by
  have e : List.replicate n (Dt.bl true) = (List.replicate n true).map .bl := by rw [List.map_replicate]
  rw [e]
  show (match blsD ((List.replicate n true).map .bl) with
    | some ns => vB (ns.all id)
    | none => Res.bad) = _
  rw [blsD_bls]
  show vB _ = _
  have : (List.replicate n true).all id = true := by simp
  rw [this]
  rfl
theorem blsD_bls' : True := trivial
/-- the numbers of a day are from 0 on, and small -/
def Row (g : Nat) (x : List Rat) : Prop := x.length = g ∧ ∀ q ∈ x, Sz q ∧ 0 ≤ q
theorem is_row_ok {g : Nat} {x : List Rat} {d : Dt} (hd : Ls d (x.map nm)) (hx : Row g x) (hg : g ≤ 5) : F_is_row [d, .int g] = .ok (.imm (.bl true), none) := by
  have e1 := is_list_ok hd
  have e2 := hd.len
  rw [List.length_map, hx.1] at e2
  have l : lcLoop [2] (gSet 2) dYes (dCall F_is_from_0 ⟨1, [], [.pos 0]⟩ (aCons (dVar 2) aNil) aNil) (x.map nm) [.imm d, .imm (.int g), .un] = .ok (x.map fun _ => .bl true, [.imm d, .imm (.int g), .un]) := lc_pure nm (fun _ => .bl true) x fun q hq => by
    have e := is_from_0_ok (hx.2 q hq).1 (hx.2 q hq).2
    simp [lcTurn, dYes, Res.hard, wipeE, dTest, dBin, dVar, dC, dMove, dUn, dIf, dTru, dAnd, dOr, dNot, tAndD, tOrD, tNotD, dTup, dLst, aCons, aNil, aStar, dCallB, dCall, dIxS, asB, asTru, truD, Val.d, sSeq, seqK, sIf, sRet, sRetN, sExpr, sSet, setVal, sAsg, gDone, sPar, sNext, itRng1, itRng2, itSeq, gSet, gTupD, gsCons, gsNil, canSet, slotD, seqD, Src.d, Src.ok, asRes, runF, env0, outOf, sizeLine, Res.map, e]
  have e3 := ball_ok x.length
  rw [← List.map_const'] at e3
  have hz : x.length ≤ 16777216 := by have := hx.1; omega
  unfold F_is_row b_is_row
  rcases hd with rfl | rfl <;> simp [dTest, dBin, dVar, dC, dMove, dUn, dIf, dTru, dAnd, dOr, dNot, tAndD, tOrD, tNotD, dTup, dLst, aCons, aNil, aStar, dCallB, dCall, dIxS, asB, asTru, truD, Val.d, sSeq, seqK, sIf, sRet, sRetN, sExpr, sSet, setVal, sAsg, gDone, sPar, sNext, itRng1, itRng2, itSeq, gSet, gTupD, gsCons, gsNil, canSet, slotD, seqD, Src.d, Src.ok, asRes, runF, env0, outOf, sizeLine, Res.map, e1, e2, i_eq, dLc, lcOk, wipeE, l, Res.hard, backE, e3, hz]
theorem kept_ok (q : Rat) : F_kept [nm q] = .ok (.imm (nm q), none) := by
  unfold F_kept b_kept nm
  by_cases h : q.den = 1
  · simp [dTest, dBin, dVar, dC, dMove, dUn, dIf, dTru, dAnd, dOr, dNot, tAndD, tOrD, tNotD, dTup, dLst, aCons, aNil, aStar, dCallB, dCall, dIxS, asB, asTru, truD, Val.d, sSeq, seqK, sIf, sRet, sRetN, sExpr, sSet, setVal, sAsg, gDone, sPar, sNext, itRng1, itRng2, itSeq, gSet, gTupD, gsCons, gsNil, canSet, slotD, seqD, Src.d, Src.ok, asRes, runF, env0, outOf, sizeLine, Res.map, isi_i, h]
  · have t : bTuple [.tup [.int q.num, .int q.den]] = .ok (.imm (.tup [.int q.num, .int q.den])) := rfl
    simp [dTest, dBin, dVar, dC, dMove, dUn, dIf, dTru, dAnd, dOr, dNot, tAndD, tOrD, tNotD, dTup, dLst, aCons, aNil, aStar, dCallB, dCall, dIxS, asB, asTru, truD, Val.d, sSeq, seqK, sIf, sRet, sRetN, sExpr, sSet, setVal, sAsg, gDone, sPar, sNext, itRng1, itRng2, itSeq, gSet, gTupD, gsCons, gsNil, canSet, slotD, seqD, Src.d, Src.ok, asRes, runF, env0, outOf, sizeLine, Res.map, isi_t, h, t]
theorem kept_row_ok {x : List Rat} {d : Dt} (hd : Ls d (x.map nm)) (hg : x.length ≤ 5) : F_kept_row [d] = .ok (.imm (.tup (x.map nm)), none) := by
  have l : lcLoop [1] (gSet 1) dYes (dCall F_kept ⟨1, [], [.pos 0]⟩ (aCons (dVar 1) aNil) aNil) (x.map nm) [.imm d, .un] = .ok (x.map nm, [.imm d, .un]) := lc_pure nm nm x fun q hq => by
    have e := kept_ok q
    simp [lcTurn, dYes, Res.hard, wipeE, dTest, dBin, dVar, dC, dMove, dUn, dIf, dTru, dAnd, dOr, dNot, tAndD, tOrD, tNotD, dTup, dLst, aCons, aNil, aStar, dCallB, dCall, dIxS, asB, asTru, truD, Val.d, sSeq, seqK, sIf, sRet, sRetN, sExpr, sSet, setVal, sAsg, gDone, sPar, sNext, itRng1, itRng2, itSeq, gSet, gTupD, gsCons, gsNil, canSet, slotD, seqD, Src.d, Src.ok, asRes, runF, env0, outOf, sizeLine, Res.map, e]
  have hz : x.length ≤ 16777216 := by omega
  have t : bTuple [.lst (x.map nm)] = .ok (.imm (.tup (x.map nm))) := rfl
  unfold F_kept_row b_kept_row
  rcases hd with rfl | rfl <;> simp [dTest, dBin, dVar, dC, dMove, dUn, dIf, dTru, dAnd, dOr, dNot, tAndD, tOrD, tNotD, dTup, dLst, aCons, aNil, aStar, dCallB, dCall, dIxS, asB, asTru, truD, Val.d, sSeq, seqK, sIf, sRet, sRetN, sExpr, sSet, setVal, sAsg, gDone, sPar, sNext, itRng1, itRng2, itSeq, gSet, gTupD, gsCons, gsNil, canSet, slotD, seqD, Src.d, Src.ok, asRes, runF, env0, outOf, sizeLine, Res.map, dLc, lcOk, wipeE, l, Res.hard, backE, hz, t]
def rowT (x : List Rat) : Dt := .tup (x.map nm)
theorem need_market_ok {g : Nat} {m : List (List Rat)} {d : Dt} {s : Str} (r : List Rat → Dt) (hr : ∀ x, Ls (r x) (x.map nm)) (hd : Ls d (m.map r)) (hm : ∀ x ∈ m, Row g x) (hg : g ≤ 5) (hl : m.length ≤ 1000) :
    F_need_market [d, .int g, .str s] = .ok (.imm (.tup (m.map rowT)), none) := by
  have hz : m.length ≤ 16777216 := by omega
  have e1 : F_is_market_of [d, .int g] = .ok (.imm (.bl true), none) := by
    have e1 := is_list_ok hd
    have l : lcLoop [2] (gSet 2) dYes (dCall F_is_row ⟨2, [], [.pos 0, .pos 1]⟩ (aCons (dVar 2) (aCons (dVar 1) aNil)) aNil) (m.map r) [.imm d, .imm (.int g), .un] = .ok (m.map fun _ => .bl true, [.imm d, .imm (.int g), .un]) := lc_pure r (fun _ => .bl true) m fun x hx => by
      have e := is_row_ok (hr x) (hm x hx) hg
      simp [lcTurn, dYes, Res.hard, wipeE, dTest, dBin, dVar, dC, dMove, dUn, dIf, dTru, dAnd, dOr, dNot, tAndD, tOrD, tNotD, dTup, dLst, aCons, aNil, aStar, dCallB, dCall, dIxS, asB, asTru, truD, Val.d, sSeq, seqK, sIf, sRet, sRetN, sExpr, sSet, setVal, sAsg, gDone, sPar, sNext, itRng1, itRng2, itSeq, gSet, gTupD, gsCons, gsNil, canSet, slotD, seqD, Src.d, Src.ok, asRes, runF, env0, outOf, sizeLine, Res.map, e]
    have e3 := ball_ok m.length
    rw [← List.map_const'] at e3
    unfold F_is_market_of b_is_market_of
    rcases hd with rfl | rfl <;> simp [dTest, dBin, dVar, dC, dMove, dUn, dIf, dTru, dAnd, dOr, dNot, tAndD, tOrD, tNotD, dTup, dLst, aCons, aNil, aStar, dCallB, dCall, dIxS, asB, asTru, truD, Val.d, sSeq, seqK, sIf, sRet, sRetN, sExpr, sSet, setVal, sAsg, gDone, sPar, sNext, itRng1, itRng2, itSeq, gSet, gTupD, gsCons, gsNil, canSet, slotD, seqD, Src.d, Src.ok, asRes, runF, env0, outOf, sizeLine, Res.map, e1, dLc, lcOk, wipeE, l, Res.hard, backE, e3, hz]
  have l : lcLoop [3] (gSet 3) dYes (dCall F_kept_row ⟨1, [], [.pos 0]⟩ (aCons (dVar 3) aNil) aNil) (m.map r) [.imm d, .imm (.int g), .imm (.str s), .un] = .ok (m.map rowT, [.imm d, .imm (.int g), .imm (.str s), .un]) := lc_pure r rowT m fun x hx => by
    have e := kept_row_ok (hr x) (by rw [(hm x hx).1]; exact hg)
    simp [lcTurn, dYes, Res.hard, wipeE, dTest, dBin, dVar, dC, dMove, dUn, dIf, dTru, dAnd, dOr, dNot, tAndD, tOrD, tNotD, dTup, dLst, aCons, aNil, aStar, dCallB, dCall, dIxS, asB, asTru, truD, Val.d, sSeq, seqK, sIf, sRet, sRetN, sExpr, sSet, setVal, sAsg, gDone, sPar, sNext, itRng1, itRng2, itSeq, gSet, gTupD, gsCons, gsNil, canSet, slotD, seqD, Src.d, Src.ok, asRes, runF, env0, outOf, sizeLine, Res.map, e, rowT]
  have t : bTuple [.lst (m.map rowT)] = .ok (.imm (.tup (m.map rowT))) := rfl
  unfold F_need_market b_need_market
  rcases hd with rfl | rfl <;> simp [dTest, dBin, dVar, dC, dMove, dUn, dIf, dTru, dAnd, dOr, dNot, tAndD, tOrD, tNotD, dTup, dLst, aCons, aNil, aStar, dCallB, dCall, dIxS, asB, asTru, truD, Val.d, sSeq, seqK, sIf, sRet, sRetN, sExpr, sSet, setVal, sAsg, gDone, sPar, sNext, itRng1, itRng2, itSeq, gSet, gTupD, gsCons, gsNil, canSet, slotD, seqD, Src.d, Src.ok, asRes, runF, env0, outOf, sizeLine, Res.map, e1, dLc, lcOk, wipeE, l, Res.hard, backE, hz, t]
/-! sums -/
def NoIo (s : Slot) : Prop := ∀ e, s ≠ .io e
theorem noio_imm (d : Dt) : NoIo (.imm d) := fun e q => by cases q
theorem noio_un : NoIo .un := fun e q => by cases q
theorem noio_own (d : Dt) : NoIo (.own d) := fun e q => by cases q
theorem cs_of {env : Env'} {i : Nat} {s : Slot} (h : env[i]? = some s) (hs : NoIo s) : canSet env i = true := by
  unfold canSet
  rw [h]
  cases s with
  | io e => exact absurd rfl (hs e)
  | _ => rfl
theorem gset_ok {env : Env'} {i : Nat} {s : Slot} {d : Dt} (h : env[i]? = some s) (hs : NoIo s) : gSet i d env = .ok (env.set i (.imm d)) := by
  unfold gSet
  rw [if_pos (cs_of h hs)]
theorem rsum_foldl : ∀ (xs : List Rat) (a : Rat), xs.foldl (fun b x => b + x) a = a + rsum xs
  | [], a => by
    show a = a + 0
    grind
  | x :: xs, a => by
    show xs.foldl _ (a + x) = a + (x + rsum xs)
    rw [rsum_foldl xs]
    grind
def sumB : DS := sSet 1 (dCall F__law_plus ⟨2, [], [.pos 0, .pos 1]⟩ (aCons (dVar 1) (aCons (dVar 2) aNil)) aNil)
theorem sum_ok {D N : Nat} (hD : 0 < D) (hD2 : D < 2 ^ 6000) {qs : List Rat} (h : ∀ q ∈ qs, Bz D N q) (hs : qs.length * N < 2 ^ 6000) : F__law_sum [.lst (qs.map fr)] = .ok (.imm (fr (rsum qs)), none) := by
  obtain ⟨e', l, k, acc, z, hb, rfl, hk, hv⟩ := loop_inv (g := gSet 2) (f := sumB) (fun k e => ∃ (k' : Nat) (acc : Rat) (z : Slot), Bz D (k' * N) acc ∧ e = [.imm (.lst (qs.map fr)), .imm (fr acc), z] ∧ (k' = k ∧ NoIo z) ∧ acc + rsum (qs.drop k) = rsum qs)
    (qs.map fr) (k := 0) (env := [.imm (.lst (qs.map fr)), .imm (fr 0), .un]) ⟨0, 0, .un, by simpa using Bz.zero hD, rfl, ⟨rfl, noio_un⟩, by rw [List.drop_zero]; grind⟩ fun i hi e ⟨k', acc, z, hb, he, hk, hv⟩ => by
      obtain ⟨hk, hz⟩ := hk
      subst hk he
      rw [List.length_map] at hi
      rw [Nat.zero_add] at hb hv ⊢
      have hq := h qs[i] (List.getElem_mem hi)
      have hle : (i + 1) * N ≤ qs.length * N := Nat.mul_le_mul_right N hi
      have hle1 : i * N ≤ qs.length * N := Nat.mul_le_mul_right N (Nat.le_of_lt hi)
      have hle2 : N ≤ qs.length * N := Nat.le_mul_of_pos_left N (by omega)
      have p := plus_ok (hb.sz hD2 (by omega)) (hq.sz hD2 (by omega))
      refine ⟨[.imm (.lst (qs.map fr)), .imm (fr acc), .imm (fr qs[i])], [.imm (.lst (qs.map fr)), .imm (fr (acc + qs[i])), .imm (fr qs[i])], ?_, ?_, i + 1, acc + qs[i], .imm (fr qs[i]), ?_, rfl, ⟨rfl, noio_imm _⟩, ?_⟩
      · rw [gset_ok (s := z) rfl hz, List.getElem_map]
        rfl
      · unfold sumB
        simp [dTest, dBin, dVar, dC, dMove, dUn, dIf, dTru, dAnd, dOr, dNot, tAndD, tOrD, tNotD, dTup, dLst, aCons, aNil, aStar, dCallB, dCall, dIxS, asB, asTru, truD, Val.d, sSeq, seqK, sIf, sRet, sRetN, sExpr, sSet, setVal, sAsg, gDone, sPar, sNext, itRng1, itRng2, itSeq, gSet, gTupD, gsCons, gsNil, canSet, slotD, seqD, Src.d, Src.ok, asRes, runF, env0, outOf, sizeLine, Res.map, p]
      · exact (hb.add hq).mono (by rw [Nat.succ_mul]; omega)
      · rw [List.drop_eq_getElem_cons hi] at hv
        rw [← hv]
        show _ = acc + (qs[i] + rsum _)
        grind
  rw [Nat.zero_add, List.length_map, List.drop_length] at hv
  have e0 : acc = rsum qs := by
    rw [← hv]
    show acc = acc + 0
    grind
  rw [e0] at l
  have e1 : fr 0 = .tup [.int 0, .int 1] := rfl
  rw [e1] at l
  unfold sumB at l
  unfold F__law_sum b__law_sum
  simp [dTest, dBin, dVar, dC, dMove, dUn, dIf, dTru, dAnd, dOr, dNot, tAndD, tOrD, tNotD, dTup, dLst, aCons, aNil, aStar, dCallB, dCall, dIxS, asB, asTru, truD, Val.d, sSeq, seqK, sIf, sRet, sRetN, sExpr, sSet, setVal, sAsg, gDone, sPar, sNext, itRng1, itRng2, itSeq, gSet, gTupD, gsCons, gsNil, canSet, slotD, seqD, Src.d, Src.ok, asRes, runF, env0, outOf, sizeLine, Res.map, sFor, l]
def totB : DS := sSet 1 (dCall F_added ⟨2, [], [.pos 0, .pos 1]⟩ (aCons (dVar 1) (aCons (dVar 2) aNil)) aNil)
theorem total_ok {D N : Nat} (hD : 0 < D) (hD2 : D < 2 ^ 6000) {qs : List Rat} (h : ∀ q ∈ qs, Bz D N q) (hs : qs.length * N < 2 ^ 6000) : F_total [.lst (qs.map nm)] = .ok (.imm (nm (rsum qs)), none) := by
  obtain ⟨e', l, k, acc, z, hb, rfl, hk, hv⟩ := loop_inv (g := gSet 2) (f := totB) (fun k e => ∃ (k' : Nat) (acc : Rat) (z : Slot), Bz D (k' * N) acc ∧ e = [.imm (.lst (qs.map nm)), .imm (nm acc), z] ∧ (k' = k ∧ NoIo z) ∧ acc + rsum (qs.drop k) = rsum qs)
    (qs.map nm) (k := 0) (env := [.imm (.lst (qs.map nm)), .imm (nm 0), .un]) ⟨0, 0, .un, by simpa using Bz.zero hD, rfl, ⟨rfl, noio_un⟩, by rw [List.drop_zero]; grind⟩ fun i hi e ⟨k', acc, z, hb, he, hk, hv⟩ => by
      obtain ⟨hk, hz⟩ := hk
      subst hk he
      rw [List.length_map] at hi
      rw [Nat.zero_add] at hb hv ⊢
      have hq := h qs[i] (List.getElem_mem hi)
      have hle : (i + 1) * N ≤ qs.length * N := Nat.mul_le_mul_right N hi
      have hle1 : i * N ≤ qs.length * N := Nat.mul_le_mul_right N (Nat.le_of_lt hi)
      have hle2 : N ≤ qs.length * N := Nat.le_mul_of_pos_left N (by omega)
      have p := added_ok (hb.sz hD2 (by omega)) (hq.sz hD2 (by omega))
      refine ⟨[.imm (.lst (qs.map nm)), .imm (nm acc), .imm (nm qs[i])], [.imm (.lst (qs.map nm)), .imm (nm (acc + qs[i])), .imm (nm qs[i])], ?_, ?_, i + 1, acc + qs[i], .imm (nm qs[i]), ?_, rfl, ⟨rfl, noio_imm _⟩, ?_⟩
      · rw [gset_ok (s := z) rfl hz, List.getElem_map]
        rfl
      · unfold totB
        simp [dTest, dBin, dVar, dC, dMove, dUn, dIf, dTru, dAnd, dOr, dNot, tAndD, tOrD, tNotD, dTup, dLst, aCons, aNil, aStar, dCallB, dCall, dIxS, asB, asTru, truD, Val.d, sSeq, seqK, sIf, sRet, sRetN, sExpr, sSet, setVal, sAsg, gDone, sPar, sNext, itRng1, itRng2, itSeq, gSet, gTupD, gsCons, gsNil, canSet, slotD, seqD, Src.d, Src.ok, asRes, runF, env0, outOf, sizeLine, Res.map, p]
      · exact (hb.add hq).mono (by rw [Nat.succ_mul]; omega)
      · rw [List.drop_eq_getElem_cons hi] at hv
        rw [← hv]
        show _ = acc + (qs[i] + rsum _)
        grind
  rw [Nat.zero_add, List.length_map, List.drop_length] at hv
  have e0 : acc = rsum qs := by
    rw [← hv]
    show acc = acc + 0
    grind
  rw [e0] at l
  have e1 : nm 0 = .int 0 := rfl
  rw [e1] at l
  unfold totB at l
  unfold F_total b_total
  simp [dTest, dBin, dVar, dC, dMove, dUn, dIf, dTru, dAnd, dOr, dNot, tAndD, tOrD, tNotD, dTup, dLst, aCons, aNil, aStar, dCallB, dCall, dIxS, asB, asTru, truD, Val.d, sSeq, seqK, sIf, sRet, sRetN, sExpr, sSet, setVal, sAsg, gDone, sPar, sNext, itRng1, itRng2, itSeq, gSet, gTupD, gsCons, gsNil, canSet, slotD, seqD, Src.d, Src.ok, asRes, runF, env0, outOf, sizeLine, Res.map, sFor, l]
end G


set_option maxRecDepth 100000
set_option maxHeartbeats 4000000
set_option exponentiation.threshold 30000
namespace G
open PySem PySem.Spec PyProof.Rows L2
/-! Rt6: factorials, even weights, choose. -/
theorem rng_range (t : Nat) : ∀ (k : Nat), (List.range' t k).map ni = (List.range k).map fun i => ni (t + i) := fun k => by
  rw [List.range'_eq_map_range, List.map_map]
  rfl
theorem rngD_ni (n : Nat) : rngD 0 n = (List.range' 0 n).map ni := by
  rw [rng_range]
  unfold rngD
  apply List.map_congr_left
  intro i _
  show Dt.int (0 + (i : Int)) = Dt.int ((0 + i : Nat) : Int)
  rw [Int.zero_add, Nat.zero_add]
theorem pow_mono {a b : Nat} (h : a ≤ b) : (2 : Nat) ^ a ≤ 2 ^ b := Nat.pow_le_pow_right (by decide) h
theorem map_ni (cs : List Nat) : cs.map ni = (cs.map fun c : Nat => (c : Int)).map .int := by
  rw [List.map_map]
  rfl
theorem bsum_ok (cs : List Nat) : bSum [.tup (cs.map ni)] = .ok (.imm (ni cs.sum)) := by
  have e : ((cs.map fun c : Nat => (c : Int)).sum) = (cs.sum : Int) := by
    induction cs with
    | nil => rfl
    | cons c cs ih => rw [List.map_cons, List.sum_cons, List.sum_cons, ih, Int.natCast_add]
  rw [map_ni]
  show (match intsD ((cs.map fun c : Nat => (c : Int)).map .int) with
    | some ns => vI ns.sum
    | none => Res.bad) = _
  rw [intsD_ints]
  show vI _ = .ok (.imm (.int (cs.sum : Int)))
  rw [e]
  rfl
def facB : DS := sSet 1 (dBin opMul (dVar 1) (dVar 2))
theorem fac_le : ∀ n, n ≤ 2000 → fac n ≤ 2 ^ (11 * n)
  | 0, _ => by decide
  | n + 1, h => by
    have ih := fac_le n (by omega)
    show (n + 1) * fac n ≤ _
    rw [Nat.mul_succ, Nat.pow_add, Nat.mul_comm (2 ^ (11 * n))]
    exact Nat.mul_le_mul (by omega) ih
theorem fac_lt {n : Nat} (h : n ≤ 1200) : fac n < 2 ^ 13300 := Nat.lt_of_le_of_lt (fac_le n (by omega)) (Nat.pow_lt_pow_right (by decide) (by omega))
theorem fac_loop (x : Slot) : ∀ (k t : Nat) (z : Slot), NoIo z → t + k ≤ 1200 → ∃ z', sLoop (gSet 2) facB ((List.range' (t + 1) k).map ni) [x, .imm (ni (fac t)), z] = .ok (.nx, [x, .imm (ni (fac (t + k))), z'])
  | 0, t, z, _, _ => ⟨z, by simp [sLoop]⟩
  | k + 1, t, z, hz, h => by
    have up : ∀ {x : Nat}, x < 2 ^ 13300 → x < 2 ^ 20000 := fun h => Nat.lt_of_lt_of_le h (Nat.pow_le_pow_right (by decide) (by decide))
    have b : (2 : Nat) ^ 11 < 2 ^ 20000 := Nat.pow_lt_pow_right (by decide) (by decide)
    have m := ni_mul (a := fac t) (b := t + 1) (up (fac_lt (by omega))) (by omega)
    obtain ⟨z', ih⟩ := fac_loop x k (t + 1) (.imm (ni (t + 1))) (noio_imm _) (by omega)
    refine ⟨z', ?_⟩
    rw [List.range'_succ, List.map_cons]
    unfold sLoop
    rw [gset_ok (s := z) rfl hz]
    have e : facB [x, .imm (ni (fac t)), .imm (ni (t + 1))] = .ok (.nx, [x, .imm (ni (fac (t + 1))), .imm (ni (t + 1))]) := by
      have e0 : fac t * (t + 1) = fac (t + 1) := Nat.mul_comm _ _
      rw [e0] at m
      unfold facB
      simp [dTest, dBin, dVar, dC, dMove, dUn, dIf, dTru, dAnd, dOr, dNot, tAndD, tOrD, tNotD, dTup, dLst, aCons, aNil, aStar, dCallB, dCall, dIxS, asB, asTru, truD, Val.d, sSeq, seqK, sIf, sRet, sRetN, sExpr, sSet, setVal, sAsg, gDone, sPar, sNext, itRng1, itRng2, itSeq, gSet, gTupD, gsCons, gsNil, canSet, slotD, seqD, Src.d, Src.ok, asRes, runF, env0, outOf, sizeLine, Res.map, m]
    show ((facB [x, .imm (ni (fac t)), .imm (ni (t + 1))]).bind _) = _
    rw [e, Res.bind_ok]
    dsimp only
    rw [ih, show t + 1 + k = t + (k + 1) by omega]
theorem rngD_ni2 (t n : Nat) : rngD (t : Int) n = (List.range' t n).map ni := by
  rw [rng_range]
  rfl
theorem factorial_ok {n : Nat} (h : n ≤ 1190) : F_factorial [ni n] = .ok (.imm (ni (fac n)), none) := by
  obtain ⟨z, l⟩ := fac_loop (.imm (ni n)) (n - 1) 1 .un noio_un (by omega)
  have e0 : fac (1 + (n - 1)) = fac n := by
    by_cases h0 : n = 0
    · subst h0; rfl
    · rw [show 1 + (n - 1) = n by omega]
  rw [e0, show fac 1 = 1 from rfl] at l
  have e1 : itRng2 (aCons (dC (.int 2)) (aCons (dBin opAdd (dVar 0) (dC (.int 1))) aNil)) [.imm (ni n), .imm (ni 1), .un] = .ok ((List.range' 2 (n - 1)).map ni, [.imm (ni n), .imm (ni 1), .un]) := by
    have i1 : int62 2 = true := by decide
    have i2 : int62 ((n + 1 : Nat) : Int) = true := decide_eq_true (by simp only [Int.natAbs_natCast]; omega)
    have e2 : (((n + 1 : Nat) : Int) - 2).toNat = n - 1 := by omega
    have e3 : opAdd (ni n) (.int 1) = .ok (.imm (.int ((n + 1 : Nat) : Int))) := ni_add n 1
    have e4 := rngD_ni2 2 (n - 1)
    simp only [itRng2, aCons, aNil, dC, dBin, dVar, List.getElem?_cons_zero, Res.bind_ok, Val.d, e3, Res.map_ok, i1, i2, and_self, if_true, e2]
    exact congrArg (fun q => Res.ok (q, [Slot.imm (ni n), Slot.imm (ni 1), Slot.un])) e4
  unfold facB at l
  unfold F_factorial b_factorial
  simp only [sFor, lit1, lit2] at l e1 ⊢
  simp [runF, env0, sSeq, sSet, dC, setVal, canSet, seqK, sFor, e1] at l ⊢
  simp [l, sRet, dMove, outOf, seqK]
def wB : DS := sSet 1 (dBin opMul (dVar 1) (dCall F_factorial ⟨1, [], [.pos 0]⟩ (aCons (dVar 2) aNil) aNil))
theorem w_loop (x : Slot) : ∀ (cs : List Nat) (p A : Nat) (z : Slot), NoIo z → p ≤ 2 ^ A → A + 11 * cs.sum ≤ 13400 → cs.sum ≤ 1190 →
    ∃ z', sLoop (gSet 2) wB (cs.map ni) [x, .imm (ni p), z] = .ok (.nx, [x, .imm (ni (p * pfac cs)), z'])
  | [], p, A, z, _, _, _, _ => ⟨z, by simp [sLoop, pfac]⟩
  | c :: cs, p, A, z, hz, hA, hB, hs => by
    rw [List.sum_cons] at hB hs
    have f := factorial_ok (n := c) (by omega)
    have fl := fac_le c (by omega)
    have up : ∀ {x A : Nat}, x ≤ 2 ^ A → A ≤ 13400 → x < 2 ^ 20000 := fun h hA => Nat.lt_of_le_of_lt h (Nat.pow_lt_pow_right (by decide) (by omega))
    have m := ni_mul (a := p) (b := fac c) (up hA (by omega)) (up fl (by omega))
    have b : p * fac c ≤ 2 ^ (A + 11 * c) := by
      rw [Nat.pow_add]
      exact Nat.mul_le_mul hA fl
    obtain ⟨z', ih⟩ := w_loop x cs (p * fac c) (A + 11 * c) (.imm (ni c)) (noio_imm _) b (by omega) (by omega)
    refine ⟨z', ?_⟩
    rw [List.map_cons]
    unfold sLoop
    rw [gset_ok (s := z) rfl hz]
    have e : wB [x, .imm (ni p), .imm (ni c)] = .ok (.nx, [x, .imm (ni (p * fac c)), .imm (ni c)]) := by
      unfold wB
      simp [dTest, dBin, dVar, dC, dMove, dUn, dIf, dTru, dAnd, dOr, dNot, tAndD, tOrD, tNotD, dTup, dLst, aCons, aNil, aStar, dCallB, dCall, dIxS, asB, asTru, truD, Val.d, sSeq, seqK, sIf, sRet, sRetN, sExpr, sSet, setVal, sAsg, gDone, sPar, sNext, itRng1, itRng2, itSeq, gSet, gTupD, gsCons, gsNil, canSet, slotD, seqD, Src.d, Src.ok, asRes, runF, env0, outOf, sizeLine, Res.map, f, m]
    show ((wB [x, .imm (ni p), .imm (ni c)]).bind _) = _
    rw [e, Res.bind_ok]
    dsimp only
    rw [ih, show p * fac c * pfac cs = p * pfac (c :: cs) from Nat.mul_assoc _ _ _]
theorem weight_ok {cs : List Nat} (h1 : 0 < cs.length) (h2 : cs.length ≤ 5) (h3 : cs.sum ≤ 1170) : F_weight_in [.tup (cs.map ni)] = .ok (.imm (nm (hw cs.length cs)), none) := by
  have f0 := factorial_ok (n := cs.length - 1) (by omega)
  have l0 : fac (cs.length - 1) ≤ 2 ^ 44 := Nat.le_trans (fac_le _ (by omega)) (pow_mono (by omega))
  obtain ⟨z, l⟩ := w_loop (.imm (.tup (cs.map ni))) cs (fac (cs.length - 1)) 44 .un noio_un l0 (by omega) (by omega)
  have f1 := factorial_ok (n := cs.sum + cs.length - 1) (by omega)
  have s1 := ni_sub (a := cs.length) (b := 1) h1
  have s2 := ni_sub (a := cs.sum + cs.length) (b := 1) (by omega)
  have bs := bsum_ok cs
  have M := Mw_fac cs (cs.length - 1)
  have hA : fac (cs.length - 1) * pfac cs ≤ fac (cs.length - 1 + cs.sum) := by
    rw [← M]
    exact Nat.le_mul_of_pos_right _ (Mw_pos _ _)
  have hU := fac_lt (n := cs.length - 1 + cs.sum) (by omega)
  have hP : 0 < fac (cs.length - 1) * pfac cs := Nat.mul_pos (fac_pos _) (pfac_pos _)
  have b1 : (2 : Nat) ^ 13300 < 2 ^ 13500 := Nat.pow_lt_pow_right (by decide) (by decide)
  have fp := fac_pos (cs.length - 1 + cs.sum)
  have lo : F_lowest [ni (fac (cs.length - 1) * pfac cs), ni (fac (cs.length - 1 + cs.sum))] = .ok (.imm (nm (hw cs.length cs)), none) := by
    have e := lowest_okI (a := ((fac (cs.length - 1) * pfac cs : Nat) : Int)) (b := ((fac (cs.length - 1 + cs.sum) : Nat) : Int)) (by omega) (by rw [Int.natAbs_natCast]; omega) (by rw [Int.natAbs_natCast]; omega)
    have q : (((fac (cs.length - 1) * pfac cs : Nat) : Int) : Rat) / (((fac (cs.length - 1 + cs.sum) : Nat) : Int) : Rat) = hw cs.length cs := by
      rw [Rat.intCast_natCast, Rat.intCast_natCast, ← M]
      unfold hw
      rw [Rat.natCast_mul (fac (cs.length - 1) * pfac cs)]
      have e1 := ratD hP
      have e2 := ratD (Mw_pos cs (cs.length - 1))
      generalize ((fac (cs.length - 1) * pfac cs : Nat) : Rat) = A at *
      generalize (Mw (cs.length - 1) cs : Rat) = B at *
      grind
    rw [q] at e
    exact e
  rw [show cs.sum + cs.length - 1 = cs.length - 1 + cs.sum by omega] at f1 s2
  unfold wB at l
  unfold F_weight_in b_weight_in
  simp only [lit1] at l ⊢
  simp [dTest, dBin, dVar, dC, dMove, dUn, dIf, dTru, dAnd, dOr, dNot, tAndD, tOrD, tNotD, dTup, dLst, aCons, aNil, aStar, dCallB, dCall, dIxS, asB, asTru, truD, Val.d, sSeq, seqK, sIf, sRet, sRetN, sExpr, sSet, setVal, sAsg, gDone, sPar, sNext, itRng1, itRng2, itSeq, gSet, gTupD, gsCons, gsNil, canSet, slotD, seqD, Src.d, Src.ok, asRes, runF, env0, outOf, sizeLine, Res.map, ni_add, ni_gt, ni_lt, ni_le, ni_ge, ni_abs, ni_int, ni_eq, ni_ne, ni_isi, ni_isb, bLen_l, bLen_t, ixt0, ixt1, ixl0, ixl1, ixl2, lit0, lit1, lit2, sFor, f0, s1, bs, s2, f1, lo] at l ⊢
  simp [dTest, dBin, dVar, dC, dMove, dUn, dIf, dTru, dAnd, dOr, dNot, tAndD, tOrD, tNotD, dTup, dLst, aCons, aNil, aStar, dCallB, dCall, dIxS, asB, asTru, truD, Val.d, sSeq, seqK, sIf, sRet, sRetN, sExpr, sSet, setVal, sAsg, gDone, sPar, sNext, itRng1, itRng2, itSeq, gSet, gTupD, gsCons, gsNil, canSet, slotD, seqD, Src.d, Src.ok, asRes, runF, env0, outOf, sizeLine, Res.map, ni_add, ni_gt, ni_lt, ni_le, ni_ge, ni_abs, ni_int, ni_eq, ni_ne, ni_isi, ni_isb, bLen_l, bLen_t, ixt0, ixt1, ixl0, ixl1, ixl2, lit0, lit1, lit2, l, bs, s2, f1, lo]
def chB : DS := sSet 2 (dBin opFDiv (dBin opMul (dVar 2) (dBin opSub (dVar 0) (dVar 3))) (dBin opAdd (dVar 3) (dC (.int 1))))
theorem ch_loop {n : Nat} (hn : n ≤ 1100) (x : Slot) : ∀ (k t : Nat) (z : Slot), NoIo z → t + k ≤ n → ∃ z', sLoop (gSet 3) chB ((List.range' t k).map ni) [.imm (ni n), x, .imm (ni (ch n t)), z] = .ok (.nx, [.imm (ni n), x, .imm (ni (ch n (t + k))), z'])
  | 0, t, z, _, _ => ⟨z, by simp [sLoop]⟩
  | k + 1, t, z, hz, h => by
    have cl := ch_le n t
    have b1 : (2 : Nat) ^ n < 2 ^ 20000 := Nat.pow_lt_pow_right (by decide) (by omega)
    have b2 : (2 : Nat) ^ 11 < 2 ^ 20000 := Nat.pow_lt_pow_right (by decide) (by decide)
    have b3 : (2 : Nat) ^ 11 < 2 ^ 9000 := Nat.pow_lt_pow_right (by decide) (by decide)
    have s := ni_sub (a := n) (b := t) (by omega)
    have m := ni_mul (a := ch n t) (b := n - t) (by omega) (by omega)
    have d := ni_fdivy (a := ch n t * (n - t)) (b := t + 1) (Nat.succ_pos _) (by omega)
    have e0 : ch n t * (n - t) / (t + 1) = ch n (t + 1) := by
      have e := ch_step n t
      have e2 : ch n t * (n - t) = (t + 1) * ch n (t + 1) := by
        obtain ⟨j, rfl⟩ : ∃ j, n = t + j := ⟨n - t, by omega⟩
        rw [Nat.add_sub_cancel_left]
        grind
      rw [e2]
      exact Nat.mul_div_cancel_left _ (Nat.succ_pos _)
    rw [e0] at d
    obtain ⟨z', ih⟩ := ch_loop hn x k (t + 1) (.imm (ni t)) (noio_imm _) (by omega)
    refine ⟨z', ?_⟩
    rw [List.range'_succ, List.map_cons]
    unfold sLoop
    rw [gset_ok (s := z) rfl hz]
    have e : chB [.imm (ni n), x, .imm (ni (ch n t)), .imm (ni t)] = .ok (.nx, [.imm (ni n), x, .imm (ni (ch n (t + 1))), .imm (ni t)]) := by
      unfold chB
      simp [dTest, dBin, dVar, dC, dMove, dUn, dIf, dTru, dAnd, dOr, dNot, tAndD, tOrD, tNotD, dTup, dLst, aCons, aNil, aStar, dCallB, dCall, dIxS, asB, asTru, truD, Val.d, sSeq, seqK, sIf, sRet, sRetN, sExpr, sSet, setVal, sAsg, gDone, sPar, sNext, itRng1, itRng2, itSeq, gSet, gTupD, gsCons, gsNil, canSet, slotD, seqD, Src.d, Src.ok, asRes, runF, env0, outOf, sizeLine, Res.map, ni_add, ni_gt, ni_lt, ni_le, ni_ge, ni_abs, ni_int, ni_eq, ni_ne, ni_isi, ni_isb, bLen_l, bLen_t, ixt0, ixt1, ixl0, ixl1, ixl2, lit0, lit1, lit2, s, m, d]
    show ((chB [.imm (ni n), x, .imm (ni (ch n t)), .imm (ni t)]).bind _) = _
    rw [e, Res.bind_ok]
    dsimp only
    rw [ih, show t + 1 + k = t + (k + 1) by omega]
theorem rng1_ok {i : Nat} {env : Env'} {n : Nat} (h : env[i]? = some (.imm (ni n))) (hn : n < 2 ^ 62) : itRng1 (aCons (dVar i) aNil) env = .ok ((List.range' 0 n).map ni, env) := by
  have i62 : int62 (n : Int) = true := decide_eq_true (by simpa using hn)
  rw [← rngD_ni]
  simp only [itRng1, aCons, aNil, dVar, h, Res.bind_ok, Val.d, ni_def, i62, if_true, Int.toNat_natCast]
theorem choose_ok {n k : Nat} (hn : n ≤ 1100) (hk : k ≤ n) : F_choose_in [ni n, ni k] = .ok (.imm (ni (ch n k)), none) := by
  obtain ⟨z, l⟩ := ch_loop hn (.imm (ni k)) k 0 .un noio_un (by omega)
  have r := rng1_ok (i := 1) (env := [.imm (ni n), .imm (ni k), .imm (ni 1), .un]) (n := k) rfl (by omega)
  rw [ch_zero, Nat.zero_add] at l
  unfold chB at l
  unfold F_choose_in b_choose_in
  simp only [lit1] at l ⊢
  simp [runF, env0, sSeq, sSet, dC, setVal, canSet, seqK, sFor, r]
  simp [l, sRet, dMove, outOf, seqK]
theorem factor_ok {g d : Nat} (h1 : 1 ≤ g) (h2 : g ≤ 5) (h3 : d ≤ 1000) : F_factor_in [ni g, ni d] = .ok (.imm (ni (ch (d + g - 1) (g - 1))), none) := by
  have c := choose_ok (n := d + g - 1) (k := g - 1) (by omega) (by omega)
  have s1 := ni_sub (a := d + g) (b := 1) (by omega)
  have s2 := ni_sub (a := g) (b := 1) h1
  unfold F_factor_in b_factor_in
  simp [dTest, dBin, dVar, dC, dMove, dUn, dIf, dTru, dAnd, dOr, dNot, tAndD, tOrD, tNotD, dTup, dLst, aCons, aNil, aStar, dCallB, dCall, dIxS, asB, asTru, truD, Val.d, sSeq, seqK, sIf, sRet, sRetN, sExpr, sSet, setVal, sAsg, gDone, sPar, sNext, itRng1, itRng2, itSeq, gSet, gTupD, gsCons, gsNil, canSet, slotD, seqD, Src.d, Src.ok, asRes, runF, env0, outOf, sizeLine, Res.map, ni_add, ni_gt, ni_lt, ni_le, ni_ge, ni_abs, ni_int, ni_eq, ni_ne, ni_isi, ni_isb, bLen_l, bLen_t, ixt0, ixt1, ixl0, ixl1, ixl2, lit0, lit1, lit2, s1, s2, c]
theorem need_few_ok {g : Nat} {xs : List Dt} (h1 : 1 ≤ g) (h2 : g ≤ 5) (h3 : xs.length ≤ 1000) (h4 : ch (xs.length + g - 1) (g - 1) ≤ 5000) : F_need_few [ni g, .tup xs] = .ok (.imm .non, none) := by
  have f := factor_ok h1 h2 h3
  have g5 : opGt (ni (ch (xs.length + g - 1) (g - 1))) (.int 5000) = .ok (.imm (.bl false)) := by
    have := ni_gt (ch (xs.length + g - 1) (g - 1)) 5000
    rw [decide_eq_false (by omega)] at this
    exact this
  unfold F_need_few b_need_few
  simp [dTest, dBin, dVar, dC, dMove, dUn, dIf, dTru, dAnd, dOr, dNot, tAndD, tOrD, tNotD, dTup, dLst, aCons, aNil, aStar, dCallB, dCall, dIxS, asB, asTru, truD, Val.d, sSeq, seqK, sIf, sRet, sRetN, sExpr, sSet, setVal, sAsg, gDone, sPar, sNext, itRng1, itRng2, itSeq, gSet, gTupD, gsCons, gsNil, canSet, slotD, seqD, Src.d, Src.ok, asRes, runF, env0, outOf, sizeLine, Res.map, bLen_t, f, g5]
end G


set_option maxRecDepth 100000
set_option maxHeartbeats 4000000
set_option exponentiation.threshold 30000
namespace G
open PySem PySem.Spec PyProof.Rows L2
/-! Rt7: the law's words, weights. -/
theorem raw_mul {a c : Int} {b d : Nat} (hb : 0 < b) (hd : 0 < d) : ((a * c : Int) : Rat) / (((b : Int) * (d : Int) : Int) : Rat) = ((a : Rat) / (b : Rat)) * ((c : Rat) / (d : Rat)) := by
  have e1 := ratD hb
  have e2 := ratD hd
  rw [Rat.intCast_mul, Rat.intCast_mul, Rat.intCast_natCast, Rat.intCast_natCast]
  generalize (a : Rat) = a at *
  generalize (c : Rat) = c at *
  generalize (b : Rat) = b at *
  generalize (d : Rat) = d at *
  grind
theorem times_raw {a c : Int} {b d : Nat} (hb : 0 < b) (hd : 0 < d) (ha2 : a.natAbs < 2 ^ 6000) (hb2 : b < 2 ^ 6000) (hc2 : c.natAbs < 2 ^ 6000) (hd2 : d < 2 ^ 6000) :
    F__law_times [.tup [.int a, .int b], .tup [.int c, .int d]] = .ok (.imm (fr (((a : Rat) / (b : Rat)) * ((c : Rat) / (d : Rat)))), none) := by
  have hb' : ((b : Int)).natAbs < 2 ^ 6000 := by simpa using hb2
  have hd' : ((d : Int)).natAbs < 2 ^ 6000 := by simpa using hd2
  have m1 := i_mul (mul_smalli (up60 ha2) (up60 hc2))
  have m4 := i_mul (mul_smalli (up60 hb') (up60 hd'))
  have l := low_okI (a := a * c) (b := (b : Int) * d) (Int.mul_pos (by omega) (by omega)) (by rw [Int.natAbs_mul]; exact up120 (sz_mul ha2 hc2)) (by rw [Int.natAbs_mul]; exact up120 (sz_mul hb' hd'))
  rw [raw_mul hb hd] at l
  unfold F__law_times b__law_times
  simp [dTest, dBin, dVar, dC, dMove, dUn, dIf, dTru, dAnd, dOr, dNot, tAndD, tOrD, tNotD, dTup, dLst, aCons, aNil, aStar, dCallB, dCall, dIxS, asB, asTru, truD, Val.d, sSeq, seqK, sIf, sRet, sRetN, sExpr, sSet, setVal, sAsg, gDone, sPar, sNext, itRng1, itRng2, itSeq, gSet, gTupD, gsCons, gsNil, canSet, slotD, seqD, Src.d, Src.ok, asRes, runF, env0, outOf, sizeLine, Res.map, jxt0, jxt1, m1, m4, l]
theorem times_r2 {p : Rat} {c : Int} {d : Nat} (hp : Sz p) (hd : 0 < d) (hc2 : c.natAbs < 2 ^ 6000) (hd2 : d < 2 ^ 6000) :
    F__law_times [fr p, .tup [.int c, .int d]] = .ok (.imm (fr (p * ((c : Rat) / (d : Rat)))), none) := by
  have e := times_raw (a := p.num) (b := p.den) p.den_pos hd hp.1 hp.2 hc2 hd2
  rw [num_div] at e
  exact e
/-! words -/
def wD (w : List Nat) : Dt := .tup (w.map ni)
def ext (g : Nat) (w : List Nat) : List (List Nat) := (List.range g).map fun i => w ++ [i]
theorem ext_len (g : Nat) (w : List Nat) : (ext g w).length = g := by unfold ext; rw [List.length_map, List.length_range]
theorem rngD_r (n : Nat) : rngD 0 n = (List.range n).map ni := by
  unfold rngD
  refine List.map_congr_left fun i _ => ?_
  show Dt.int (0 + (i : Int)) = Dt.int (i : Int)
  rw [Int.zero_add]
theorem rng1_okR {i : Nat} {env : Env'} {n : Nat} (h : env[i]? = some (.imm (ni n))) (hn : n < 2 ^ 62) : itRng1 (aCons (dVar i) aNil) env = .ok ((List.range n).map ni, env) := by
  have i62 : int62 (n : Int) = true := decide_eq_true (by simpa using hn)
  rw [← rngD_r]
  simp only [itRng1, aCons, aNil, dVar, h, Res.bind_ok, Val.d, ni_def, i62, if_true, Int.toNat_natCast]
def wordsB : DS := sExt 4 (dLc [6] (itRng1 (aCons (dVar 0) aNil)) (gSet 6) dYes (dBin opAdd (dVar 5) (dTup (aCons (dVar 6) aNil))))
theorem ext_lc {g : Nat} {w : List Nat} {s1 s2 s3 s4 : Slot} (hw : w.length ≤ 1000) : lcLoop [6] (gSet 6) dYes (dBin opAdd (dVar 5) (dTup (aCons (dVar 6) aNil))) ((List.range g).map ni) [.imm (ni g), s1, s2, s3, s4, .imm (wD w), .un] = .ok ((ext g w).map wD, [.imm (ni g), s1, s2, s3, s4, .imm (wD w), .un]) := by
  have e : (ext g w).map wD = (List.range g).map fun i => wD (w ++ [i]) := by
    unfold ext
    rw [List.map_map]
    rfl
  rw [e]
  refine lc_pure ni (fun i => wD (w ++ [i])) _ fun i _ => ?_
  have h1 : (1 : Nat) ≤ 16777216 := by decide
  have h2 : w.length + 1 ≤ 16777216 := by omega
  have h3 : opAdd (wD w) (.tup [ni i]) = .ok (.imm (wD (w ++ [i]))) := by
    show (if (w.map ni).length + 1 ≤ sizeLine then Res.ok (Val.imm (.tup (w.map ni ++ [ni i]))) else .bad) = _
    rw [if_pos (by rw [List.length_map, sizeLine_is]; exact h2)]
    unfold wD
    rw [List.map_append]
    rfl
  simp [lcTurn, dYes, Res.hard, wipeE, dTest, dBin, dVar, dC, dMove, dUn, dIf, dTru, dAnd, dOr, dNot, tAndD, tOrD, tNotD, dTup, dLst, aCons, aNil, aStar, dCallB, dCall, dIxS, asB, asTru, truD, Val.d, sSeq, seqK, sIf, sRet, sRetN, sExpr, sSet, setVal, sAsg, gDone, sPar, sNext, itRng1, itRng2, itSeq, gSet, gTupD, gsCons, gsNil, canSet, slotD, seqD, Src.d, Src.ok, asRes, runF, env0, outOf, sizeLine, Res.map, h3]
theorem words_in {g n k : Nat} (hg : g ≤ 5) (hk : k ≤ 900) (hz : g ^ (k + 1) ≤ 2 ^ 20) {z : Slot} (hz1 : NoIo z) :
    ∃ z', NoIo z' ∧ sLoop (gSet 5) wordsB ((wordsN g k).map wD) [.imm (ni g), .imm (ni n), .imm (.lst ((wordsN g k).map wD)), .imm (ni k), .own (.lst []), z, .un] = .ok (.nx, [.imm (ni g), .imm (ni n), .imm (.lst ((wordsN g k).map wD)), .imm (ni k), .own (.lst ((wordsN g (k + 1)).map wD)), z', .un]) := by
  obtain ⟨e', l, z', hz', he⟩ := loop_inv (g := gSet 5) (f := wordsB) (fun i e => ∃ z, NoIo z ∧ e = [.imm (ni g), .imm (ni n), .imm (.lst ((wordsN g k).map wD)), .imm (ni k), .own (.lst ((((wordsN g k).take i).flatMap (ext g)).map wD)), z, .un])
    ((wordsN g k).map wD) (k := 0) ⟨z, hz1, rfl⟩ fun i hi e ⟨z, hz1, he⟩ => by
      subst he
      rw [Nat.zero_add]
      rw [List.length_map] at hi
      have hw := wordsN_mem (List.getElem_mem hi)
      have hl := ext_lc (g := g) (w := (wordsN g k)[i]) (s1 := .imm (ni n)) (s2 := .imm (.lst ((wordsN g k).map wD))) (s3 := .imm (ni k)) (s4 := .own (.lst ((((wordsN g k).take i).flatMap (ext g)).map wD))) (by omega)
      have r := rng1_okR (i := 0) (env := [.imm (ni g), .imm (ni n), .imm (.lst ((wordsN g k).map wD)), .imm (ni k), .own (.lst ((((wordsN g k).take i).flatMap (ext g)).map wD)), .imm (wD (wordsN g k)[i]), .un]) (n := g) rfl (by omega)
      have fl : ∀ l : List (List Nat), (l.flatMap (ext g)).length = l.length * g := fun l => by
        induction l with
        | nil => simp
        | cons x l ih => rw [List.flatMap_cons, List.length_append, ih, ext_len, List.length_cons, Nat.succ_mul, Nat.add_comm]
      have hlen : (((wordsN g k).take i).flatMap (ext g)).length + (ext g (wordsN g k)[i]).length ≤ 16777216 := by
        rw [fl, ext_len, List.length_take, Nat.min_eq_left (Nat.le_of_lt hi)]
        have h1 : (i + 1) * g ≤ (wordsN g k).length * g := Nat.mul_le_mul_right g hi
        rw [wordsN_len, ← Nat.pow_succ, Nat.succ_mul] at h1
        exact Nat.le_trans h1 (Nat.le_trans hz (by decide))
      refine ⟨_, _, by rw [List.getElem_map]; exact gset_ok (s := z) rfl hz1, ?_, .imm (wD (wordsN g k)[i]), noio_imm _, rfl⟩
      rw [List.take_succ_eq_append_getElem hi, List.flatMap_append, List.flatMap_cons, List.flatMap_nil, List.append_nil, List.map_append]
      generalize ((wordsN g k).take i).flatMap (ext g) = A at *
      generalize (wordsN g k)[i] = w at *
      have dl := dlc_of (vs := [6]) (g := gSet 6) (t := dYes) (f := dBin opAdd (dVar 5) (dTup (aCons (dVar 6) aNil))) r rfl (by rw [List.length_map, List.length_range, sizeLine_is]; omega) hl
      have b : backE [.imm (ni g), .imm (ni n), .imm (.lst ((wordsN g k).map wD)), .imm (ni k), .own (.lst (A.map wD)), .imm (wD w), .un] [.imm (ni g), .imm (ni n), .imm (.lst ((wordsN g k).map wD)), .imm (ni k), .own (.lst (A.map wD)), .imm (wD w), .un] [6] = [.imm (ni g), .imm (ni n), .imm (.lst ((wordsN g k).map wD)), .imm (ni k), .own (.lst (A.map wD)), .imm (wD w), .un] := rfl
      rw [b] at dl
      have x : extD (.lst ((ext g w).map wD)) (.lst (A.map wD)) = some (.lst (A.map wD ++ (ext g w).map wD)) := by
        show (if (A.map wD).length + ((ext g w).map wD).length ≤ sizeLine then _ else _) = _
        rw [if_pos (by rw [List.length_map, List.length_map, sizeLine_is]; exact hlen)]
      unfold wordsB
      simp only [List.set_cons_succ, List.set_cons_zero, sExt, List.getElem?_cons_succ, List.getElem?_cons_zero, Option.map_some, isLst, if_true, dl, Res.bind_ok, slotWr, Val.d, x]
  refine ⟨z', hz', ?_⟩
  rw [he] at l
  rw [Nat.zero_add, List.length_map, List.take_length] at l
  exact l
def wordsO : DS := (sSeq (sSet 4 (dLst aNil))
    (sSeq (sFor (itSeq (dVar 2)) (gSet 5) wordsB)
    (sSet 2 (dMove 4))))
theorem words_ok {g n : Nat} (hg0 : 0 < g) (hg : g ≤ 5) (hn : n ≤ 900) (hz : g ^ n ≤ 2 ^ 20) : F__law_words [ni g, ni n] = .ok (.fresh (.lst ((wordsN g n).map wD)), none) := by
  obtain ⟨e', l, z3, z5, h3, h5, he⟩ := loop_inv (g := gSet 3) (f := wordsO) (fun i e => ∃ z3 z5, NoIo z3 ∧ NoIo z5 ∧ e = [.imm (ni g), .imm (ni n), .own (.lst ((wordsN g i).map wD)), z3, .un, z5, .un])
    ((List.range n).map ni) (k := 0) (env := [.imm (ni g), .imm (ni n), .own (.lst [wD []]), .un, .un, .un, .un]) ⟨.un, .un, noio_un, noio_un, rfl⟩ fun i hi e ⟨z3, z5, h3, h5, he⟩ => by
      subst he
      rw [Nat.zero_add]
      rw [List.length_map, List.length_range] at hi
      obtain ⟨z', hz', l⟩ := words_in (g := g) (n := n) (k := i) hg (by omega) (Nat.le_trans (Nat.pow_le_pow_right hg0 hi) hz) h5
      refine ⟨_, _, by rw [List.getElem_map]; exact gset_ok (s := z3) rfl h3, ?_, .imm (ni i), z', noio_imm _, hz', rfl⟩
      rw [List.getElem_range]
      unfold wordsO
      simp only [List.set_cons_succ, List.set_cons_zero, sSeq, sSet, dLst, aNil, Res.bind_ok, List.length_nil, sizeLine_is, Nat.zero_le, if_true, setVal, canSet, List.getElem?_cons_succ, List.getElem?_cons_zero, seqK, sFor, itSeq, dVar, Val.d, seqD, l, dMove]
  rw [he] at l
  rw [Nat.zero_add, List.length_map, List.length_range] at l
  have r := rng1_okR (i := 1) (env := [.imm (ni g), .imm (ni n), .own (.lst [wD []]), .un, .un, .un, .un]) (n := n) rfl (by omega)
  have w0 : wD [] = .tup [] := rfl
  rw [w0] at l r
  unfold wordsO wordsB at l
  unfold F__law_words b__law_words
  simp only [runF, env0, List.length_cons, List.length_nil, Nat.reduceAdd, Nat.reduceSub, List.map_cons, List.map_nil, List.replicate, List.cons_append, List.nil_append, sSeq, sSet, dLst, dTup, aCons, aNil, Res.bind_ok, sizeLine_is, Nat.zero_le, Nat.reduceLeDiff, if_true, Val.d, setVal, canSet, List.getElem?_cons_succ, List.getElem?_cons_zero, List.set_cons_succ, List.set_cons_zero, seqK, sFor, sRet, dMove, outOf] at l r ⊢
  simp only [r, Res.bind_ok]
  rw [l]
  rfl
end G


set_option maxRecDepth 100000
set_option maxHeartbeats 4000000
set_option exponentiation.threshold 30000
namespace G
open PySem PySem.Spec PyProof.Rows L2
/-! Rt8: the law's even weights, products, passed markets. -/
theorem numbered_getE : ∀ (xs : List Dt) (j : Nat) (i : Nat) (h : i < xs.length) (h' : i < (numbered j xs).length), (numbered j xs)[i] = .tup [.int ((j + i : Nat) : Int), xs[i]]
  | x :: xs, j, 0, _, _ => rfl
  | x :: xs, j, i + 1, h, h' => by
    have := numbered_getE xs (j + 1) i (by simpa using h) (by simpa [numbered] using h')
    rw [show j + 1 + i = j + (i + 1) by omega] at this
    exact this
theorem numbered_get0 (xs : List Dt) (i : Nat) (h : i < xs.length) (h' : i < (numbered 0 xs).length) : (numbered 0 xs)[i] = .tup [ni i, xs[i]] := by
  rw [numbered_getE xs 0 i h h', Nat.zero_add]
  rfl
theorem asI_ni (n : Nat) (e : Env') : asI (.imm (ni n), e) = .ok (some (n : Int), e) := rfl
theorem cut_takeR {α : Type} (xs : List α) (k : Nat) : cutG xs none (some (k : Int)) = xs.take k := by
  unfold cutG
  rw [HT.sIx_none, HT.sIx_nat, List.drop_zero, Nat.sub_zero]
  by_cases h : k ≤ xs.length
  · rw [Nat.min_eq_left h]
  · rw [Nat.min_eq_right (by omega), List.take_length, List.take_of_length_le (by omega)]
theorem cut_dropR {α : Type} (xs : List α) (k : Nat) : cutG xs (some (k : Int)) none = xs.drop k := by
  unfold cutG
  rw [HT.sIx_none, HT.sIx_nat]
  by_cases h : k ≤ xs.length
  · rw [Nat.min_eq_left h]
    exact List.take_of_length_le (by simp)
  · rw [Nat.min_eq_right (by omega), List.drop_of_length_le (Nat.le_refl _), List.drop_of_length_le (by omega), List.take_nil]
theorem asI_int (n : Int) (e : Env') : asI (.imm (.int n), e) = .ok (some n, e) := rfl
theorem count_filter (w : List Nat) (i : Nat) : (w.filter fun x => decide (x = i)).length = w.count i := by
  rw [List.count_eq_length_filter]
  congr 1
theorem hw_bz {g : Nat} {cs : List Nat} (hl : cs.length = g) {n : Nat} (hs : cs.sum = n) : Bz (fac (g - 1 + n)) (fac (g - 1 + n)) (hw g cs) := by
  have M := Mw_fac cs (g - 1)
  rw [hs] at M
  have hP : 0 < fac (g - 1) * pfac cs := Nat.mul_pos (fac_pos _) (pfac_pos _)
  have h1 := Mw_pos cs (g - 1)
  refine ⟨fac_pos _, ((fac (g - 1) * pfac cs : Nat) : Int), ?_, ?_⟩
  · rw [← M, Rat.intCast_natCast, Rat.natCast_mul (fac (g - 1) * pfac cs)]
    unfold hw
    have e1 := ratD h1
    generalize ((fac (g - 1) * pfac cs : Nat) : Rat) = A at *
    generalize (Mw (g - 1) cs : Rat) = B at *
    grind
  · rw [Int.natAbs_natCast, ← M]
    exact Nat.le_mul_of_pos_right _ h1
theorem ev_bz {g : Nat} (hg : 0 < g) {w : List Nat} (h : ∀ i ∈ w, i < g) : Bz (fac (g - 1 + w.length)) (fac (g - 1 + w.length)) (ev g w) := by
  rw [ev_hw hg w h]
  exact hw_bz (counts_len g w) (counts_sum w h)
theorem fac_mono {a b : Nat} (h : a ≤ b) : fac a ≤ fac b := by
  induction b with
  | zero => rw [Nat.le_zero.mp h]; exact Nat.le_refl _
  | succ b ih =>
    rcases Nat.lt_or_ge a (b + 1) with h1 | h1
    · exact Nat.le_trans (ih (by omega)) (Nat.le_mul_of_pos_left _ (Nat.succ_pos _))
    · rw [show a = b + 1 by omega]; exact Nat.le_refl _
theorem fac_sz {n : Nat} (h : n ≤ 20) : fac n < 2 ^ 64 := Nat.lt_of_le_of_lt (fac_mono h) (by decide)
theorem lt60 {x k : Nat} (h : x < 2 ^ k) (hk : k ≤ 6000) : x < 2 ^ 6000 := Nat.lt_of_lt_of_le h (Nat.pow_le_pow_right (by decide) hk)
theorem ev_sz {g : Nat} (hg : 0 < g) {w : List Nat} (h : ∀ i ∈ w, i < g) (hl : g - 1 + w.length ≤ 20) : Sz (ev g w) := by
  have f := lt60 (fac_sz hl) (by decide)
  exact (ev_bz hg h).sz f f
theorem gtup2 {a b : Nat} {env : Env'} {s1 s2 : Slot} {d1 d2 : Dt} (h1 : env[a]? = some s1) (hs1 : NoIo s1) (h2 : (env.set a (.imm d1))[b]? = some s2) (hs2 : NoIo s2) :
    gTupD 2 (gsCons (gSet a) (gsCons (gSet b) gsNil)) (.tup [d1, d2]) env = .ok ((env.set a (.imm d1)).set b (.imm d2)) := by
  simp only [gTupD, gsCons, gsNil, List.length_cons, List.length_nil, Nat.zero_add, Nat.reduceAdd, if_true, gset_ok h1 hs1, Res.bind_ok, gset_ok h2 hs2]
def evenB : DS := sSet 2 (dCall F__law_times ⟨2, [], [.pos 0, .pos 1]⟩ (aCons (dVar 2) (aCons (dTup (aCons (dBin opAdd (dC (.int 1)) (dCallB bLen (aCons (dLc [5] (itSeq (dSl (dVar 1) oNone (oSome (dVar 3)))) (gSet 5) (dTest (dBin (eqS false) (dVar 5) (dVar 4))) (dC (.int 1))) aNil))) (aCons (dBin opAdd (dVar 3) (dVar 0)) aNil))) aNil)) aNil)
theorem even_ok {g : Nat} (hg : 0 < g) (hg5 : g ≤ 5) {w : List Nat} (h : ∀ i ∈ w, i < g) (hl : g - 1 + w.length ≤ 20) : F__law_even [ni g, wD w] = .ok (.imm (fr (ev g w)), none) := by
  obtain ⟨e', l, z3, z4, h3, h4, he⟩ := loop_inv (g := gTupD 2 (gsCons (gSet 3) (gsCons (gSet 4) gsNil))) (f := evenB) (fun i e => ∃ z3 z4, NoIo z3 ∧ NoIo z4 ∧ e = [.imm (ni g), .imm (wD w), .imm (fr (ev g (w.take i))), z3, z4, .un])
    (numbered 0 (w.map ni)) (k := 0) (env := [.imm (ni g), .imm (wD w), .imm (fr (ev g [])), .un, .un, .un]) ⟨.un, .un, noio_un, noio_un, rfl⟩ fun i hi e ⟨z3, z4, h3, h4, he⟩ => by
      subst he
      rw [Nat.zero_add]
      rw [numbered_len, List.length_map] at hi
      have hw : w.take (i + 1) = w.take i ++ [w[i]] := List.take_succ_eq_append_getElem hi
      have hti : (w.take i).length = i := by rw [List.length_take]; omega
      have hsz : Sz (ev g (w.take i)) := ev_sz hg (fun j hj => h j (List.mem_of_mem_take hj)) (by rw [hti]; omega)
      have hc : (w.take i).count w[i] ≤ i := Nat.le_trans List.count_le_length (by omega)
      have t := times_r2 (p := ev g (w.take i)) (c := ((1 + (w.take i).count w[i] : Nat) : Int)) (d := i + g) hsz (by omega) (by rw [Int.natAbs_natCast]; exact lt60 (k := 64) (by omega) (by decide)) (lt60 (k := 64) (by omega) (by decide))
      rw [Rat.intCast_natCast, show i + g = (w.take i).length + g by rw [hti], ← ev_snoc, ← hw, hti] at t
      have en := numbered_get0 (w.map ni) i (by rw [List.length_map]; exact hi) (by rw [numbered_len, List.length_map]; exact hi)
      rw [en, List.getElem_map]
      have lc : lcLoop [5] (gSet 5) (dTest (dBin (eqS false) (dVar 5) (dVar 4))) (dC (.int 1)) ((w.take i).map ni) [.imm (ni g), .imm (wD w), .imm (fr (ev g (w.take i))), .imm (ni i), .imm (ni w[i]), .un] =
          .ok (((w.take i).filter fun x => decide (x = w[i])).map fun _ => .int 1, [.imm (ni g), .imm (wD w), .imm (fr (ev g (w.take i))), .imm (ni i), .imm (ni w[i]), .un]) :=
        lc_filter ni (fun _ => .int 1) (fun x => decide (x = w[i])) (w.take i) fun x _ => by
          by_cases hx : x = w[i]
          · simp [lcTurn, Res.hard, wipeE, dTest, dBin, dVar, dC, dMove, dUn, dIf, dTru, dAnd, dOr, dNot, tAndD, tOrD, tNotD, dTup, dLst, aCons, aNil, aStar, dCallB, dCall, dIxS, asB, asTru, truD, Val.d, sSeq, seqK, sIf, sRet, sRetN, sExpr, sSet, setVal, sAsg, gDone, sPar, sNext, itRng1, itRng2, itSeq, gSet, gTupD, gsCons, gsNil, canSet, slotD, seqD, Src.d, Src.ok, asRes, runF, env0, outOf, sizeLine, Res.map, ni_eq, hx]
          · simp [lcTurn, Res.hard, wipeE, dTest, dBin, dVar, dC, dMove, dUn, dIf, dTru, dAnd, dOr, dNot, tAndD, tOrD, tNotD, dTup, dLst, aCons, aNil, aStar, dCallB, dCall, dIxS, asB, asTru, truD, Val.d, sSeq, seqK, sIf, sRet, sRetN, sExpr, sSet, setVal, sAsg, gDone, sPar, sNext, itRng1, itRng2, itSeq, gSet, gTupD, gsCons, gsNil, canSet, slotD, seqD, Src.d, Src.ok, asRes, runF, env0, outOf, sizeLine, Res.map, ni_eq, hx]
      refine ⟨[.imm (ni g), .imm (wD w), .imm (fr (ev g (w.take i))), .imm (ni i), .imm (ni w[i]), .un], _, ?_, ?_, .imm (ni i), .imm (ni w[i]), noio_imm _, noio_imm _, rfl⟩
      · exact gtup2 (s1 := z3) (s2 := z4) rfl h3 rfl h4
      · have cnt : (((w.take i).filter fun x => decide (x = w[i])).map fun _ => Dt.int 1).length = (w.take i).count w[i] := by rw [List.length_map, count_filter]
        generalize hL : (((w.take i).filter fun x => decide (x = w[i])).map fun _ => Dt.int 1) = L at lc cnt
        have sl : slD (wD w) none (some (i : Int)) = .ok (.imm (.tup ((w.take i).map ni))) := by
          show Res.ok (Val.imm (Dt.tup (cutG (w.map ni) none (some (i : Int))))) = _
          rw [cut_takeR, List.map_take]
        have it : itSeq (dSl (dVar 1) oNone (oSome (dVar 3))) [.imm (ni g), .imm (wD w), .imm (fr (ev g (w.take i))), .imm (ni i), .imm (ni w[i]), .un] = .ok ((w.take i).map ni, [.imm (ni g), .imm (wD w), .imm (fr (ev g (w.take i))), .imm (ni i), .imm (ni w[i]), .un]) := by
          simp only [itSeq, dSl, dVar, List.getElem?_cons_succ, List.getElem?_cons_zero, Res.bind_ok, oNone, oSome, asI_ni, Val.d, sl, Res.map_ok, seqD]
        have dl := dlc_of (vs := [5]) (g := gSet 5) (t := dTest (dBin (eqS false) (dVar 5) (dVar 4))) (f := dC (.int 1)) it rfl (by rw [List.length_map, hti, sizeLine_is]; omega) lc
        have b : backE [.imm (ni g), .imm (wD w), .imm (fr (ev g (w.take i))), .imm (ni i), .imm (ni w[i]), .un] [.imm (ni g), .imm (wD w), .imm (fr (ev g (w.take i))), .imm (ni i), .imm (ni w[i]), .un] [5] = [.imm (ni g), .imm (wD w), .imm (fr (ev g (w.take i))), .imm (ni i), .imm (ni w[i]), .un] := rfl
        rw [b] at dl
        have a1 : opAdd (.int 1) (.int L.length) = .ok (.imm (.int ((1 + (w.take i).count w[i] : Nat) : Int))) := by rw [i_add, cnt]; congr 3
        have a2 : opAdd (ni i) (ni g) = .ok (.imm (.int ((i + g : Nat) : Int))) := ni_add i g
        unfold evenB
        simp only [sSet, dCall, aCons, aNil, dVar, dTup, dBin, dC, dCallB, List.getElem?_cons_succ, List.getElem?_cons_zero, Res.bind_ok, Val.d, dl, jlen_l, Res.map_ok, a1, a2, List.length_cons, List.length_nil, sizeLine_is, if_true, Nat.reduceLeDiff, Nat.reduceAdd, List.map_cons, List.map_nil, Src.d, Src.ok, List.all_cons, List.all_nil, Option.getD_some, t, asRes, setVal, canSet, List.set_cons_succ, List.set_cons_zero, decide_true, Bool.and_true, Nat.lt_irrefl, decide_eq_true_eq, Bool.and_self, and_self, Nat.zero_lt_succ]
        rfl
  rw [Nat.zero_add, numbered_len, List.length_map, List.take_length] at he
  rw [he] at l
  have e1 : fr (ev g []) = .tup [.int 1, .int 1] := rfl
  rw [e1] at l
  have it : itEnum (dVar 1) [.imm (ni g), .imm (wD w), .imm (.tup [.int 1, .int 1]), .un, .un, .un] = .ok (numbered 0 (w.map ni), [.imm (ni g), .imm (wD w), .imm (.tup [.int 1, .int 1]), .un, .un, .un]) := rfl
  unfold evenB at l
  unfold F__law_even b__law_even
  simp only [runF, env0, List.length_cons, List.length_nil, Nat.reduceAdd, Nat.reduceSub, List.map_cons, List.map_nil, List.replicate, List.cons_append, List.nil_append, sSeq, sSet, dLst, dTup, aCons, aNil, dC, Res.bind_ok, sizeLine_is, Nat.zero_le, Nat.reduceLeDiff, if_true, Val.d, setVal, canSet, List.getElem?_cons_succ, List.getElem?_cons_zero, List.set_cons_succ, List.set_cons_zero, seqK, sFor, sRet, dMove, outOf] at l it ⊢
  simp only [it, Res.bind_ok]
  rw [l]
  rfl
end G


set_option maxRecDepth 100000
set_option maxHeartbeats 4000000
set_option exponentiation.threshold 30000
namespace G
open PySem PySem.Spec PyProof.Rows L2
/-! Rt9: products of words, passed markets; counts with one more. -/
def rowF (x : List Rat) : Dt := .lst (x.map fr)
def rowL (x : List Rat) : Dt := .lst (x.map nm)
/-- a day of g numbers from 0 on, n over E each, n at most B -/
def RowB (g E B : Nat) (x : List Rat) : Prop := x.length = g ∧ ∀ q ∈ x, Bz E B q ∧ 0 ≤ q
theorem RowB.get {g E B : Nat} {x : List Rat} (h : RowB g E B x) {i : Nat} (hi : i < g) : Bz E B (x.getD i 0) := by
  have hi' : i < x.length := by rw [h.1]; exact hi
  rw [List.getD_eq_getElem?_getD, List.getElem?_eq_getElem hi']
  exact (h.2 _ (List.getElem_mem hi')).1
theorem getD_get {x : List Rat} {i : Nat} (hi : i < x.length) : x[i]? = some (x.getD i 0) := by
  rw [List.getD_eq_getElem?_getD, List.getElem?_eq_getElem hi]
  rfl
theorem wt_bz {g E B : Nat} (hE : 0 < E) : ∀ {m : List (List Rat)} {w : List Nat}, m.length = w.length → (∀ x ∈ m, RowB g E B x) → (∀ i ∈ w, i < g) → Bz (E ^ m.length) (B ^ m.length) (wt m w)
  | [], [], _, _, _ => by
    show Bz (E ^ 0) (B ^ 0) 1
    rw [Nat.pow_zero, Nat.pow_zero]
    exact Bz.one (by decide)
  | x :: m, i :: w, h, hm, hw => by
    have h1 := (hm x List.mem_cons_self).get (hw i List.mem_cons_self)
    have h2 := wt_bz hE (by simpa using h) (fun y hy => hm y (List.mem_cons_of_mem _ hy)) (fun j hj => hw j (List.mem_cons_of_mem _ hj))
    have h3 := h1.mul h2
    rw [List.length_cons, Nat.pow_succ, Nat.pow_succ, Nat.mul_comm _ E, Nat.mul_comm _ B]
    exact h3
  | [], _ :: _, h, _, _ => by cases h
  | _ :: _, [], h, _, _ => by cases h
theorem wt_split : ∀ (m1 m2 : List (List Rat)) (w1 w2 : List Nat), m1.length = w1.length → wt (m1 ++ m2) (w1 ++ w2) = wt m1 w1 * wt m2 w2
  | [], m2, [], w2, _ => by
    show wt m2 w2 = 1 * wt m2 w2
    rw [Rat.one_mul]
  | x :: m1, m2, i :: w1, w2, h => by
    show x.getD i 0 * wt (m1 ++ m2) (w1 ++ w2) = x.getD i 0 * wt m1 w1 * wt m2 w2
    rw [wt_split m1 m2 w1 w2 (by simpa using h), Rat.mul_assoc]
  | [], _, _ :: _, _, h => by cases h
  | _ :: _, _, [], _, h => by cases h
theorem pairs_get (xs ys : List Dt) (i : Nat) (h1 : i < xs.length) (h2 : i < ys.length) (h3 : i < (pairs xs ys).length) : (pairs xs ys)[i] = .tup [xs[i], ys[i]] := List.getElem_zipWith
def weightB : DS := sSet 2 (dCall F__law_times ⟨2, [], [.pos 0, .pos 1]⟩ (aCons (dVar 2) (aCons (dIxS 3 (dVar 4)) aNil)) aNil)
theorem lweight_ok {g E B : Nat} (hE : 0 < E) {m : List (List Rat)} {w : List Nat} (hmw : m.length = w.length) (hm : ∀ x ∈ m, RowB g E B x) (hw : ∀ i ∈ w, i < g) (hE2 : ∀ k, k ≤ m.length → E ^ k < 2 ^ 6000) (hB2 : ∀ k, k ≤ m.length → B ^ k < 2 ^ 6000) (he2 : E < 2 ^ 6000) (hb2 : B < 2 ^ 6000) :
    F__law_weight [.lst (m.map rowF), wD w] = .ok (.imm (fr (wt m w)), none) := by
  have hpl : (pairs (m.map rowF) (w.map ni)).length = m.length := by
    unfold pairs
    rw [List.length_zipWith, List.length_map, List.length_map]
    omega
  obtain ⟨e', l, z3, z4, h3, h4, he⟩ := loop_inv (g := gTupD 2 (gsCons (gSet 3) (gsCons (gSet 4) gsNil))) (f := weightB) (fun i e => ∃ z3 z4, NoIo z3 ∧ NoIo z4 ∧ e = [.imm (.lst (m.map rowF)), .imm (wD w), .imm (fr (wt (m.take i) (w.take i))), z3, z4])
    (pairs (m.map rowF) (w.map ni)) (k := 0) (env := [.imm (.lst (m.map rowF)), .imm (wD w), .imm (fr 1), .un, .un]) ⟨.un, .un, noio_un, noio_un, rfl⟩ fun i hi e ⟨z3, z4, h3, h4, he⟩ => by
      subst he
      rw [Nat.zero_add]
      rw [hpl] at hi
      have hi' : i < w.length := by omega
      have hx := hm m[i] (List.getElem_mem hi)
      have hj := hw w[i] (List.getElem_mem hi')
      have tl : (m.take i).length = (w.take i).length := by rw [List.length_take, List.length_take, hmw]
      have til : (m.take i).length = i := by rw [List.length_take]; omega
      have b1 := wt_bz hE tl (fun y hy => hm y (List.mem_of_mem_take hy)) (fun j hj => hw j (List.mem_of_mem_take hj))
      rw [til] at b1
      have s1 := b1.sz (hE2 i (by omega)) (hB2 i (by omega))
      have s2 := (hx.get hj).sz he2 hb2
      have t := times_ok s1 s2
      have hwt : wt (m.take (i + 1)) (w.take (i + 1)) = wt (m.take i) (w.take i) * m[i].getD w[i] 0 := by
        rw [List.take_succ_eq_append_getElem hi, List.take_succ_eq_append_getElem hi', wt_snoc _ _ _ _ tl]
      rw [← hwt] at t
      have ix : opIx (rowF m[i]) (ni w[i]) = .ok (.imm (fr (m[i].getD w[i] 0))) := ix_l (by rw [List.getElem?_map, getD_get (by rw [hx.1]; exact hj)]; rfl)
      have ed : (pairs (m.map rowF) (w.map ni))[i] = .tup [rowF m[i], ni w[i]] := by
        rw [pairs_get _ _ _ (by rw [List.length_map]; exact hi) (by rw [List.length_map]; exact hi'), List.getElem_map, List.getElem_map]
      rw [ed]
      refine ⟨_, [.imm (.lst (m.map rowF)), .imm (wD w), .imm (fr (wt (m.take (i + 1)) (w.take (i + 1)))), .imm (rowF m[i]), .imm (ni w[i])], gtup2 (s1 := z3) (s2 := z4) rfl h3 rfl h4, ?_, .imm (rowF m[i]), .imm (ni w[i]), noio_imm _, noio_imm _, rfl⟩
      unfold weightB
      generalize wt (m.take i) (w.take i) = A at *
      generalize wt (m.take (i + 1)) (w.take (i + 1)) = A' at *
      generalize m[i].getD w[i] 0 = y at *
      generalize rowF m[i] = R at *
      generalize ni w[i] = J at *
      simp [dTest, dBin, dVar, dC, dMove, dUn, dIf, dTru, dAnd, dOr, dNot, tAndD, tOrD, tNotD, dTup, dLst, aCons, aNil, aStar, dCallB, dCall, dIxS, asB, asTru, truD, Val.d, sSeq, seqK, sIf, sRet, sRetN, sExpr, sSet, setVal, sAsg, gDone, sPar, sNext, itRng1, itRng2, itSeq, gSet, gTupD, gsCons, gsNil, canSet, slotD, seqD, Src.d, Src.ok, asRes, runF, env0, outOf, sizeLine, Res.map, slotD, ix, t]
  rw [Nat.zero_add, hpl, List.take_length, List.take_of_length_le (by omega)] at he
  rw [he] at l
  have e1 : fr 1 = .tup [.int 1, .int 1] := rfl
  rw [e1] at l
  have it : itZip (aCons (dVar 0) (aCons (dVar 1) aNil)) [.imm (.lst (m.map rowF)), .imm (wD w), .imm (.tup [.int 1, .int 1]), .un, .un] = .ok (pairs (m.map rowF) (w.map ni), [.imm (.lst (m.map rowF)), .imm (wD w), .imm (.tup [.int 1, .int 1]), .un, .un]) := rfl
  unfold weightB at l
  unfold F__law_weight b__law_weight
  simp only [runF, env0, List.length_cons, List.length_nil, Nat.reduceAdd, Nat.reduceSub, List.map_cons, List.map_nil, List.replicate, List.cons_append, List.nil_append, sSeq, sSet, dLst, dTup, aCons, aNil, dC, Res.bind_ok, sizeLine_is, Nat.zero_le, Nat.reduceLeDiff, if_true, Val.d, setVal, canSet, List.getElem?_cons_succ, List.getElem?_cons_zero, List.set_cons_succ, List.set_cons_zero, seqK, sFor, sRet, dMove, outOf] at l it ⊢
  simp only [it, Res.bind_ok]
  rw [l]
  rfl
theorem passed_ok {m : List (List Rat)} (hm : ∀ x ∈ m, x.length ≤ 5) (hl : m.length ≤ 1000) : F__law_passed [.lst (m.map rowF)] = .ok (.fresh (.lst (m.map rowL)), none) := by
  have l : lcLoop [1] (gSet 1) dYes (dLc [2] (itSeq (dVar 1)) (gSet 2) dYes (dCall F__law_number ⟨1, [], [.pos 0]⟩ (aCons (dVar 2) aNil) aNil)) (m.map rowF) [.imm (.lst (m.map rowF)), .un, .un] = .ok (m.map rowL, [.imm (.lst (m.map rowF)), .un, .un]) := lc_pure rowF rowL m fun x hx => by
    have l2 : lcLoop [2] (gSet 2) dYes (dCall F__law_number ⟨1, [], [.pos 0]⟩ (aCons (dVar 2) aNil) aNil) (x.map fr) [.imm (.lst (m.map rowF)), .imm (rowF x), .un] = .ok (x.map nm, [.imm (.lst (m.map rowF)), .imm (rowF x), .un]) := lc_pure fr nm x fun q _ => by
      have n := number_ok q
      simp [lcTurn, dYes, Res.hard, wipeE, dTest, dBin, dVar, dC, dMove, dUn, dIf, dTru, dAnd, dOr, dNot, tAndD, tOrD, tNotD, dTup, dLst, aCons, aNil, aStar, dCallB, dCall, dIxS, asB, asTru, truD, Val.d, sSeq, seqK, sIf, sRet, sRetN, sExpr, sSet, setVal, sAsg, gDone, sPar, sNext, itRng1, itRng2, itSeq, gSet, gTupD, gsCons, gsNil, canSet, slotD, seqD, Src.d, Src.ok, asRes, runF, env0, outOf, sizeLine, Res.map, n]
    have hz : x.length ≤ 16777216 := by have := hm x hx; omega
    unfold rowF rowL at *
    simp [lcTurn, dYes, Res.hard, wipeE, dTest, dBin, dVar, dC, dMove, dUn, dIf, dTru, dAnd, dOr, dNot, tAndD, tOrD, tNotD, dTup, dLst, aCons, aNil, aStar, dCallB, dCall, dIxS, asB, asTru, truD, Val.d, sSeq, seqK, sIf, sRet, sRetN, sExpr, sSet, setVal, sAsg, gDone, sPar, sNext, itRng1, itRng2, itSeq, gSet, gTupD, gsCons, gsNil, canSet, slotD, seqD, Src.d, Src.ok, asRes, runF, env0, outOf, sizeLine, Res.map, dLc, lcOk, l2, backE, hz]
  have hz : m.length ≤ 16777216 := by omega
  unfold F__law_passed b__law_passed
  simp [dTest, dBin, dVar, dC, dMove, dUn, dIf, dTru, dAnd, dOr, dNot, tAndD, tOrD, tNotD, dTup, dLst, aCons, aNil, aStar, dCallB, dCall, dIxS, asB, asTru, truD, Val.d, sSeq, seqK, sIf, sRet, sRetN, sExpr, sSet, setVal, sAsg, gDone, sPar, sNext, itRng1, itRng2, itSeq, gSet, gTupD, gsCons, gsNil, canSet, slotD, seqD, Src.d, Src.ok, asRes, runF, env0, outOf, sizeLine, Res.map, dLc, lcOk, wipeE, l, Res.hard, backE, hz]
theorem with_one_ok {cs : List Nat} {i : Nat} (hi : i < cs.length) (hl : cs.length ≤ 1000) : F_with_one [.tup (cs.map ni), ni i] = .ok (.imm (.tup ((bump cs i).map ni)), none) := by
  have x : opIx (.tup (cs.map ni)) (ni i) = .ok (.imm (ni (cs.getD i 0))) := ix_t (by simp [hi])
  have o1 : slD (.tup (cs.map ni)) none (some (i : Int)) = .ok (.imm (.tup ((cs.take i).map ni))) := by
    show Res.ok (Val.imm (Dt.tup (cutG (cs.map ni) none (some (i : Int))))) = _
    rw [cut_takeR, List.map_take]
  have o2 : slD (.tup (cs.map ni)) (some ((i + 1 : Nat) : Int)) none = .ok (.imm (.tup ((cs.drop (i + 1)).map ni))) := by
    show Res.ok (Val.imm (Dt.tup (cutG (cs.map ni) (some ((i + 1 : Nat) : Int)) none))) = _
    rw [cut_dropR, List.map_drop]
  have e : (bump cs i).map ni = (cs.take i).map ni ++ (ni (cs.getD i 0 + 1) :: (cs.drop (i + 1)).map ni) := by
    unfold bump
    simp only [List.map_append, List.map_cons, List.map_nil, List.append_assoc, List.singleton_append]
  have hz : ((cs.take i).map ni).length + (((cs.drop (i + 1)).map ni).length + 1) ≤ 16777216 := by simp; omega
  have a1 : opAdd (ni (cs.getD i 0)) (.int 1) = .ok (.imm (ni (cs.getD i 0 + 1))) := ni_add _ 1
  have a2 : opAdd (ni i) (.int 1) = .ok (.imm (ni (i + 1))) := ni_add i 1
  rw [e]
  generalize (cs.take i).map ni = A1 at *
  generalize (cs.drop (i + 1)).map ni = A2 at *
  generalize cs.getD i 0 = c at *
  generalize cs.map ni = ds at *
  unfold F_with_one b_with_one
  simp only [runF, env0, List.length_cons, List.length_nil, Nat.reduceAdd, Nat.reduceSub, List.map_cons, List.map_nil, List.replicate, List.append_nil, sRet, dTup, aStar, aCons, aNil, dSl, dVar, List.getElem?_cons_zero, List.getElem?_cons_succ, Res.bind_ok, oNone, oSome, asI_ni, Val.d, o1, Res.map_ok, seqD, dBin, dIxS, slotD, Option.bind_some, Option.isNone_some, Bool.false_eq_true, if_false, x, dC, a1, a2, o2, List.length_append, sizeLine_is, hz, if_true, outOf]
end G


set_option maxRecDepth 100000
set_option maxHeartbeats 4000000
set_option exponentiation.threshold 30000
namespace G
open PySem PySem.Spec PyProof.Rows L2
/-! Rt10: grouped. -/
def keyI (cs : List Nat) : List Key := cs.map fun c : Nat => (Sum.inl (c : Int) : Key)
theorem wD_key (cs : List Nat) : wD cs = .tup ((keyI cs).map keyD) := by
  unfold wD keyI
  rw [List.map_map]
  rfl
theorem keyOf_wD (cs : List Nat) : keyOf (wD cs) = some (keyI cs) := by rw [wD_key]; exact keyOf_keyD _
theorem keyI_inj : ∀ {a b : List Nat}, keyI a = keyI b → a = b
  | [], [], _ => rfl
  | x :: a, y :: b, h => by
    simp only [keyI, List.map_cons, List.cons.injEq, Sum.inl.injEq] at h
    rw [show x = y by omega, keyI_inj h.2]
  | [], _ :: _, h => by simp [keyI] at h
  | _ :: _, [], h => by simp [keyI] at h
def dks (d : Dic) : List Dt := d.map fun p => wD p.1
def dvl (d : Dic) : List Dt := d.map fun p => nm p.2
def dD (d : Dic) : Dt := .dct (dks d) (dvl d)
theorem val_dic (k : List Nat) : ∀ d : Dic, valD (keyI k) (dks d) (dvl d) = (dget d k).map nm
  | [] => rfl
  | p :: d => by
    show (if keyOf (wD p.1) = some (keyI k) then some (nm p.2) else valD (keyI k) (dks d) (dvl d)) = _
    rw [keyOf_wD, val_dic k d, show dget (p :: d) k = if p.1 = k then some p.2 else dget d k from rfl]
    by_cases h : p.1 = k
    · rw [if_pos h, if_pos (by rw [h])]
      rfl
    · rw [if_neg h, if_neg fun z => h (keyI_inj (Option.some.inj z))]
theorem rep_dic (k : List Nat) (v : Rat) : ∀ d : Dic, repD (keyI k) (nm v) (dks d) (dvl d) = dvl (drep d k v)
  | [] => rfl
  | p :: d => by
    show (if keyOf (wD p.1) = some (keyI k) then nm v else nm p.2) :: repD (keyI k) (nm v) (dks d) (dvl d) = nm (if p.1 = k then (p.1, v) else p).2 :: dvl (drep d k v)
    rw [keyOf_wD, rep_dic k v d]
    by_cases h : p.1 = k
    · rw [if_pos h, if_pos (by rw [h])]
    · rw [if_neg h, if_neg fun z => h (keyI_inj (Option.some.inj z))]
theorem put_dic {d : Dic} {k : List Nat} {v : Rat} (h : d.length < 16777216) : putDct (wD k) (nm v) (dD d) = some (dD (dput d k v)) := by
  have e1 : putDct (wD k) (nm v) (dD d) = if (dks d).length < sizeLine then match keyOf (wD k) with
    | some k' => if (valD k' (dks d) (dvl d)).isSome then some (.dct (dks d) (repD k' (nm v) (dks d) (dvl d))) else some (.dct (dks d ++ [wD k]) (dvl d ++ [nm v]))
    | none => none else none := rfl
  have hl : (dks d).length < sizeLine := by unfold dks; rw [List.length_map, sizeLine_is]; exact h
  rw [e1, if_pos hl, keyOf_wD]
  dsimp only
  rw [val_dic, rep_dic, Option.isSome_map]
  unfold dput
  by_cases hs : (dget d k).isSome = true
  · rw [if_pos hs, if_pos hs]
    unfold dD dks
    have e : (drep d k v).map (fun p => wD p.1) = d.map fun p => wD p.1 := by
      have := congrArg (List.map wD) (drep_keys k v d)
      rw [List.map_map, List.map_map] at this
      exact this
    rw [e]
  · rw [if_neg hs, if_neg hs]
    unfold dD dks dvl
    rw [List.map_append, List.map_append]
    rfl
theorem stepI_snoc {day : List Rat} {cs : List Nat} {v : Rat} (i : Nat) : ∀ (is : List Nat) (later : Dic), stepI day cs v (is ++ [i]) later = dput (stepI day cs v is later) (bump cs i) ((dget (stepI day cs v is later) (bump cs i)).getD 0 + v * day.getD i 0)
  | [], _ => rfl
  | j :: is, later => stepI_snoc i is (dput later (bump cs j) ((dget later (bump cs j)).getD 0 + v * day.getD j 0))
theorem stepD_snoc {g : Nat} {day : List Rat} (p : List Nat × Rat) : ∀ (d : Dic) (later : Dic), stepD g day (d ++ [p]) later = stepI day p.1 p.2 (List.range g) (stepD g day d later)
  | [], _ => rfl
  | q :: d, later => stepD_snoc p d (stepI day q.1 q.2 (List.range g) later)
def goodB : DS := (sSeq (sSet 8 (dCall F_with_one ⟨2, [], [.pos 0, .pos 1]⟩ (aCons (dVar 5) (aCons (dVar 7) aNil)) aNil))
    (sDctPut 4 (dVar 8) (dCall F_added ⟨2, [], [.pos 0, .pos 1]⟩ (aCons (dDGet 4 (dVar 8) (dC (.int 0))) (aCons (dCall F_product ⟨2, [], [.pos 0, .pos 1]⟩ (aCons (dVar 6) (aCons (dIxS 3 (dVar 7)) aNil)) aNil) aNil)) aNil)))
theorem nm_zero : nm 0 = .int 0 := rfl
theorem good_ok {g i : Nat} {day : List Rat} {cs : List Nat} {v : Rat} {later : Dic} {s0 s1 s2 z8 : Slot} (h8 : NoIo z8) (hi : i < g) (hd : day.length = g) (hc : cs.length = g) (hg : g ≤ 5)
    (h1 : Sz v) (h2 : Sz (day.getD i 0)) (h3 : Sz (v * day.getD i 0)) (h4 : Sz ((dget later (bump cs i)).getD 0)) (hl : later.length < 16777216) :
    goodB [s0, s1, s2, .imm (rowT day), .own (dD later), .imm (wD cs), .imm (nm v), .imm (ni i), z8, .un] =
      .ok (.nx, [s0, s1, s2, .imm (rowT day), .own (dD (dput later (bump cs i) ((dget later (bump cs i)).getD 0 + v * day.getD i 0))), .imm (wD cs), .imm (nm v), .imm (ni i), .imm (wD (bump cs i)), .un]) := by
  have w := with_one_ok (cs := cs) (i := i) (by omega) (by omega)
  have w : F_with_one [wD cs, ni i] = .ok (.imm (wD (bump cs i)), none) := w
  have p := product_ok h1 h2
  have a := added_ok h4 h3
  have ix : opIx (rowT day) (ni i) = .ok (.imm (nm (day.getD i 0))) := ix_t (by rw [List.getElem?_map, getD_get (by omega)]; rfl)
  have pt := put_dic (d := later) (k := bump cs i) (v := (dget later (bump cs i)).getD 0 + v * day.getD i 0) hl
  have vd := val_dic (bump cs i) later
  have e0 : ((dget later (bump cs i)).map nm).getD (Dt.int 0) = nm ((dget later (bump cs i)).getD 0) := by
    cases dget later (bump cs i) with
    | none => rfl
    | some x => rfl
  have ko := keyOf_wD (bump cs i)
  unfold goodB
  have c8 : canSet [s0, s1, s2, .imm (rowT day), .own (dD later), .imm (wD cs), .imm (nm v), .imm (ni i), z8, .un] 8 = true := cs_of (s := z8) rfl h8
  unfold dD at *
  generalize (dget later (bump cs i)).getD 0 + v * day.getD i 0 = S at *
  generalize (dget later (bump cs i)).getD 0 = O at *
  generalize v * day.getD i 0 = PR at *
  generalize day.getD i 0 = Y at *
  generalize rowT day = R at *
  simp only [sSeq, sSet, dCall, aCons, aNil, dVar, List.getElem?_cons_succ, List.getElem?_cons_zero, Res.bind_ok, Val.d, List.length_cons, List.length_nil, List.map_cons, List.map_nil, Src.d, Option.getD_some, w, asRes, setVal, c8, if_true, List.set_cons_succ, List.set_cons_zero, seqK, sDctPut, dDGet, isDct, Option.map_some, dC, ko, vd, e0, dIxS, slotD, Option.bind_some, Option.isNone_some, Bool.false_eq_true, if_false, ix, Res.map_ok, p, a, slotWr, pt, Nat.reduceAdd, Src.ok, List.all_cons, List.all_nil, Nat.reduceLT, decide_true, Bool.and_true, Bool.and_self, and_self]
end G


set_option maxRecDepth 100000
set_option maxHeartbeats 4000000
set_option exponentiation.threshold 30000
namespace G
open PySem PySem.Spec PyProof.Rows L2
/-! Rt11: grouped, as a whole. -/
def itemB : DS := sFor (itRng1 (aCons (dVar 0) aNil)) (gSet 7) goodB
/-- what holds of sizes through a market of n days -/
structure Fit (g E B n : Nat) : Prop where
  g0 : 0 < g
  g5 : g ≤ 5
  E0 : 0 < E
  B0 : 0 < B
  n1 : n ≤ 900
  len : g ^ n ≤ 16777216
  den : E ^ n < 2 ^ 6000
  num : NN g B n < 2 ^ 6000
theorem NN_mono {g B : Nat} (hg : 0 < g) (hB : 0 < B) : ∀ {k n : Nat}, k ≤ n → NN g B k ≤ NN g B n := fun {k n} h => by
  induction n with
  | zero => rw [Nat.le_zero.mp h]; exact Nat.le_refl _
  | succ n ih =>
    rcases Nat.lt_or_ge k (n + 1) with h1 | h1
    · refine Nat.le_trans (ih (by omega)) ?_
      show NN g B n ≤ g ^ n * g * (NN g B n * B)
      have h2 : 0 < g ^ n * g := Nat.mul_pos (Nat.pow_pos hg) hg
      exact Nat.le_trans (Nat.le_mul_of_pos_right _ hB) (Nat.le_mul_of_pos_left _ h2)
    · rw [show k = n + 1 by omega]; exact Nat.le_refl _
theorem NN_pos {g B : Nat} (hg : 0 < g) (hB : 0 < B) : ∀ n, 0 < NN g B n
  | 0 => Nat.one_pos
  | n + 1 => Nat.mul_pos (Nat.mul_pos (Nat.pow_pos hg) hg) (Nat.mul_pos (NN_pos hg hB n) hB)
section
variable {g E B n : Nat} {day : List Rat} {s1 s2 : Slot}
theorem item_ok (F : Fit g E B n) {k j : Nat} (hk : k < n) {d : Dic} (hq : DicB g k (g ^ k) (E ^ k) (NN g B k) d) (hj : j < d.length) (hr : RowB g E B day) {z7 z8 : Slot} (h7 : NoIo z7) (h8 : NoIo z8) :
    ∃ z7' z8', NoIo z7' ∧ NoIo z8' ∧ itemB [.imm (ni g), s1, s2, .imm (rowT day), .own (dD (stepD g day (d.take j) [])), .imm (wD d[j].1), .imm (nm d[j].2), z7, z8, .un] =
      .ok (.nx, [.imm (ni g), s1, s2, .imm (rowT day), .own (dD (stepD g day (d.take (j + 1)) [])), .imm (wD d[j].1), .imm (nm d[j].2), z7', z8', .un]) := by
  have hd : ∀ i, i < g → Bz E B (day.getD i 0) := fun i hi => hr.get hi
  have hm := List.getElem_mem hj
  have hkey := hq.key _ hm
  have hval := hq.val _ hm
  have g0 := F.g0
  -- behind j numbers
  have hS : DicB g (k + 1) (j * g) (E ^ k * E) (j * g * (NN g B k * B)) (stepD g day (d.take j) []) := by
    have h0 : DicB g (k + 1) 0 (E ^ k * E) 0 [] := ⟨Nat.le_refl _, fun p hp => (nomatch hp), fun p hp => (nomatch hp)⟩
    have h1 := stepD_b hd (d.take j) (K := j) ⟨by rw [List.length_take]; omega, fun p hp => hq.key p (List.mem_of_mem_take hp), fun p hp => hq.val p (List.mem_of_mem_take hp)⟩ h0
    rw [List.length_take, Nat.min_eq_left (Nat.le_of_lt hj), Nat.zero_add, Nat.zero_add] at h1
    exact h1
  have hgk : d.length * g ≤ g ^ k * g := Nat.mul_le_mul_right g hq.len
  have hden : E ^ k * E < 2 ^ 6000 := by
    rw [← Nat.pow_succ]
    exact Nat.lt_of_le_of_lt (Nat.pow_le_pow_right F.E0 hk) F.den
  have hnum : g ^ k * g * (NN g B k * B) < 2 ^ 6000 := Nat.lt_of_le_of_lt (NN_mono F.g0 F.B0 (show k + 1 ≤ n from hk)) F.num
  have hlen : g ^ k * g ≤ 16777216 := by
    rw [← Nat.pow_succ]
    exact Nat.le_trans (Nat.pow_le_pow_right F.g0 hk) F.len
  have hgk0 : 0 < g ^ k * g := Nat.mul_pos (Nat.pow_pos F.g0) F.g0
  have hMB : NN g B k * B < 2 ^ 6000 := Nat.lt_of_le_of_lt (Nat.le_mul_of_pos_left _ hgk0) hnum
  have hM : NN g B k < 2 ^ 6000 := Nat.lt_of_le_of_lt (Nat.le_mul_of_pos_right _ F.B0) hMB
  have hB : B < 2 ^ 6000 := Nat.lt_of_le_of_lt (Nat.le_mul_of_pos_left _ (NN_pos F.g0 F.B0 k)) hMB
  have hEk : E ^ k < 2 ^ 6000 := Nat.lt_of_le_of_lt (Nat.le_mul_of_pos_right _ F.E0) hden
  have hE : E < 2 ^ 6000 := Nat.lt_of_le_of_lt (Nat.le_mul_of_pos_left _ (Nat.pow_pos F.E0)) hden
  obtain ⟨e', l, z7', z8', h7', h8', he⟩ := loop_inv (g := gSet 7) (f := goodB) (fun i e => ∃ z7 z8, NoIo z7 ∧ NoIo z8 ∧ e = [.imm (ni g), s1, s2, .imm (rowT day), .own (dD (stepI day d[j].1 d[j].2 (List.range i) (stepD g day (d.take j) []))), .imm (wD d[j].1), .imm (nm d[j].2), z7, z8, .un])
    ((List.range g).map ni) (k := 0) ⟨z7, z8, h7, h8, rfl⟩ fun i hi e ⟨z7, z8, h7, h8, he⟩ => by
      subst he
      rw [Nat.zero_add]
      rw [List.length_map, List.length_range] at hi
      have hI := stepI_b (E := E) hkey hval hd (List.range i) (fun a ha => by have := List.mem_range.mp ha; omega) hS
      rw [List.length_range] at hI
      have hji : j * g + i < d.length * g := by
        have : (j + 1) * g ≤ d.length * g := Nat.mul_le_mul_right g hj
        rw [Nat.succ_mul] at this
        omega
      have hN : j * g * (NN g B k * B) + i * (NN g B k * B) ≤ g ^ k * g * (NN g B k * B) := by
        rw [← Nat.add_mul]
        exact Nat.mul_le_mul_right _ (by omega)
      have o := good_ok (g := g) (i := i) (day := day) (cs := d[j].1) (v := d[j].2) (later := stepI day d[j].1 d[j].2 (List.range i) (stepD g day (d.take j) [])) (s0 := .imm (ni g)) (s1 := s1) (s2 := s2) (z8 := z8) h8 hi hr.1 hkey.1 F.g5
        (hval.sz hEk hM) ((hd i hi).sz hE hB) ((hval.mul (hd i hi)).sz hden hMB) ((hI.get (Nat.mul_pos (Nat.pow_pos F.E0) F.E0) _).sz hden (Nat.lt_of_le_of_lt hN hnum)) (by have := hI.len; omega)
      rw [← stepI_snoc, ← List.range_succ] at o
      exact ⟨_, _, by rw [List.getElem_map, List.getElem_range]; exact gset_ok (s := z7) rfl h7, o, _, _, noio_imm _, noio_imm _, rfl⟩
  rw [he, Nat.zero_add, List.length_map, List.length_range] at l
  refine ⟨z7', z8', h7', h8', ?_⟩
  rw [List.take_succ_eq_append_getElem hj, stepD_snoc]
  exact for_of (rng1_okR rfl (by have := F.g5; omega)) l
end
end G


set_option maxRecDepth 100000
set_option maxHeartbeats 4000000
set_option exponentiation.threshold 30000
namespace G
open PySem PySem.Spec PyProof.Rows L2
/-! Rt12: grouped, purses, amounts. -/
def dayB : DS := (sSeq (sSet 4 dDNew)
    (sSeq (sFor (itItmS 2) (gTupD 2 (gsCons (gSet 5) (gsCons (gSet 6) gsNil))) itemB)
    (sSet 2 (dMove 4))))
def prD (p : List Nat × Rat) : Dt := .tup [wD p.1, nm p.2]
theorem pairs_dic : ∀ d : Dic, pairs (dks d) (dvl d) = d.map prD
  | [] => rfl
  | p :: d => by
    show Dt.tup [wD p.1, nm p.2] :: pairs (dks d) (dvl d) = _
    rw [pairs_dic d]
    rfl
def fzD (d : Dic) : Dt := .dcf (dks d) (dvl d)
section
variable {g E B n : Nat} {day : List Rat} {s1 : Slot}
theorem items_ok (F : Fit g E B n) {k : Nat} (hk : k < n) {d : Dic} (hq : DicB g k (g ^ k) (E ^ k) (NN g B k) d) (hr : RowB g E B day) {s2 z5 z6 z7 z8 : Slot} (h5 : NoIo z5) (h6 : NoIo z6) (h7 : NoIo z7) (h8 : NoIo z8) :
    ∃ z5' z6' z7' z8', NoIo z5' ∧ NoIo z6' ∧ NoIo z7' ∧ NoIo z8' ∧ sLoop (gTupD 2 (gsCons (gSet 5) (gsCons (gSet 6) gsNil))) itemB (d.map prD) [.imm (ni g), s1, s2, .imm (rowT day), .own (dD []), z5, z6, z7, z8, .un] =
      .ok (.nx, [.imm (ni g), s1, s2, .imm (rowT day), .own (dD (stepD g day d [])), z5', z6', z7', z8', .un]) := by
  obtain ⟨e', l, z5', z6', z7', z8', h5', h6', h7', h8', he⟩ := loop_inv (g := gTupD 2 (gsCons (gSet 5) (gsCons (gSet 6) gsNil))) (f := itemB) (fun j e => ∃ z5 z6 z7 z8, NoIo z5 ∧ NoIo z6 ∧ NoIo z7 ∧ NoIo z8 ∧ e = [.imm (ni g), s1, s2, .imm (rowT day), .own (dD (stepD g day (d.take j) [])), z5, z6, z7, z8, .un])
    (d.map prD) (k := 0) ⟨z5, z6, z7, z8, h5, h6, h7, h8, rfl⟩ fun j hj e ⟨z5, z6, z7, z8, h5, h6, h7, h8, he⟩ => by
      subst he
      rw [Nat.zero_add]
      rw [List.length_map] at hj
      obtain ⟨z7', z8', h7', h8', o⟩ := item_ok (s1 := s1) (s2 := s2) F hk hq hj hr h7 h8
      refine ⟨_, _, ?_, o, .imm (wD d[j].1), .imm (nm d[j].2), z7', z8', noio_imm _, noio_imm _, h7', h8', rfl⟩
      rw [List.getElem_map]
      exact gtup2 (s1 := z5) (s2 := z6) rfl h5 rfl h6
  rw [he, Nat.zero_add, List.length_map, List.take_length] at l
  exact ⟨z5', z6', z7', z8', h5', h6', h7', h8', l⟩
theorem day_ok (F : Fit g E B n) {k : Nat} (hk : k < n) {d : Dic} (hq : DicB g k (g ^ k) (E ^ k) (NN g B k) d) (hr : RowB g E B day) {z5 z6 z7 z8 : Slot} (h5 : NoIo z5) (h6 : NoIo z6) (h7 : NoIo z7) (h8 : NoIo z8) :
    ∃ z5' z6' z7' z8', NoIo z5' ∧ NoIo z6' ∧ NoIo z7' ∧ NoIo z8' ∧ dayB [.imm (ni g), s1, .own (dD d), .imm (rowT day), .un, z5, z6, z7, z8, .un] =
      .ok (.nx, [.imm (ni g), s1, .own (dD (stepD g day d [])), .imm (rowT day), .un, z5', z6', z7', z8', .un]) := by
  obtain ⟨z5', z6', z7', z8', h5', h6', h7', h8', l⟩ := items_ok (s1 := s1) (s2 := .imm (fzD d)) F hk hq hr h5 h6 h7 h8
  refine ⟨z5', z6', z7', z8', h5', h6', h7', h8', ?_⟩
  have it : itItmS 2 [.imm (ni g), s1, .own (dD d), .imm (rowT day), .own (dD []), z5, z6, z7, z8, .un] = .ok (d.map prD, [.imm (ni g), s1, .imm (fzD d), .imm (rowT day), .own (dD []), z5, z6, z7, z8, .un]) := by
    rw [← pairs_dic]
    rfl
  have nw : sSet 4 dDNew [.imm (ni g), s1, .own (dD d), .imm (rowT day), .un, z5, z6, z7, z8, .un] = .ok (.nx, [.imm (ni g), s1, .own (dD d), .imm (rowT day), .own (dD []), z5, z6, z7, z8, .un]) := rfl
  unfold dayB
  have fo := for_of it l
  simp only [sSeq, nw, Res.bind_ok, seqK, fo]
  rfl
theorem grp_b (F : Fit g E B n) : ∀ (m : List (List Rat)), m.length ≤ n → (∀ x ∈ m, RowB g E B x) → DicB g m.length (g ^ m.length) (E ^ m.length) (NN g B m.length) (grp g m (grp0 g)) := by
  refine revI ?_ ?_
  · intro _ _
    have := grp0_b g
    simpa [NN, grp] using this
  · intro m day ih hl hm
    rw [List.length_append, List.length_singleton] at hl ⊢
    rw [grp_snoc]
    exact step_b (fun i hi => (hm day (by simp)).get hi) (ih (by omega) fun x hx => hm x (by simp [hx])) F.E0
theorem grouped_ok (F : Fit g E B n) {m : List (List Rat)} (hl : m.length ≤ n) (hm : ∀ x ∈ m, RowB g E B x) : F_grouped [ni g, .tup (m.map rowT)] = .ok (.fresh (dD (grp g m (grp0 g))), none) := by
  obtain ⟨e', l, z3, z5, z6, z7, z8, h3, h5, h6, h7, h8, he⟩ := loop_inv (g := gSet 3) (f := dayB) (fun k e => ∃ z3 z5 z6 z7 z8, NoIo z3 ∧ NoIo z5 ∧ NoIo z6 ∧ NoIo z7 ∧ NoIo z8 ∧ e = [.imm (ni g), .imm (.tup (m.map rowT)), .own (dD (grp g (m.take k) (grp0 g))), z3, .un, z5, z6, z7, z8, .un])
    (m.map rowT) (k := 0) (env := [.imm (ni g), .imm (.tup (m.map rowT)), .own (dD (grp0 g)), .un, .un, .un, .un, .un, .un, .un]) ⟨.un, .un, .un, .un, .un, noio_un, noio_un, noio_un, noio_un, noio_un, rfl⟩ fun k hk e ⟨z3, z5, z6, z7, z8, h3, h5, h6, h7, h8, he⟩ => by
      subst he
      rw [Nat.zero_add]
      rw [List.length_map] at hk
      have hb := grp_b F (m.take k) (by rw [List.length_take]; omega) fun x hx => hm x (List.mem_of_mem_take hx)
      rw [List.length_take, Nat.min_eq_left (Nat.le_of_lt hk)] at hb
      obtain ⟨z5', z6', z7', z8', h5', h6', h7', h8', o⟩ := day_ok (s1 := .imm (.tup (m.map rowT))) F (show k < n by omega) hb (hm m[k] (List.getElem_mem hk)) h5 h6 h7 h8
      rw [List.take_succ_eq_append_getElem hk, grp_snoc]
      exact ⟨_, _, by rw [List.getElem_map]; exact gset_ok (s := z3) rfl h3, o, .imm (rowT m[k]), z5', z6', z7', z8', noio_imm _, h5', h6', h7', h8', rfl⟩
  rw [he, Nat.zero_add, List.length_map, List.take_length] at l
  have hz : g ≤ 16777216 := by have := F.g5; omega
  have lc : lcLoop [9] (gSet 9) dYes (dC (.int 0)) ((List.range g).map ni) [.imm (ni g), .imm (.tup (m.map rowT)), .un, .un, .un, .un, .un, .un, .un, .un] = .ok ((List.range g).map fun _ => .int 0, [.imm (ni g), .imm (.tup (m.map rowT)), .un, .un, .un, .un, .un, .un, .un, .un]) := lc_pure ni (fun _ => .int 0) _ fun i _ => by
    simp [lcTurn, dYes, Res.hard, wipeE, dTest, dBin, dVar, dC, dMove, dUn, dIf, dTru, dAnd, dOr, dNot, tAndD, tOrD, tNotD, dTup, dLst, aCons, aNil, aStar, dCallB, dCall, dIxS, asB, asTru, truD, Val.d, sSeq, seqK, sIf, sRet, sRetN, sExpr, sSet, setVal, sAsg, gDone, sPar, sNext, itRng1, itRng2, itSeq, gSet, gTupD, gsCons, gsNil, canSet, slotD, seqD, Src.d, Src.ok, asRes, runF, env0, outOf, sizeLine, Res.map]
  have dl := dlc_of (vs := [9]) (g := gSet 9) (t := dYes) (f := dC (.int 0)) (rng1_okR (i := 0) (env := [.imm (ni g), .imm (.tup (m.map rowT)), .un, .un, .un, .un, .un, .un, .un, .un]) (n := g) rfl (by have := F.g5; omega)) rfl (by rw [List.length_map, List.length_range, sizeLine_is]; exact hz) lc
  have b : backE [.imm (ni g), .imm (.tup (m.map rowT)), .un, .un, .un, .un, .un, .un, .un, .un] [.imm (ni g), .imm (.tup (m.map rowT)), .un, .un, .un, .un, .un, .un, .un, .un] [9] = [.imm (ni g), .imm (.tup (m.map rowT)), .un, .un, .un, .un, .un, .un, .un, .un] := rfl
  rw [b] at dl
  have t0 : (List.range g).map (fun _ => Dt.int 0) = (List.replicate g 0).map ni := by
    rw [List.map_const', List.length_range, List.map_replicate]
    rfl
  rw [t0] at dl
  have bt : bTuple [.lst ((List.replicate g 0).map ni)] = .ok (.imm (wD (List.replicate g 0))) := rfl
  have ko := keyOf_wD (List.replicate g 0)
  have g0 : dD (grp0 g) = .dct [wD (List.replicate g 0)] [.int 1] := rfl
  rw [g0] at l
  have it : itSeq (dVar 1) [.imm (ni g), .imm (.tup (m.map rowT)), .own (.dct [wD (List.replicate g 0)] [.int 1]), .un, .un, .un, .un, .un, .un, .un] = .ok (m.map rowT, [.imm (ni g), .imm (.tup (m.map rowT)), .own (.dct [wD (List.replicate g 0)] [.int 1]), .un, .un, .un, .un, .un, .un, .un]) := rfl
  have fo := for_of it l
  unfold dayB itemB goodB at fo
  unfold F_grouped b_grouped
  simp only [runF, env0, List.length_cons, List.length_nil, Nat.reduceAdd, Nat.reduceSub, List.map_cons, List.map_nil, List.replicate, List.cons_append, List.nil_append]
  simp only [sSeq, sSet, dDisp1, dCallB, aCons, aNil, dl, Res.bind_ok, Val.d, bt, Res.map_ok, dC, ko, setVal, canSet, List.getElem?_cons_succ, List.getElem?_cons_zero, if_true, List.set_cons_succ, List.set_cons_zero, seqK] at fo ⊢
  rw [fo]
  rfl
end
end G


set_option maxRecDepth 100000
set_option maxHeartbeats 4000000
set_option exponentiation.threshold 30000
namespace G
open PySem PySem.Spec PyProof.Rows L2
/-! Rt13: purses and amounts. -/
/-- sizes, for sums too -/
structure Fits (g E B n : Nat) : Prop extends Fit g E B n where
  n2 : n ≤ 900
  den2 : E ^ n * fac (g + n) < 2 ^ 6000
  num2 : g ^ n * (NN g B n * fac (g + n)) < 2 ^ 6000
  few : ch (n + g - 1) (g - 1) ≤ 5000
section
variable {g E B n : Nat}
theorem hw_sz (F : Fits g E B n) {cs : List Nat} {k : Nat} (hl : cs.length = g) (hs : cs.sum = k) (hk : k ≤ n + 1) : Bz (fac (g + n)) (fac (g + n)) (hw g cs) := by
  have g0 := F.g0
  have h := hw_bz hl hs
  have le : fac (g - 1 + k) ≤ fac (g + n) := fac_mono (by omega)
  obtain ⟨h1, z, h2, h3⟩ := h
  -- the greater factorial is a multiple
  have dv : ∀ a b, a ≤ b → ∃ c, 0 < c ∧ fac b = fac a * c := fun a b hab => by
    obtain ⟨j, rfl⟩ : ∃ j, b = a + j := ⟨b - a, by omega⟩
    clear hab
    induction j with
    | zero => exact ⟨1, by omega, by simp⟩
    | succ j ih =>
      obtain ⟨c, hc, e⟩ := ih
      refine ⟨(a + j + 1) * c, Nat.mul_pos (by omega) hc, ?_⟩
      show (a + j + 1) * fac (a + j) = _
      rw [e]
      grind
  obtain ⟨c, hc, e⟩ := dv (g - 1 + k) (g + n) (by omega)
  rw [e]
  exact (hw_bz hl hs).wide hc
theorem bz_small {D N : Nat} {q : Rat} (h : Bz D N q) (hD : D < 2 ^ 6000) (hN : N < 2 ^ 6000) : Sz q := h.sz hD hN
theorem fac_small (F : Fits g E B n) : fac (g + n) < 2 ^ 6000 := Nat.lt_of_le_of_lt (Nat.le_mul_of_pos_left _ (Nat.pow_pos F.E0)) F.den2
theorem NNf (F : Fits g E B n) : NN g B n * fac (g + n) < 2 ^ 6000 := Nat.lt_of_le_of_lt (Nat.le_mul_of_pos_left _ (Nat.pow_pos F.g0)) F.num2
theorem prod_w (F : Fits g E B n) {k : Nat} {d : Dic} (hq : DicB g n (g ^ n) (E ^ n) (NN g B n) d) {p : List Nat × Rat} (hp : p ∈ d) {cs : List Nat} (hl : cs.length = g) (hs : cs.sum = k) (hk : k ≤ n + 1) :
    F_product [nm p.2, nm (hw g cs)] = .ok (.imm (nm (p.2 * hw g cs)), none) ∧ Bz (E ^ n * fac (g + n)) (NN g B n * fac (g + n)) (p.2 * hw g cs) := by
  have h1 := hq.val p hp
  have h2 := hw_sz F hl hs hk
  exact ⟨product_ok (h1.sz F.den F.num) (h2.sz (fac_small F) (fac_small F)), h1.mul h2⟩
theorem len_le (F : Fits g E B n) {d : Dic} (hq : DicB g n (g ^ n) (E ^ n) (NN g B n) d) : d.length ≤ 16777216 := Nat.le_trans hq.len F.len
theorem tot_w (F : Fits g E B n) {d : Dic} (hq : DicB g n (g ^ n) (E ^ n) (NN g B n) d) {f : List Nat → List Nat} {k : Nat} (hf : ∀ p ∈ d, (f p.1).length = g ∧ (f p.1).sum = k) (hk : k ≤ n + 1) :
    F_total [.lst (d.map fun p => nm (p.2 * hw g (f p.1)))] = .ok (.imm (nm (dsum (fun cs => hw g (f cs)) d)), none) := by
  have t := total_ok (D := E ^ n * fac (g + n)) (N := NN g B n * fac (g + n)) (qs := d.map fun p => p.2 * hw g (f p.1)) (Nat.mul_pos (Nat.pow_pos F.E0) (fac_pos _)) F.den2 (fun q hq' => by
    obtain ⟨p, hp, rfl⟩ := List.mem_map.mp hq'
    exact (prod_w F hq hp (hf p hp).1 (hf p hp).2 hk).2) (by
    rw [List.length_map]
    exact Nat.lt_of_le_of_lt (Nat.mul_le_mul_right _ hq.len) F.num2)
  rw [List.map_map] at t
  have e : rsum (d.map fun p => p.2 * hw g (f p.1)) = dsum (fun cs => hw g (f cs)) d := rsum_congr fun p _ => Rat.mul_comm _ _
  rw [e] at t
  exact t
theorem purse_in_ok (F : Fits g E B n) {m : List (List Rat)} (hl : m.length = n) (hm : ∀ x ∈ m, RowB g E B x) : F_purse_in [ni g, .tup (m.map rowT)] = .ok (.imm (nm (vs g m (ev g))), none) := by
  have gr := grouped_ok F.toFit (Nat.le_of_eq hl) hm
  have hb := grp_b F.toFit m (Nat.le_of_eq hl) hm
  rw [hl] at hb
  have hs := grp_sum (g := g) m (hw g)
  have e : vs g m (ev g) = vs g m fun w => hw g (counts g w) := vs_congr fun w _ hw' => ev_hw F.g0 w hw'
  rw [e, ← hs]
  have z : (grp g m (grp0 g)).length ≤ 16777216 := len_le F hb
  generalize grp g m (grp0 g) = d at *
  have t := tot_w F hb (f := id) (k := n) (fun p hp => hb.key p hp) (by omega)
  have lc : lcLoop [2, 3] (gTupD 2 (gsCons (gSet 2) (gsCons (gSet 3) gsNil))) dYes (dCall F_product ⟨2, [], [.pos 0, .pos 1]⟩ (aCons (dVar 3) (aCons (dCall F_weight_in ⟨1, [], [.pos 0]⟩ (aCons (dVar 2) aNil) aNil) aNil)) aNil) (d.map prD) [.imm (ni g), .imm (.tup (m.map rowT)), .un, .un] =
      .ok (d.map fun p => nm (p.2 * hw g p.1), [.imm (ni g), .imm (.tup (m.map rowT)), .un, .un]) := lc_pure prD (fun p => nm (p.2 * hw g p.1)) d fun p hp => by
    have hk := hb.key p hp
    have w := weight_ok (cs := p.1) (by rw [hk.1]; exact F.g0) (by rw [hk.1]; exact F.g5) (by rw [hk.2]; have := F.n2; omega)
    rw [hk.1] at w
    have w : F_weight_in [wD p.1] = _ := w
    have pr := (prod_w F hb hp hk.1 hk.2 (by omega)).1
    have gt := gtup2 (a := 2) (b := 3) (env := [.imm (ni g), .imm (.tup (m.map rowT)), .un, .un]) (d1 := wD p.1) (d2 := nm p.2) rfl noio_un rfl noio_un
    unfold lcTurn
    rw [show prD p = .tup [wD p.1, nm p.2] from rfl, gt]
    generalize wD p.1 = W1 at *
    generalize nm p.2 = W2 at *
    simp [dYes, Res.hard, wipeE, dTest, dBin, dVar, dC, dMove, dUn, dIf, dTru, dAnd, dOr, dNot, tAndD, tOrD, tNotD, dTup, dLst, aCons, aNil, aStar, dCallB, dCall, dIxS, asB, asTru, truD, Val.d, sSeq, seqK, sIf, sRet, sRetN, sExpr, sSet, setVal, sAsg, gDone, sPar, sNext, itRng1, itRng2, itSeq, gSet, gTupD, gsCons, gsNil, canSet, slotD, seqD, Src.d, Src.ok, asRes, runF, env0, outOf, sizeLine, Res.map, w, pr]
  have it : itItmF (dCall F_grouped ⟨2, [], [.pos 0, .pos 1]⟩ (aCons (dVar 0) (aCons (dVar 1) aNil)) aNil) [.imm (ni g), .imm (.tup (m.map rowT)), .un, .un] = .ok (d.map prD, [.imm (ni g), .imm (.tup (m.map rowT)), .un, .un]) := by
    rw [← pairs_dic]
    unfold dD at gr
    simp [itItmF, dTest, dBin, dVar, dC, dMove, dUn, dIf, dTru, dAnd, dOr, dNot, tAndD, tOrD, tNotD, dTup, dLst, aCons, aNil, aStar, dCallB, dCall, dIxS, asB, asTru, truD, Val.d, sSeq, seqK, sIf, sRet, sRetN, sExpr, sSet, setVal, sAsg, gDone, sPar, sNext, itRng1, itRng2, itSeq, gSet, gTupD, gsCons, gsNil, canSet, slotD, seqD, Src.d, Src.ok, asRes, runF, env0, outOf, sizeLine, Res.map, gr]
  have dl := dlc_of (vs := [2, 3]) it rfl (by rw [List.length_map, sizeLine_is]; exact z) lc
  have b : backE [.imm (ni g), .imm (.tup (m.map rowT)), .un, .un] [.imm (ni g), .imm (.tup (m.map rowT)), .un, .un] [2, 3] = [.imm (ni g), .imm (.tup (m.map rowT)), .un, .un] := rfl
  rw [b] at dl
  have t : F_total [.lst (d.map fun p => nm (p.2 * hw g p.1))] = .ok (.imm (nm (dsum (hw g) d)), none) := t
  unfold F_purse_in b_purse_in
  generalize (d.map fun p => nm (p.2 * hw g p.1)) = L at *
  simp only [runF, env0, List.length_cons, List.length_nil, Nat.reduceAdd, Nat.reduceSub, List.map_cons, List.map_nil, List.replicate, List.cons_append, List.nil_append]
  rw [show (sRet (dCall F_total ⟨1, [], [.pos 0]⟩ (aCons (dLc [2, 3] (itItmF (dCall F_grouped ⟨2, [], [.pos 0, .pos 1]⟩ (aCons (dVar 0) (aCons (dVar 1) aNil)) aNil)) (gTupD 2 (gsCons (gSet 2) (gsCons (gSet 3) gsNil))) dYes (dCall F_product ⟨2, [], [.pos 0, .pos 1]⟩ (aCons (dVar 3) (aCons (dCall F_weight_in ⟨1, [], [.pos 0]⟩ (aCons (dVar 2) aNil) aNil) aNil)) aNil)) aNil) aNil)) [.imm (ni g), .imm (.tup (m.map rowT)), .un, .un] = .ok (.rt (.imm (nm (dsum (hw g) d))), [.imm (ni g), .imm (.tup (m.map rowT)), .un, .un]) by
    simp only [sRet, dCall, aCons, aNil, dl, Res.bind_ok, Val.d, List.length_cons, List.length_nil, List.map_cons, List.map_nil, Src.d, List.getElem?_cons_zero, Option.getD_some, t, asRes]
    rfl]
  rfl
end
end G


set_option maxRecDepth 100000
set_option maxHeartbeats 4000000
set_option exponentiation.threshold 30000
namespace G
open PySem PySem.Spec PyProof.Rows L2
/-! Rt14: even_purse, even_amounts. -/
section
variable {g E B n : Nat}
theorem row_of (F : Fits g E B n) {x : List Rat} (hE : E < 2 ^ 6000) (hB : B < 2 ^ 6000) (h : RowB g E B x) : Row g x := ⟨h.1, fun q hq => ⟨(h.2 q hq).1.sz hE hB, (h.2 q hq).2⟩⟩
theorem even_purse_ok (F : Fits g E B n) (hE : E < 2 ^ 6000) (hB : B < 2 ^ 6000) {m : List (List Rat)} (hl : m.length = n) (hm : ∀ x ∈ m, RowB g E B x) {d : Dt} (r : List Rat → Dt) (hr : ∀ x, Ls (r x) (x.map nm)) (hd : Ls d (m.map r)) :
    F_even_purse [ni g, d] = .ok (.imm (nm (vs g m (ev g))), none) := by
  have n1 : F_need_goods [ni g] = .ok (.imm .non, none) := need_goods_ok F.g0 F.g5
  have n2 : F_need_market [d, ni g, .str "market"] = .ok (.imm (.tup (m.map rowT)), none) := need_market_ok r hr hd (fun x hx => row_of F hE hB (hm x hx)) F.g5 (by have := F.n2; omega)
  have n3 := need_few_ok (g := g) (xs := m.map rowT) F.g0 F.g5 (by rw [List.length_map, hl]; have := F.n2; omega) (by rw [List.length_map, hl]; exact F.few)
  have p := purse_in_ok F hl hm
  have fs : (flatD (V.str "market")).getD Dt.non = .str "market" := rfl
  unfold F_even_purse b_even_purse
  have fs2 : (flatD (V.str "market")).isSome = true := rfl
  simp [dTest, dBin, dVar, dC, dMove, dUn, dIf, dTru, dAnd, dOr, dNot, tAndD, tOrD, tNotD, dTup, dLst, aCons, aNil, aStar, dCallB, dCall, dIxS, asB, asTru, truD, Val.d, sSeq, seqK, sIf, sRet, sRetN, sExpr, sSet, setVal, sAsg, gDone, sPar, sNext, itRng1, itRng2, itSeq, gSet, gTupD, gsCons, gsNil, canSet, slotD, seqD, Src.d, Src.ok, asRes, runF, env0, outOf, sizeLine, Res.map, n1, n2, n3, p, fs, fs2]
/-- the amount on a good -/
def amt (g : Nat) (m : List (List Rat)) (i : Nat) : Rat := vs g m fun w => ev g (w ++ [i])
theorem amt_is {g : Nat} (hg : 0 < g) {i : Nat} (hi : i < g) (m : List (List Rat)) : dsum (fun cs => hw g (bump cs i)) (grp g m (grp0 g)) = amt g m i := by
  rw [grp_sum]
  refine (vs_congr fun w _ hw' => ?_).symm
  rw [ev_hw hg (w ++ [i]) (fun j hj => by
    rcases List.mem_append.mp hj with h | h
    · exact hw' j h
    · rw [List.mem_singleton.mp h]; exact hi), counts_snoc hi]
end
end G


set_option maxRecDepth 100000
set_option maxHeartbeats 4000000
set_option exponentiation.threshold 30000
namespace G
open PySem PySem.Spec PyProof.Rows L2
/-! Rt15: what the law reckons behind a market. -/
theorem set_imm {env e : Env'} {i : Nat} {f : DE} {d : Dt} {s : Slot} (h : f env = .ok (.imm d, e)) (h1 : e[i]? = some s) (h2 : NoIo s) : sSet i f env = .ok (.nx, e.set i (.imm d)) := by
  unfold sSet
  rw [h, Res.bind_ok]
  unfold setVal
  dsimp only
  rw [if_pos (cs_of h1 h2)]
theorem set_fresh {env e : Env'} {i : Nat} {f : DE} {d : Dt} {s : Slot} (h : f env = .ok (.fresh d, e)) (h1 : e[i]? = some s) (h2 : NoIo s) : sSet i f env = .ok (.nx, e.set i (.own d)) := by
  unfold sSet
  rw [h, Res.bind_ok]
  unfold setVal
  dsimp only
  rw [if_pos (cs_of h1 h2)]
theorem sh_num {q : Rat} (h : Sz q) : Sh 25809 1 (nm q) := by
  have up : ∀ {x : Nat}, x < 2 ^ 6000 → x < 2 ^ 12900 := fun h => Nat.lt_of_lt_of_le h (Nat.pow_le_pow_right (by decide) (by decide))
  unfold nm
  split
  · exact (Sh.int (up h.1)).mono (by decide) (by decide)
  · refine (Sh.tup (k := 12901) (n := 0) (ds := [.int q.num, .int q.den]) fun d hd => ?_).mono (by simp) (by decide)
    rcases List.mem_cons.mp hd with rfl | hd
    · exact Sh.int (up h.1)
    · rw [List.mem_singleton.mp hd]
      exact Sh.int (by simpa using up h.2)
theorem sh_fr {q : Rat} (h : Sz q) : Sh 25809 1 (fr q) := by
  have up : ∀ {x : Nat}, x < 2 ^ 6000 → x < 2 ^ 12900 := fun h => Nat.lt_of_lt_of_le h (Nat.pow_le_pow_right (by decide) (by decide))
  refine (Sh.tup (k := 12901) (n := 0) (ds := [.int q.num, .int q.den]) fun d hd => ?_).mono (by simp) (by decide)
  rcases List.mem_cons.mp hd with rfl | hd
  · exact Sh.int (up h.1)
  · rw [List.mem_singleton.mp hd]
    exact Sh.int (by simpa using up h.2)
/-- sizes of the law's own sums -/
structure FitL (g E B n : Nat) : Prop where
  f0 : Fits g E B n
  f1 : Fits g E B (n + 1)
  w1 : g ^ n ≤ 2 ^ 20
  den : E ^ n * fac (g + n) * E < 2 ^ 6000
  num : 5 * (g ^ n * (B ^ n * fac (g + n)) * B) < 2 ^ 6000
  Bp : ∀ k, k ≤ n → B ^ k < 2 ^ 6000
section
variable {g E B n : Nat}
theorem FitL.E6 (F : FitL g E B n) : E < 2 ^ 6000 := Nat.lt_of_le_of_lt (Nat.le_mul_of_pos_left _ (Nat.mul_pos (Nat.pow_pos F.f0.E0) (fac_pos _))) F.den
theorem FitL.T0 (F : FitL g E B n) : 0 < g ^ n * (B ^ n * fac (g + n)) := Nat.mul_pos (Nat.pow_pos F.f0.g0) (Nat.mul_pos (Nat.pow_pos F.f0.B0) (fac_pos _))
theorem FitL.B6 (F : FitL g E B n) : B < 2 ^ 6000 := by
  have h := F.num
  have := Nat.le_mul_of_pos_left B F.T0
  omega
theorem FitL.T5 (F : FitL g E B n) : 5 * (g ^ n * (B ^ n * fac (g + n))) < 2 ^ 6000 := by
  have h := F.num
  have := Nat.le_mul_of_pos_right (g ^ n * (B ^ n * fac (g + n))) F.f0.B0
  omega
theorem FitL.D (F : FitL g E B n) : E ^ n * fac (g + n) < 2 ^ 6000 := F.f0.den2
theorem FitL.Ek (F : FitL g E B n) {k : Nat} (h : k ≤ n) : E ^ k < 2 ^ 6000 := Nat.lt_of_le_of_lt (Nat.pow_le_pow_right F.f0.E0 h) F.f0.den
/-- a word's term -/
theorem term_bz (F : FitL g E B n) {m : List (List Rat)} (hl : m.length = n) (hm : ∀ x ∈ m, RowB g E B x) {w v : List Nat} (hw : w.length = n) (hi : ∀ i ∈ w, i < g) (hv : ∀ i ∈ v, i < g) (hvl : v.length ≤ n + 1) : Bz (E ^ n * fac (g + n)) (B ^ n * fac (g + n)) (wt m w * ev g v) := by
  have h1 := wt_bz F.f0.E0 (by rw [hl, hw]) hm hi
  rw [hl] at h1
  have h2 := hw_sz F.f0 (counts_len g v) (counts_sum v hv) hvl
  rw [← ev_hw F.f0.g0 v hv] at h2
  exact h1.mul h2
theorem vs_bz (F : FitL g E B n) {m : List (List Rat)} (hl : m.length = n) (hm : ∀ x ∈ m, RowB g E B x) (f : List Nat → List Nat) (hf : ∀ w, w.length = n → (∀ i ∈ w, i < g) → (∀ i ∈ f w, i < g) ∧ (f w).length ≤ n + 1) : Bz (E ^ n * fac (g + n)) (g ^ n * (B ^ n * fac (g + n))) (vs g m fun w => ev g (f w)) := by
  have h := rsum_bz (D := E ^ n * fac (g + n)) (N := B ^ n * fac (g + n)) (Nat.mul_pos (Nat.pow_pos F.f0.E0) (fac_pos _)) (xs := (wordsN g m.length).map fun w => wt m w * ev g (f w)) (fun q hq => by
    obtain ⟨w, hw, rfl⟩ := List.mem_map.mp hq
    rw [hl] at hw
    obtain ⟨a, b⟩ := wordsN_mem hw
    exact term_bz F hl hm a b (hf w a b).1 (hf w a b).2)
  rw [List.length_map, wordsN_len, hl] at h
  unfold vs
  rw [hl]
  exact h
theorem purse_bz (F : FitL g E B n) {m : List (List Rat)} (hl : m.length = n) (hm : ∀ x ∈ m, RowB g E B x) : Bz (E ^ n * fac (g + n)) (g ^ n * (B ^ n * fac (g + n))) (vs g m (ev g)) := vs_bz F hl hm (fun w => w) fun w a b => ⟨b, by omega⟩
theorem amt_bz (F : FitL g E B n) {m : List (List Rat)} (hl : m.length = n) (hm : ∀ x ∈ m, RowB g E B x) {i : Nat} (hi : i < g) : Bz (E ^ n * fac (g + n)) (g ^ n * (B ^ n * fac (g + n))) (amt g m i) := vs_bz F hl hm (fun w => w ++ [i]) fun w a b => ⟨fun j hj => by
  rcases List.mem_append.mp hj with h | h
  · exact b j h
  · rw [List.mem_singleton.mp h]; exact hi, by rw [List.length_append, a]; exact Nat.le_refl _⟩
theorem bz_szL (F : FitL g E B n) {q : Rat} (h : Bz (E ^ n * fac (g + n)) (g ^ n * (B ^ n * fac (g + n))) q) : Sz q := h.sz F.D (by have := F.T5; omega)
end
end G


set_option maxRecDepth 100000
set_option maxHeartbeats 4000000
set_option exponentiation.threshold 30000
namespace G
open PySem PySem.Spec PyProof.Rows L2
/-! Rt16a: sums over words. -/
section
variable {g E B n : Nat} {m : List (List Rat)}
theorem lw_ok (F : FitL g E B n) (hl : m.length = n) (hm : ∀ x ∈ m, RowB g E B x) {w : List Nat} (hw : w.length = n) (hi : ∀ i ∈ w, i < g) : F__law_weight [.lst (m.map rowF), wD w] = .ok (.imm (fr (wt m w)), none) :=
  lweight_ok F.f0.E0 (by rw [hl, hw]) hm hi (fun k hk => F.Ek (by omega)) (fun k hk => F.Bp k (by omega)) F.E6 F.B6
theorem lt_ok (F : FitL g E B n) (hl : m.length = n) (hm : ∀ x ∈ m, RowB g E B x) {w v : List Nat} (hw : w.length = n) (hi : ∀ i ∈ w, i < g) (hv : ∀ i ∈ v, i < g) (hvl : v.length ≤ n + 1) : F__law_times [fr (wt m w), fr (ev g v)] = .ok (.imm (fr (wt m w * ev g v)), none) := by
  have h1 := wt_bz F.f0.E0 (by rw [hl, hw]) hm hi
  rw [hl] at h1
  have h2 := hw_sz F.f0 (counts_len g v) (counts_sum v hv) hvl
  rw [← ev_hw F.f0.g0 v hv] at h2
  exact times_ok (h1.sz (F.Ek (Nat.le_refl _)) (F.Bp n (Nat.le_refl _))) (h2.sz (fac_small F.f0) (fac_small F.f0))
theorem sumW (F : FitL g E B n) (hl : m.length = n) (hm : ∀ x ∈ m, RowB g E B x) (f : List Nat → List Nat) (hf : ∀ w, w.length = n → (∀ i ∈ w, i < g) → (∀ i ∈ f w, i < g) ∧ (f w).length ≤ n + 1) :
    F__law_sum [.lst ((wordsN g n).map fun w => fr (wt m w * ev g (f w)))] = .ok (.imm (fr (vs g m fun w => ev g (f w))), none) := by
  have s := sum_ok (D := E ^ n * fac (g + n)) (N := B ^ n * fac (g + n)) (qs := (wordsN g n).map fun w => wt m w * ev g (f w)) (Nat.mul_pos (Nat.pow_pos F.f0.E0) (fac_pos _)) F.D (fun q hq => by
    obtain ⟨w, hw, rfl⟩ := List.mem_map.mp hq
    obtain ⟨a, b⟩ := wordsN_mem hw
    exact term_bz F hl hm a b (hf w a b).1 (hf w a b).2) (by
    rw [List.length_map, wordsN_len]
    have := F.T5
    omega)
  rw [List.map_map] at s
  unfold vs
  rw [hl]
  exact s
theorem add1 {w : List Nat} {i : Nat} (h : w.length ≤ 1000) : opAdd (wD w) (.tup [ni i]) = .ok (.imm (wD (w ++ [i]))) := by
  show (if (w.map ni).length + 1 ≤ sizeLine then Res.ok (Val.imm (.tup (w.map ni ++ [ni i]))) else .bad) = _
  rw [if_pos (by rw [List.length_map, sizeLine_is]; omega)]
  unfold wD
  rw [List.map_append]
  rfl
theorem wlen (F : FitL g E B n) : ((wordsN g n).map wD).length ≤ sizeLine := by
  rw [List.length_map, wordsN_len, sizeLine_is]
  have := F.w1
  omega
end
end G


set_option maxRecDepth 100000
set_option exponentiation.threshold 30000
namespace G
/-! Rm1: rationals of so many bits; no mix beats the even purse times the factor. -/
def Bt (k : Nat) (q : Rat) : Prop := q.num.natAbs ≤ 2 ^ k ∧ q.den ≤ 2 ^ k
theorem Bz.bt {D N k : Nat} {q : Rat} (h : Bz D N q) (h1 : D ≤ 2 ^ k) (h2 : N ≤ 2 ^ k) : Bt k q := ⟨Nat.le_trans h.num h2, Nat.le_trans h.den h1⟩
theorem Bt.mono {a b : Nat} {q : Rat} (h : Bt a q) (hl : a ≤ b) : Bt b q := ⟨Nat.le_trans h.1 (Nat.pow_le_pow_right (by decide) hl), Nat.le_trans h.2 (Nat.pow_le_pow_right (by decide) hl)⟩
theorem Bt.mul {a b : Nat} {p q : Rat} (h : Bt a p) (k : Bt b q) : Bt (a + b) (p * q) := by
  refine ((Bz.self p).mul (Bz.self q)).bt ?_ ?_
  · rw [Nat.pow_add]; exact Nat.mul_le_mul h.2 k.2
  · rw [Nat.pow_add]; exact Nat.mul_le_mul h.1 k.1
theorem Bt.add {a b : Nat} {p q : Rat} (h : Bt a p) (k : Bt b q) : Bt (a + b + 1) (p + q) := by
  have h1 := (Bz.self p).wide q.den_pos
  have h2 := (Bz.self q).wide p.den_pos
  rw [Nat.mul_comm q.den] at h2
  have e1 : p.den * q.den ≤ 2 ^ (a + b) := by rw [Nat.pow_add]; exact Nat.mul_le_mul h.2 k.2
  have e2 : p.num.natAbs * q.den ≤ 2 ^ (a + b) := by rw [Nat.pow_add]; exact Nat.mul_le_mul h.1 k.2
  have e3 : q.num.natAbs * p.den ≤ 2 ^ (a + b) := by rw [Nat.pow_add, Nat.mul_comm]; exact Nat.mul_le_mul h.2 k.1
  have e4 : (2 : Nat) ^ (a + b + 1) = 2 ^ (a + b) + 2 ^ (a + b) := by rw [Nat.pow_succ, Nat.mul_two]
  exact (h1.add h2).bt (by omega) (by omega)
theorem Bt.neg {a : Nat} {p : Rat} (h : Bt a p) : Bt a (-p) := ⟨by rw [Rat.neg_num, Int.natAbs_neg]; exact h.1, h.2⟩
theorem bt_zero (k : Nat) : Bt k 0 := ⟨Nat.zero_le _, Nat.one_le_two_pow⟩
theorem bt_one (k : Nat) : Bt k 1 := ⟨Nat.one_le_two_pow, Nat.one_le_two_pow⟩
theorem rsum_bt {k : Nat} : ∀ {xs : List Rat}, (∀ x ∈ xs, Bt k x) → Bt (xs.length * (k + 1)) (rsum xs)
  | [], _ => bt_zero _
  | x :: xs, h => ((h x List.mem_cons_self).add (rsum_bt fun y hy => h y (List.mem_cons_of_mem _ hy))).mono (by rw [List.length_cons, Nat.succ_mul]; omega)
def rprod : List Rat → Rat
  | [] => 1
  | x :: xs => x * rprod xs
theorem rprod_append : ∀ xs ys, rprod (xs ++ ys) = rprod xs * rprod ys
  | [], ys => by simp only [List.nil_append, rprod]; grind
  | x :: xs, ys => by simp only [List.cons_append, rprod, rprod_append xs ys]; grind
theorem rprod_bt {k : Nat} : ∀ {xs : List Rat}, (∀ x ∈ xs, Bt k x) → Bt (xs.length * k) (rprod xs)
  | [], _ => bt_one _
  | x :: xs, h => ((h x List.mem_cons_self).mul (rprod_bt fun y hy => h y (List.mem_cons_of_mem _ hy))).mono (by rw [List.length_cons, Nat.succ_mul]; omega)
theorem rprod_nonneg : ∀ {xs : List Rat}, (∀ x ∈ xs, 0 ≤ x) → 0 ≤ rprod xs
  | [], _ => by decide
  | x :: xs, h => Rat.mul_nonneg (h x List.mem_cons_self) (rprod_nonneg fun y hy => h y (List.mem_cons_of_mem _ hy))
/-! powers over factorials -/
def bq : List Rat → List Nat → Rat
  | s :: ss, c :: cs => s ^ c / (fac c : Rat) * bq ss cs
  | _, _ => 1
def pwr : List Rat → List Nat → Rat
  | s :: ss, c :: cs => s ^ c * pwr ss cs
  | _, _ => 1
theorem bq_pwr : ∀ (s : List Rat) (c : List Nat), s.length = c.length → pwr s c = bq s c * (pfac c : Rat)
  | [], [], _ => by
    show (1 : Rat) = 1 * ((1 : Nat) : Rat)
    rw [Rat.one_mul]
    rfl
  | s :: ss, c :: cs, h => by
    have ih := bq_pwr ss cs (by simpa using h)
    have e := ratD (fac_pos c)
    show s ^ c * pwr ss cs = s ^ c / (fac c : Rat) * bq ss cs * ((fac c * pfac cs : Nat) : Rat)
    rw [ih, Rat.natCast_mul]
    generalize s ^ c = A at *
    generalize (fac c : Rat) = B at *
    generalize (pfac cs : Rat) = C at *
    grind
  | [], _ :: _, h => by cases h
  | _ :: _, [], h => by cases h
theorem bq_nonneg : ∀ {s : List Rat} {c : List Nat}, (∀ x ∈ s, 0 ≤ x) → 0 ≤ bq s c
  | s :: ss, c :: cs, h => by
    have h1 : 0 ≤ s ^ c := Rat.pow_nonneg (h s List.mem_cons_self)
    have h2 : (0 : Rat) < (fac c : Rat) := by exact_mod_cast fac_pos c
    have h3 : 0 ≤ (fac c : Rat)⁻¹ := Rat.le_of_lt (Rat.inv_pos.mpr h2)
    show 0 ≤ s ^ c / (fac c : Rat) * bq ss cs
    rw [Rat.div_def]
    exact Rat.mul_nonneg (Rat.mul_nonneg h1 h3) (bq_nonneg fun y hy => h y (List.mem_cons_of_mem _ hy))
  | [], [], _ => by show (0 : Rat) ≤ 1; decide
  | [], _ :: _, _ => by show (0 : Rat) ≤ 1; decide
  | _ :: _, [], _ => by show (0 : Rat) ≤ 1; decide
/-- one letter taken away -/
def lesser (s : List Rat) (c : List Nat) (i : Nat) : Rat := if c.getD i 0 = 0 then 0 else s.getD i 0 * bq s (c.set i (c.getD i 0 - 1))
theorem bq_step : ∀ (s : List Rat) (c : List Nat), s.length = c.length → (c.sum : Rat) * bq s c = rsum ((List.range c.length).map (lesser s c))
  | [], [], _ => by
    show ((0 : Nat) : Rat) * 1 = 0
    rw [Rat.mul_one]
    rfl
  | s :: ss, c :: cs, h => by
    have ih := bq_step ss cs (by simpa using h)
    rw [List.length_cons, List.range_succ_eq_map, List.map_cons, List.map_map]
    have e1 : lesser (s :: ss) (c :: cs) 0 = (c : Rat) * (s ^ c / (fac c : Rat)) * bq ss cs := by
      unfold lesser
      show (if c = 0 then 0 else s * bq (s :: ss) ((c - 1) :: cs)) = _
      cases c with
      | zero =>
        rw [if_pos rfl]
        show (0 : Rat) = ((0 : Nat) : Rat) * _ * _
        have : ((0 : Nat) : Rat) = 0 := rfl
        rw [this]
        grind
      | succ c =>
        rw [if_neg (by omega)]
        show s * (s ^ c / (fac c : Rat) * bq ss cs) = ((c + 1 : Nat) : Rat) * (s ^ (c + 1) / (((c + 1) * fac c : Nat) : Rat)) * bq ss cs
        rw [Rat.natCast_mul, Rat.pow_succ]
        have e := ratD (fac_pos c)
        have e' := ratD (show 0 < c + 1 by omega)
        generalize s ^ c = A at *
        generalize (fac c : Rat) = B at *
        generalize ((c + 1 : Nat) : Rat) = C at *
        grind
    have e2 : ((lesser (s :: ss) (c :: cs)) ∘ Nat.succ) = fun i => (s ^ c / (fac c : Rat)) * lesser ss cs i := by
      funext i
      show (if cs.getD i 0 = 0 then 0 else ss.getD i 0 * (s ^ c / (fac c : Rat) * bq ss (cs.set i (cs.getD i 0 - 1)))) = _ * (if cs.getD i 0 = 0 then 0 else ss.getD i 0 * bq ss (cs.set i (cs.getD i 0 - 1)))
      split
      · grind
      · grind
    rw [e2]
    show ((c :: cs).sum : Rat) * (s ^ c / (fac c : Rat) * bq ss cs) = lesser (s :: ss) (c :: cs) 0 + rsum _
    rw [rsum_map_mul, ← ih, e1, List.sum_cons, Rat.natCast_add]
    grind
  | [], _ :: _, h => by cases h
  | _ :: _, [], h => by cases h
theorem sum_dec : ∀ (c : List Nat) (i : Nat), c.getD i 0 ≠ 0 → (c.set i (c.getD i 0 - 1)).sum + 1 = c.sum
  | [], i, h => by simp at h
  | c :: cs, 0, h => by
    simp only [List.getD_cons_zero] at h
    simp
    omega
  | c :: cs, i + 1, h => by
    have := sum_dec cs i (by simpa using h)
    simp only [List.set_cons_succ, List.sum_cons, List.getD_cons_succ] at this ⊢
    omega
theorem rsum_getD : ∀ (s : List Rat), rsum ((List.range s.length).map fun i => s.getD i 0) = rsum s
  | [] => rfl
  | x :: s => by
    rw [List.length_cons, List.range_succ_eq_map, List.map_cons, List.map_map]
    show x + rsum _ = x + rsum s
    rw [← rsum_getD s]
    rfl
/-- the multinomial theorem's one term -/
theorem bq_le {s : List Rat} (h0 : ∀ x ∈ s, 0 ≤ x) (h1 : rsum s = 1) : ∀ (n : Nat) (c : List Nat), c.length = s.length → c.sum = n → (fac n : Rat) * bq s c ≤ 1
  | 0, c, hl, hs => by
    have z : ∀ (s : List Rat) (c : List Nat), c.sum = 0 → bq s c = 1 := by
      intro s c
      induction c generalizing s with
      | nil => intro _; cases s <;> rfl
      | cons a c ih =>
        intro h
        rw [List.sum_cons] at h
        cases s with
        | nil => rfl
        | cons x s =>
          have ha : a = 0 := by omega
          subst ha
          show x ^ 0 / (((1 : Nat) : Nat) : Rat) * bq s c = 1
          rw [ih s (by omega), Rat.pow_zero]
          have : ((1 : Nat) : Rat) = 1 := rfl
          rw [this]
          grind
    rw [z s c hs]
    show ((1 : Nat) : Rat) * 1 ≤ 1
    rw [Rat.mul_one]
    exact Rat.le_refl
  | n + 1, c, hl, hs => by
    have st := bq_step s c hl.symm
    have fp : (0 : Rat) < (fac n : Rat) := by exact_mod_cast fac_pos n
    have key : (fac n : Rat) * rsum ((List.range c.length).map (lesser s c)) ≤ 1 := by
      rw [← rsum_map_mul]
      have le : rsum ((List.range c.length).map fun i => (fac n : Rat) * lesser s c i) ≤ rsum ((List.range c.length).map fun i => s.getD i 0) := by
        refine rsum_le fun i hi => ?_
        have hi := List.mem_range.mp hi
        have hsi : 0 ≤ s.getD i 0 := by
          rw [List.getD_eq_getElem?_getD, List.getElem?_eq_getElem (by omega)]
          exact h0 _ (List.getElem_mem _)
        unfold lesser
        split
        · rw [Rat.mul_zero]
          exact hsi
        · rename_i hne
          have ih := bq_le h0 h1 n (c.set i (c.getD i 0 - 1)) (by rw [List.length_set]; exact hl) (by have := sum_dec c i hne; omega)
          have := Rat.mul_le_mul_of_nonneg_left ih hsi
          rw [Rat.mul_one] at this
          grind
      rw [hl, rsum_getD, h1] at le
      rw [hl]
      exact le
    rw [← st, hs] at key
    show (((n + 1) * fac n : Nat) : Rat) * bq s c ≤ 1
    rw [Rat.natCast_mul]
    grind
/-! a mix's share of a word -/
def sp (s : List Rat) (w : List Nat) : Rat := rprod (w.map fun i => s.getD i 0)
theorem sp_snoc (s : List Rat) (w : List Nat) (i : Nat) : sp s (w ++ [i]) = sp s w * s.getD i 0 := by
  unfold sp
  rw [List.map_append, rprod_append]
  show _ * (s.getD i 0 * 1) = _
  grind
theorem pwr_bump : ∀ (s : List Rat) (c : List Nat) (i : Nat), s.length = c.length → i < c.length → pwr s (c.set i (c.getD i 0 + 1)) = pwr s c * s.getD i 0
  | s :: ss, c :: cs, 0, _, _ => by
    show s ^ (c + 1) * pwr ss cs = s ^ c * pwr ss cs * s
    rw [Rat.pow_succ]
    grind
  | s :: ss, c :: cs, i + 1, h, hi => by
    have ih := pwr_bump ss cs i (by simpa using h) (by simpa using hi)
    show s ^ c * pwr ss (cs.set i (cs.getD i 0 + 1)) = s ^ c * pwr ss cs * ss.getD i 0
    rw [ih]
    grind
  | [], [], _, _, hi => by simp at hi
  | [], _ :: _, _, h, _ => by cases h
  | _ :: _, [], _, h, _ => by cases h
theorem pwr_zero : ∀ (s : List Rat) (g : Nat), pwr s (List.replicate g 0) = 1
  | [], 0 => rfl
  | [], g + 1 => rfl
  | s :: ss, 0 => rfl
  | s :: ss, g + 1 => by
    show s ^ 0 * pwr ss (List.replicate g 0) = 1
    rw [pwr_zero ss g, Rat.pow_zero, Rat.mul_one]
theorem sp_pwr {g : Nat} {s : List Rat} (hs : s.length = g) : ∀ w : List Nat, (∀ i ∈ w, i < g) → sp s w = pwr s (counts g w) := by
  intro w
  revert w
  refine revI ?_ ?_
  · intro _
    rw [counts_nil, pwr_zero]
    rfl
  · intro w i ih h
    have hi := h i (by simp)
    rw [sp_snoc, ih fun j hj => h j (by simp [hj]), counts_snoc hi, bump_set (by rw [counts_len]; exact hi), pwr_bump s _ i (by rw [counts_len, hs]) (by rw [counts_len]; exact hi)]
/-- the factor times an even weight -/
def fct (g n : Nat) : Nat := ch (n + g - 1) (g - 1)
theorem fct_hw {g n : Nat} (hg : 0 < g) {cs : List Nat} (hs : cs.sum = n) : (fct g n : Rat) * hw g cs = (pfac cs : Rat) / (fac n : Rat) := by
  have M := Mw_fac cs (g - 1)
  have C := fac_ch n (g - 1)
  rw [hs] at M
  have e0 : n + (g - 1) = n + g - 1 := by omega
  rw [e0] at C
  have e1 : g - 1 + n = n + g - 1 := by omega
  rw [e1, ← C] at M
  have key : pfac cs * Mw (g - 1) cs = fac n * ch (n + g - 1) (g - 1) := by
    have hp := fac_pos (g - 1)
    apply Nat.eq_of_mul_eq_mul_left hp
    grind
  unfold fct hw
  have k2 : (pfac cs : Rat) * (Mw (g - 1) cs : Rat) = (fac n : Rat) * (ch (n + g - 1) (g - 1) : Rat) := by
    rw [← Rat.natCast_mul, ← Rat.natCast_mul, key]
  have n1 := ratD (Mw_pos cs (g - 1))
  have n2 := ratD (fac_pos n)
  generalize (pfac cs : Rat) = A at *
  generalize (Mw (g - 1) cs : Rat) = B at *
  generalize (fac n : Rat) = C at *
  generalize (ch (n + g - 1) (g - 1) : Rat) = D at *
  grind
theorem sp_le {g : Nat} (hg : 0 < g) {s : List Rat} (hs : s.length = g) (h0 : ∀ x ∈ s, 0 ≤ x) (h1 : rsum s = 1) {w : List Nat} (hw' : ∀ i ∈ w, i < g) : sp s w ≤ (fct g w.length : Rat) * ev g w := by
  rw [ev_hw hg w hw', fct_hw hg (counts_sum w hw'), sp_pwr hs w hw', bq_pwr s _ (by rw [hs, counts_len])]
  have b := bq_le h0 h1 w.length (counts g w) (by rw [counts_len, hs]) (counts_sum w hw')
  have p1 : (0 : Rat) < (fac w.length : Rat) := by exact_mod_cast fac_pos _
  have p2 : (0 : Rat) < (pfac (counts g w) : Rat) := by exact_mod_cast pfac_pos _
  have b2 := Rat.mul_le_mul_of_nonneg_left b (Rat.le_of_lt p2)
  rw [Rat.mul_one] at b2
  apply Rat.le_of_mul_le_mul_left (c := (fac w.length : Rat)) _ p1
  have e : (fac w.length : Rat) * ((pfac (counts g w) : Rat) / (fac w.length : Rat)) = (pfac (counts g w) : Rat) := by
    have : (fac w.length : Rat) ≠ 0 := ratD (fac_pos _)
    grind
  rw [e]
  grind
/-- what a mix is worth -/
def paid (s d : List Rat) : Rat := rsum ((List.range s.length).map fun i => s.getD i 0 * d.getD i 0)
def worth (s : List Rat) (m : List (List Rat)) : Rat := rprod (m.map (paid s))
theorem worth_vs {g : Nat} {s : List Rat} (hs : s.length = g) : ∀ m : List (List Rat), worth s m = vs g m (sp s) := by
  refine revI ?_ ?_
  · rw [vs_nil]
    rfl
  · intro m d ih
    rw [vs_snoc]
    unfold worth at ih ⊢
    rw [List.map_append, rprod_append, ih]
    show vs g m (sp s) * (paid s d * 1) = _
    have e : (fun w => rsum ((List.range g).map fun i => d.getD i 0 * sp s (w ++ [i]))) = fun w => paid s d * sp s w := by
      funext w
      unfold paid
      rw [hs, Rat.mul_comm, ← rsum_map_mul]
      refine rsum_congr fun i _ => ?_
      rw [sp_snoc]
      grind
    rw [e]
    unfold vs
    have e2 : rsum ((wordsN g m.length).map fun w => wt m w * (paid s d * sp s w)) = paid s d * rsum ((wordsN g m.length).map fun w => wt m w * sp s w) := by
      rw [← rsum_map_mul]
      exact rsum_congr fun w _ => by grind
    rw [e2, Rat.mul_one, Rat.mul_comm]
theorem wt_nonneg : ∀ {m : List (List Rat)} {w : List Nat}, (∀ d ∈ m, ∀ q ∈ d, 0 ≤ q) → 0 ≤ wt m w
  | [], [], _ => by show (0 : Rat) ≤ 1; decide
  | [], _ :: _, _ => by show (0 : Rat) ≤ 1; decide
  | _ :: _, [], _ => by show (0 : Rat) ≤ 1; decide
  | d :: m, i :: w, h => by
    have h1 : 0 ≤ d.getD i 0 := by
      rw [List.getD_eq_getElem?_getD]
      cases e : d[i]? with
      | none => exact Rat.le_refl
      | some q => exact h d List.mem_cons_self q (List.mem_of_getElem? e)
    exact Rat.mul_nonneg h1 (wt_nonneg fun x hx => h x (List.mem_cons_of_mem _ hx))
theorem spare_nonneg {g : Nat} (hg : 0 < g) {s : List Rat} (hs : s.length = g) (h0 : ∀ x ∈ s, 0 ≤ x) (h1 : rsum s = 1) {m : List (List Rat)} (hm : ∀ d ∈ m, ∀ q ∈ d, 0 ≤ q) : worth s m ≤ vs g m (ev g) * (fct g m.length : Rat) := by
  rw [worth_vs hs, Rat.mul_comm]
  unfold vs
  rw [← rsum_map_mul]
  refine rsum_le fun w hw => ?_
  obtain ⟨a, b⟩ := wordsN_mem hw
  have := Rat.mul_le_mul_of_nonneg_left (sp_le hg hs h0 h1 b) (wt_nonneg (m := m) (w := w) hm)
  rw [a] at this
  grind
/-! one good alone -/
def lone (g i : Nat) (q : Rat) : List Rat := (List.range g).map fun j => if j = i then q else 0
theorem lone_get {g i j : Nat} {q : Rat} (h : j < g) : (lone g i q).getD j 0 = if j = i then q else 0 := by
  unfold lone
  rw [List.getD_eq_getElem?_getD, List.getElem?_map, List.getElem?_range h]
  rfl
theorem vs_lone {g i : Nat} (hi : i < g) : ∀ (qs : List Rat) (h : List Nat → Rat), vs g (qs.map (lone g i)) h = rprod qs * h (List.replicate qs.length i) := by
  refine revI ?_ ?_
  · intro h
    rw [List.map_nil, vs_nil]
    show _ = 1 * h []
    rw [Rat.one_mul]
  · intro qs q ih h
    rw [List.map_append, List.map_cons, List.map_nil, vs_snoc]
    have e : (fun w => rsum ((List.range g).map fun j => (lone g i q).getD j 0 * h (w ++ [j]))) = fun w => q * h (w ++ [i]) := by
      funext w
      rw [rsum_one (a := i) List.nodup_range (List.mem_range.mpr hi) fun j hj ne => ?_]
      · rw [lone_get hi, if_pos rfl]
      · rw [lone_get (List.mem_range.mp hj), if_neg ne]
        grind
    rw [e, ih, rprod_append, List.length_append, List.length_singleton, List.replicate_succ']
    show rprod qs * (q * _) = rprod qs * (q * 1) * _
    grind
theorem pfac_rep {g i : Nat} (hi : i < g) : ∀ n, pfac (counts g (List.replicate n i)) = fac n
  | 0 => by
    show pfac (counts g []) = 1
    rw [counts_nil]
    have : ∀ g, pfac (List.replicate g 0) = 1 := fun g => by
      induction g with
      | zero => rfl
      | succ g ih =>
        show 1 * pfac (List.replicate g 0) = 1
        rw [ih]
    exact this g
  | n + 1 => by
    rw [List.replicate_succ', counts_snoc hi, bump_pfac (by rw [counts_len]; exact hi), counts_get hi, List.count_replicate_self, pfac_rep hi n]
    rfl
theorem lone_spare {g i : Nat} (hi : i < g) (qs : List Rat) : vs g (qs.map (lone g i)) (ev g) * (fct g qs.length : Rat) = worth (lone g i 1) (qs.map (lone g i)) := by
  have hg : 0 < g := by omega
  have hl : (lone g i 1).length = g := by unfold lone; rw [List.length_map, List.length_range]
  have hr : ∀ j ∈ List.replicate qs.length i, j < g := fun j hj => by rw [(List.mem_replicate.mp hj).2]; exact hi
  rw [worth_vs hl, vs_lone hi, vs_lone hi, ev_hw hg _ hr]
  have e := fct_hw (n := qs.length) hg (cs := counts g (List.replicate qs.length i)) (by rw [counts_sum _ hr, List.length_replicate])
  rw [pfac_rep hi] at e
  have n1 := ratD (fac_pos qs.length)
  have e2 : sp (lone g i 1) (List.replicate qs.length i) = 1 := by
    unfold sp
    rw [List.map_replicate, lone_get hi, if_pos rfl]
    have : ∀ n, rprod (List.replicate n 1) = 1 := fun n => by
      induction n with
      | zero => rfl
      | succ n ih =>
        show 1 * rprod (List.replicate n 1) = 1
        rw [ih, Rat.one_mul]
    exact this _
  rw [e2]
  have e3 : (fct g qs.length : Rat) * hw g (counts g (List.replicate qs.length i)) = 1 := by
    rw [e]
    grind
  grind
end G


set_option maxRecDepth 100000
set_option maxHeartbeats 4000000
set_option exponentiation.threshold 30000
namespace G
open PySem PySem.Spec PyProof.Rows L2
/-! Rs1: mixes, spares: the program's side. -/
theorem Bt.sz {k : Nat} {q : Rat} (h : Bt k q) (hk : k < 6000) : Sz q := ⟨Nat.lt_of_le_of_lt h.1 (Nat.pow_lt_pow_right (by decide) hk), Nat.lt_of_le_of_lt h.2 (Nat.pow_lt_pow_right (by decide) hk)⟩
theorem rsum_take {qs : List Rat} {i : Nat} (h : i < qs.length) : rsum (qs.take (i + 1)) = rsum (qs.take i) + qs[i] := by
  rw [List.take_succ_eq_append_getElem h, rsum_append]
  show _ + (qs[i] + 0) = _
  grind
theorem rprod_take {qs : List Rat} {i : Nat} (h : i < qs.length) : rprod (qs.take (i + 1)) = rprod (qs.take i) * qs[i] := by
  rw [List.take_succ_eq_append_getElem h, rprod_append]
  show _ * (qs[i] * 1) = _
  grind
theorem total_gen {qs : List Rat} (h1 : ∀ q ∈ qs, Sz q) (h2 : ∀ k, k ≤ qs.length → Sz (rsum (qs.take k))) : F_total [.lst (qs.map nm)] = .ok (.imm (nm (rsum qs)), none) := by
  obtain ⟨e', l, z, hz, he⟩ := loop_inv (g := gSet 2) (f := totB) (fun k e => ∃ z : Slot, NoIo z ∧ e = [.imm (.lst (qs.map nm)), .imm (nm (rsum (qs.take k))), z])
    (qs.map nm) (k := 0) (env := [.imm (.lst (qs.map nm)), .imm (nm 0), .un]) ⟨.un, noio_un, rfl⟩ fun i hi e ⟨z, hz, he⟩ => by
      subst he
      rw [List.length_map] at hi
      rw [Nat.zero_add]
      have p := added_ok (h2 i (by omega)) (h1 qs[i] (List.getElem_mem hi))
      rw [← rsum_take hi] at p
      refine ⟨_, _, by rw [List.getElem_map]; exact gset_ok (s := z) rfl hz, ?_, .imm (nm qs[i]), noio_imm _, rfl⟩
      unfold totB
      generalize nm (rsum (qs.take i)) = A1 at *
      generalize nm (rsum (qs.take (i + 1))) = A2 at *
      generalize nm qs[i] = A3 at *
      simp [dTest, dBin, dVar, dC, dMove, dUn, dIf, dTru, dAnd, dOr, dNot, tAndD, tOrD, tNotD, dTup, dLst, aCons, aNil, aStar, dCallB, dCall, dIxS, asB, asTru, truD, Val.d, sSeq, seqK, sIf, sRet, sRetN, sExpr, sSet, setVal, sAsg, gDone, sPar, sNext, itRng1, itRng2, itSeq, gSet, gTupD, gsCons, gsNil, canSet, slotD, seqD, Src.d, Src.ok, asRes, runF, env0, outOf, sizeLine, Res.map, p]
  rw [he, Nat.zero_add, List.length_map, List.take_length] at l
  have e1 : nm 0 = .int 0 := rfl
  rw [e1] at l
  unfold totB at l
  unfold F_total b_total
  simp [dTest, dBin, dVar, dC, dMove, dUn, dIf, dTru, dAnd, dOr, dNot, tAndD, tOrD, tNotD, dTup, dLst, aCons, aNil, aStar, dCallB, dCall, dIxS, asB, asTru, truD, Val.d, sSeq, seqK, sIf, sRet, sRetN, sExpr, sSet, setVal, sAsg, gDone, sPar, sNext, itRng1, itRng2, itSeq, gSet, gTupD, gsCons, gsNil, canSet, slotD, seqD, Src.d, Src.ok, asRes, runF, env0, outOf, sizeLine, Res.map, sFor, l]
theorem sum_gen {qs : List Rat} (h1 : ∀ q ∈ qs, Sz q) (h2 : ∀ k, k ≤ qs.length → Sz (rsum (qs.take k))) : F__law_sum [.lst (qs.map fr)] = .ok (.imm (fr (rsum qs)), none) := by
  obtain ⟨e', l, z, hz, he⟩ := loop_inv (g := gSet 2) (f := sumB) (fun k e => ∃ z : Slot, NoIo z ∧ e = [.imm (.lst (qs.map fr)), .imm (fr (rsum (qs.take k))), z])
    (qs.map fr) (k := 0) (env := [.imm (.lst (qs.map fr)), .imm (fr 0), .un]) ⟨.un, noio_un, rfl⟩ fun i hi e ⟨z, hz, he⟩ => by
      subst he
      rw [List.length_map] at hi
      rw [Nat.zero_add]
      have p := plus_ok (h2 i (by omega)) (h1 qs[i] (List.getElem_mem hi))
      rw [← rsum_take hi] at p
      refine ⟨_, _, by rw [List.getElem_map]; exact gset_ok (s := z) rfl hz, ?_, .imm (fr qs[i]), noio_imm _, rfl⟩
      unfold sumB
      generalize fr (rsum (qs.take i)) = A1 at *
      generalize fr (rsum (qs.take (i + 1))) = A2 at *
      generalize fr qs[i] = A3 at *
      simp [dTest, dBin, dVar, dC, dMove, dUn, dIf, dTru, dAnd, dOr, dNot, tAndD, tOrD, tNotD, dTup, dLst, aCons, aNil, aStar, dCallB, dCall, dIxS, asB, asTru, truD, Val.d, sSeq, seqK, sIf, sRet, sRetN, sExpr, sSet, setVal, sAsg, gDone, sPar, sNext, itRng1, itRng2, itSeq, gSet, gTupD, gsCons, gsNil, canSet, slotD, seqD, Src.d, Src.ok, asRes, runF, env0, outOf, sizeLine, Res.map, p]
  rw [he, Nat.zero_add, List.length_map, List.take_length] at l
  have e1 : fr 0 = .tup [.int 0, .int 1] := rfl
  rw [e1] at l
  unfold sumB at l
  unfold F__law_sum b__law_sum
  simp [dTest, dBin, dVar, dC, dMove, dUn, dIf, dTru, dAnd, dOr, dNot, tAndD, tOrD, tNotD, dTup, dLst, aCons, aNil, aStar, dCallB, dCall, dIxS, asB, asTru, truD, Val.d, sSeq, seqK, sIf, sRet, sRetN, sExpr, sSet, setVal, sAsg, gDone, sPar, sNext, itRng1, itRng2, itSeq, gSet, gTupD, gsCons, gsNil, canSet, slotD, seqD, Src.d, Src.ok, asRes, runF, env0, outOf, sizeLine, Res.map, sFor, l]
def mulB : DS := sSet 1 (dCall F_product ⟨2, [], [.pos 0, .pos 1]⟩ (aCons (dVar 1) (aCons (dVar 2) aNil)) aNil)
theorem multiplied_ok {qs : List Rat} (h1 : ∀ q ∈ qs, Sz q) (h2 : ∀ k, k ≤ qs.length → Sz (rprod (qs.take k))) : F_multiplied [.lst (qs.map nm)] = .ok (.imm (nm (rprod qs)), none) := by
  obtain ⟨e', l, z, hz, he⟩ := loop_inv (g := gSet 2) (f := mulB) (fun k e => ∃ z : Slot, NoIo z ∧ e = [.imm (.lst (qs.map nm)), .imm (nm (rprod (qs.take k))), z])
    (qs.map nm) (k := 0) (env := [.imm (.lst (qs.map nm)), .imm (nm 1), .un]) ⟨.un, noio_un, rfl⟩ fun i hi e ⟨z, hz, he⟩ => by
      subst he
      rw [List.length_map] at hi
      rw [Nat.zero_add]
      have p := product_ok (h2 i (by omega)) (h1 qs[i] (List.getElem_mem hi))
      rw [← rprod_take hi] at p
      refine ⟨_, _, by rw [List.getElem_map]; exact gset_ok (s := z) rfl hz, ?_, .imm (nm qs[i]), noio_imm _, rfl⟩
      unfold mulB
      generalize nm (rprod (qs.take i)) = A1 at *
      generalize nm (rprod (qs.take (i + 1))) = A2 at *
      generalize nm qs[i] = A3 at *
      simp [dTest, dBin, dVar, dC, dMove, dUn, dIf, dTru, dAnd, dOr, dNot, tAndD, tOrD, tNotD, dTup, dLst, aCons, aNil, aStar, dCallB, dCall, dIxS, asB, asTru, truD, Val.d, sSeq, seqK, sIf, sRet, sRetN, sExpr, sSet, setVal, sAsg, gDone, sPar, sNext, itRng1, itRng2, itSeq, gSet, gTupD, gsCons, gsNil, canSet, slotD, seqD, Src.d, Src.ok, asRes, runF, env0, outOf, sizeLine, Res.map, p]
  rw [he, Nat.zero_add, List.length_map, List.take_length] at l
  have e1 : nm 1 = .int 1 := rfl
  rw [e1] at l
  unfold mulB at l
  unfold F_multiplied b_multiplied
  simp [dTest, dBin, dVar, dC, dMove, dUn, dIf, dTru, dAnd, dOr, dNot, tAndD, tOrD, tNotD, dTup, dLst, aCons, aNil, aStar, dCallB, dCall, dIxS, asB, asTru, truD, Val.d, sSeq, seqK, sIf, sRet, sRetN, sExpr, sSet, setVal, sAsg, gDone, sPar, sNext, itRng1, itRng2, itSeq, gSet, gTupD, gsCons, gsNil, canSet, slotD, seqD, Src.d, Src.ok, asRes, runF, env0, outOf, sizeLine, Res.map, sFor, l]
theorem turned_ok (q : Rat) : F_turned [nm q] = .ok (.imm (nm (-q)), none) := by
  have h1 := halves_ok q
  rw [fr_def] at h1
  have e : nm (-q) = if q.den = 1 then .int (-q.num) else .tup [.int (-q.num), .int q.den] := rfl
  rw [e]
  unfold F_turned b_turned
  generalize nm q = Q at h1 ⊢
  by_cases h : q.den = 1
  · simp [dTest, dBin, dVar, dC, dMove, dUn, dIf, dTru, dAnd, dOr, dNot, tAndD, tOrD, tNotD, dTup, dLst, aCons, aNil, aStar, dCallB, dCall, dIxS, asB, asTru, truD, Val.d, sSeq, seqK, sIf, sRet, sRetN, sExpr, sSet, setVal, sAsg, gDone, sPar, sNext, itRng1, itRng2, itSeq, gSet, gTupD, gsCons, gsNil, canSet, slotD, seqD, Src.d, Src.ok, asRes, runF, env0, outOf, sizeLine, Res.map, h1, i_eq, i_neg, h]
  · have h' : ¬ (q.den : Int) = 1 := by omega
    simp [dTest, dBin, dVar, dC, dMove, dUn, dIf, dTru, dAnd, dOr, dNot, tAndD, tOrD, tNotD, dTup, dLst, aCons, aNil, aStar, dCallB, dCall, dIxS, asB, asTru, truD, Val.d, sSeq, seqK, sIf, sRet, sRetN, sExpr, sSet, setVal, sAsg, gDone, sPar, sNext, itRng1, itRng2, itSeq, gSet, gTupD, gsCons, gsNil, canSet, slotD, seqD, Src.d, Src.ok, asRes, runF, env0, outOf, sizeLine, Res.map, h1, i_eq, i_neg, h, h']
theorem sz_neg {q : Rat} (h : Sz q) : Sz (-q) := ⟨by rw [Rat.neg_num, Int.natAbs_neg]; exact h.1, h.2⟩
theorem less_by_ok {p q : Rat} (hp : Sz p) (hq : Sz q) : F_less_by [nm p, nm q] = .ok (.imm (nm (p - q)), none) := by
  have t := turned_ok q
  have a := added_ok hp (sz_neg hq)
  rw [← Rat.sub_eq_add_neg] at a
  unfold F_less_by b_less_by
  generalize nm p = P at *
  generalize nm q = Q at *
  generalize nm (-q) = Q' at *
  simp [dTest, dBin, dVar, dC, dMove, dUn, dIf, dTru, dAnd, dOr, dNot, tAndD, tOrD, tNotD, dTup, dLst, aCons, aNil, aStar, dCallB, dCall, dIxS, asB, asTru, truD, Val.d, sSeq, seqK, sIf, sRet, sRetN, sExpr, sSet, setVal, sAsg, gDone, sPar, sNext, itRng1, itRng2, itSeq, gSet, gTupD, gsCons, gsNil, canSet, slotD, seqD, Src.d, Src.ok, asRes, runF, env0, outOf, sizeLine, Res.map, t, a]
/-! mixes -/
structure Mx (g k : Nat) (s : List Rat) : Prop where
  len : s.length = g
  nn : ∀ q ∈ s, 0 ≤ q
  bt : ∀ q ∈ s, Bt k q
  one : rsum s = 1
theorem zip_rat {α : Type} (f : Rat → Dt) (h : Rat → Dt) (s d : List Rat) (hl : s.length = d.length) : pairs (s.map f) (d.map h) = (List.range s.length).map fun i => .tup [f (s.getD i 0), h (d.getD i 0)] := by
  apply List.ext_getElem
  · unfold pairs
    simp [hl]
  · intro i h1 h2
    have hi : i < s.length := by simpa using h2
    have hi' : i < d.length := by omega
    rw [pairs_get _ _ _ (by simpa using hi) (by simpa using hi')]
    simp [hi, hi']
theorem getD_mem {s : List Rat} {i : Nat} (h : i < s.length) : s.getD i 0 ∈ s := by
  rw [List.getD_eq_getElem?_getD, List.getElem?_eq_getElem h]
  exact List.getElem_mem h
/-- sizes of what is paid -/
theorem paid_terms {g k b : Nat} {s d : List Rat} (hs : s.length = g) (hd : d.length = g) (h1 : ∀ q ∈ s, Bt k q) (h2 : ∀ q ∈ d, Bt b q) : ∀ q ∈ (List.range s.length).map (fun i => s.getD i 0 * d.getD i 0), Bt (k + b) q := fun q hq => by
  obtain ⟨i, hi, rfl⟩ := List.mem_map.mp hq
  have hi := List.mem_range.mp hi
  exact (h1 _ (getD_mem hi)).mul (h2 _ (getD_mem (by omega)))
theorem paid_bt {g k b : Nat} {s d : List Rat} (hs : s.length = g) (hd : d.length = g) (h1 : ∀ q ∈ s, Bt k q) (h2 : ∀ q ∈ d, Bt b q) : Bt (g * (k + b + 1)) (paid s d) := by
  have h := rsum_bt (paid_terms hs hd h1 h2)
  have tl : ((List.range s.length).map (fun i => s.getD i 0 * d.getD i 0)).length = g := by rw [List.length_map, List.length_range, hs]
  rw [tl] at h
  exact h
theorem prefix_bt {k : Nat} {qs : List Rat} (h : ∀ q ∈ qs, Bt k q) (i : Nat) (hi : i ≤ qs.length) : Bt (qs.length * (k + 1)) (rsum (qs.take i)) := by
  have h2 := rsum_bt (xs := qs.take i) fun q hq => h q (List.mem_of_mem_take hq)
  rw [List.length_take, Nat.min_eq_left hi] at h2
  exact h2.mono (Nat.mul_le_mul_right _ hi)
theorem prefix_bp {k : Nat} {qs : List Rat} (h : ∀ q ∈ qs, Bt k q) (i : Nat) (hi : i ≤ qs.length) : Bt (qs.length * k) (rprod (qs.take i)) := by
  have h2 := rprod_bt (xs := qs.take i) fun q hq => h q (List.mem_of_mem_take hq)
  rw [List.length_take, Nat.min_eq_left hi] at h2
  exact h2.mono (Nat.mul_le_mul_right _ hi)
theorem summed_ok {g k b : Nat} {s d : List Rat} (hg : g ≤ 5) (hs : s.length = g) (hd : d.length = g) (h1 : ∀ q ∈ s, Bt k q) (h2 : ∀ q ∈ d, Bt b q) (hz : 5 * (k + b + 1) < 6000) : F_summed [.tup (s.map nm), .tup (d.map nm)] = .ok (.imm (nm (paid s d)), none) := by
  have T := paid_terms hs hd h1 h2
  have tl : ((List.range s.length).map (fun i => s.getD i 0 * d.getD i 0)).length = g := by rw [List.length_map, List.length_range, hs]
  have le : g * (k + b + 1) ≤ 5 * (k + b + 1) := Nat.mul_le_mul_right _ hg
  have t := total_gen (qs := (List.range s.length).map fun i => s.getD i 0 * d.getD i 0) (fun q hq => (T q hq).sz (by omega)) fun i hi => (prefix_bt T i hi).sz (by rw [tl]; omega)
  rw [List.map_map] at t
  have t : F_total [.lst ((List.range s.length).map fun i => nm (s.getD i 0 * d.getD i 0))] = .ok (.imm (nm (paid s d)), none) := t
  have lc : lcLoop [2, 3] (gTupD 2 (gsCons (gSet 2) (gsCons (gSet 3) gsNil))) dYes (dCall F_product ⟨2, [], [.pos 0, .pos 1]⟩ (aCons (dVar 2) (aCons (dVar 3) aNil)) aNil) ((List.range s.length).map fun i => .tup [nm (s.getD i 0), nm (d.getD i 0)]) [.imm (.tup (s.map nm)), .imm (.tup (d.map nm)), .un, .un] =
      .ok ((List.range s.length).map fun i => nm (s.getD i 0 * d.getD i 0), [.imm (.tup (s.map nm)), .imm (.tup (d.map nm)), .un, .un]) := lc_pure (fun i => .tup [nm (s.getD i 0), nm (d.getD i 0)]) (fun i => nm (s.getD i 0 * d.getD i 0)) (List.range s.length) fun i hi => by
    have hi := List.mem_range.mp hi
    have p := product_ok ((h1 _ (getD_mem hi)).sz (by omega)) ((h2 _ (getD_mem (show i < d.length by omega))).sz (by omega))
    have gt := gtup2 (a := 2) (b := 3) (env := [.imm (.tup (s.map nm)), .imm (.tup (d.map nm)), .un, .un]) (d1 := nm (s.getD i 0)) (d2 := nm (d.getD i 0)) rfl noio_un rfl noio_un
    unfold lcTurn
    rw [gt]
    generalize nm (s.getD i 0) = Y1 at *
    generalize nm (d.getD i 0) = Y2 at *
    simp [dYes, Res.hard, wipeE, dTest, dBin, dVar, dC, dMove, dUn, dIf, dTru, dAnd, dOr, dNot, tAndD, tOrD, tNotD, dTup, dLst, aCons, aNil, aStar, dCallB, dCall, dIxS, asB, asTru, truD, Val.d, sSeq, seqK, sIf, sRet, sRetN, sExpr, sSet, setVal, sAsg, gDone, sPar, sNext, itRng1, itRng2, itSeq, gSet, gTupD, gsCons, gsNil, canSet, slotD, seqD, Src.d, Src.ok, asRes, runF, env0, outOf, sizeLine, Res.map, p]
  have it : itZip (aCons (dVar 0) (aCons (dVar 1) aNil)) [.imm (.tup (s.map nm)), .imm (.tup (d.map nm)), .un, .un] = .ok ((List.range s.length).map fun i => .tup [nm (s.getD i 0), nm (d.getD i 0)], [.imm (.tup (s.map nm)), .imm (.tup (d.map nm)), .un, .un]) := by
    rw [← zip_rat (α := Nat) nm nm s d (by omega)]
    rfl
  have dl := dlc_of (vs := [2, 3]) it rfl (by rw [List.length_map, List.length_range, sizeLine_is]; omega) lc
  have bk : backE [.imm (.tup (s.map nm)), .imm (.tup (d.map nm)), .un, .un] [.imm (.tup (s.map nm)), .imm (.tup (d.map nm)), .un, .un] [2, 3] = [.imm (.tup (s.map nm)), .imm (.tup (d.map nm)), .un, .un] := rfl
  rw [bk] at dl
  unfold F_summed b_summed
  refine run_rt (e := [.imm (.tup (s.map nm)), .imm (.tup (d.map nm)), .un, .un]) rfl (e' := [.imm (.tup (s.map nm)), .imm (.tup (d.map nm)), .un, .un]) ?_
  simp only [sRet, dCall, aCons, aNil] at dl ⊢
  rw [dl]
  simp only [Res.bind_ok, Val.d, List.length_cons, List.length_nil, Nat.zero_add, Src.d, Src.ok, List.map_cons, List.map_nil, List.getElem?_cons_zero, Option.getD_some, t, asRes, List.all_cons, List.all_nil, Nat.reduceLT, decide_true, Bool.and_true, and_self, if_true]
end G


set_option maxRecDepth 100000
set_option maxHeartbeats 4000000
set_option exponentiation.threshold 30000
namespace G
open PySem PySem.Spec PyProof.Rows L2
/-! Rs2: mixes are mixes; spares. -/
def s1B : DS := (sSeq (sAsg (gTupD 2 (gsCons (gSet 4) (gsCons (gSet 5) gsNil))) (dIf (dTru (dCall F_is_list ⟨1, [], [.pos 0]⟩ (aCons (dVar 3) aNil) aNil)) (dTup (aCons (dIxS 3 (dC (.int 0))) (aCons (dIxS 3 (dC (.int 1))) aNil))) (dTup (aCons (dVar 3) (aCons (dC (.int 1)) aNil)))))
    (sPar 1 2 (aCons (dBin opAdd (dBin opMul (dVar 1) (dVar 5)) (dBin opMul (dVar 4) (dVar 2))) (aCons (dBin opMul (dVar 2) (dVar 5)) aNil))))
theorem s1_turn {q : Rat} {A U : Int} {s0 z4 z5 : Slot} (h4 : NoIo z4) (h5 : NoIo z5) (m1 : mulOk A q.den = true) (m2 : mulOk q.num U = true) (m3 : mulOk U q.den = true) :
    s1B [s0, .imm (.int A), .imm (.int U), .imm (nm q), z4, z5] = .ok (.nx, [s0, .imm (.int (A * q.den + q.num * U)), .imm (.int (U * q.den)), .imm (nm q), .imm (.int q.num), .imm (.int q.den)]) := by
  have m1 := i_mul m1
  have m2 := i_mul m2
  have m3 := i_mul m3
  have gt := gtup2 (a := 4) (b := 5) (env := [s0, .imm (.int A), .imm (.int U), .imm (nm q), z4, z5]) (s1 := z4) (s2 := z5) (d1 := .int q.num) (d2 := .int q.den) rfl h4 rfl h5
  have de : (dIf (dTru (dCall F_is_list ⟨1, [], [.pos 0]⟩ (aCons (dVar 3) aNil) aNil)) (dTup (aCons (dIxS 3 (dC (.int 0))) (aCons (dIxS 3 (dC (.int 1))) aNil))) (dTup (aCons (dVar 3) (aCons (dC (.int 1)) aNil)))) [s0, .imm (.int A), .imm (.int U), .imm (nm q), z4, z5] = .ok (.imm (.tup [.int q.num, .int q.den]), [s0, .imm (.int A), .imm (.int U), .imm (nm q), z4, z5]) := by
    unfold nm
    by_cases h : q.den = 1
    · have l := is_list_i q.num
      simp [dTest, dBin, dVar, dC, dMove, dUn, dIf, dTru, dAnd, dOr, dNot, tAndD, tOrD, tNotD, dTup, dLst, aCons, aNil, aStar, dCallB, dCall, dIxS, asB, asTru, truD, Val.d, sSeq, seqK, sIf, sRet, sRetN, sExpr, sSet, setVal, sAsg, gDone, sPar, sNext, itRng1, itRng2, itSeq, gSet, gTupD, gsCons, gsNil, canSet, slotD, seqD, Src.d, Src.ok, asRes, runF, env0, outOf, sizeLine, Res.map, h, l]
    · have l := is_list_ok (d := .tup [.int q.num, .int q.den]) (.inr rfl)
      simp [dTest, dBin, dVar, dC, dMove, dUn, dIf, dTru, dAnd, dOr, dNot, tAndD, tOrD, tNotD, dTup, dLst, aCons, aNil, aStar, dCallB, dCall, dIxS, asB, asTru, truD, Val.d, sSeq, seqK, sIf, sRet, sRetN, sExpr, sSet, setVal, sAsg, gDone, sPar, sNext, itRng1, itRng2, itSeq, gSet, gTupD, gsCons, gsNil, canSet, slotD, seqD, Src.d, Src.ok, asRes, runF, env0, outOf, sizeLine, Res.map, h, l, jxt0, jxt1]
  unfold s1B
  have a1 : sAsg (gTupD 2 (gsCons (gSet 4) (gsCons (gSet 5) gsNil))) (dIf (dTru (dCall F_is_list ⟨1, [], [.pos 0]⟩ (aCons (dVar 3) aNil) aNil)) (dTup (aCons (dIxS 3 (dC (.int 0))) (aCons (dIxS 3 (dC (.int 1))) aNil))) (dTup (aCons (dVar 3) (aCons (dC (.int 1)) aNil)))) [s0, .imm (.int A), .imm (.int U), .imm (nm q), z4, z5] = .ok (.nx, [s0, .imm (.int A), .imm (.int U), .imm (nm q), .imm (.int q.num), .imm (.int q.den)]) := by
    unfold sAsg
    rw [de, Res.bind_ok]
    dsimp only [Val.d]
    rw [gt]
    rfl
  rw [seq_nx a1]
  generalize nm q = Q
  simp [dTest, dBin, dVar, dC, dMove, dUn, dIf, dTru, dAnd, dOr, dNot, tAndD, tOrD, tNotD, dTup, dLst, aCons, aNil, aStar, dCallB, dCall, dIxS, asB, asTru, truD, Val.d, sSeq, seqK, sIf, sRet, sRetN, sExpr, sSet, setVal, sAsg, gDone, sPar, sNext, itRng1, itRng2, itSeq, gSet, gTupD, gsCons, gsNil, canSet, slotD, seqD, Src.d, Src.ok, asRes, runF, env0, outOf, sizeLine, Res.map, m1, m2, m3, i_add]
theorem is_sum_1_ok {g b : Nat} {s : List Rat} {d : Dt} (hd : Ls d (s.map nm)) (hm : Mx g b s) (hg : g ≤ 5) (hb : b ≤ 1000) : F_is_sum_1 [d] = .ok (.imm (.bl true), none) := by
  obtain ⟨e', l, A, U, z3, z4, z5, h3, h4, h5, hU, hA1, hA2, hU2, he⟩ := loop_inv (g := gSet 3) (f := s1B) (fun k e => ∃ (A U : Int) (z3 z4 z5 : Slot), NoIo z3 ∧ NoIo z4 ∧ NoIo z5 ∧ 0 < U ∧ (A : Rat) = rsum (s.take k) * (U : Rat) ∧ A.natAbs ≤ 2 ^ (k * (b + 1)) ∧ U.natAbs ≤ 2 ^ (k * b) ∧ e = [.imm d, .imm (.int A), .imm (.int U), z3, z4, z5])
    (s.map nm) (k := 0) (env := [.imm d, .imm (.int 0), .imm (.int 1), .un, .un, .un]) ⟨0, 1, .un, .un, .un, noio_un, noio_un, noio_un, by decide, by show (0 : Rat) = 0 * 1; grind, by simp, by simp, rfl⟩ fun i hi e ⟨A, U, z3, z4, z5, h3, h4, h5, hU, hA1, hA2, hU2, he⟩ => by
      subst he
      rw [List.length_map] at hi
      rw [Nat.zero_add] at hA1 hA2 hU2 ⊢
      have hq := hm.bt s[i] (List.getElem_mem hi)
      have hi5 : i < 5 := by have := hm.len; omega
      have qd : ((s[i].den : Int)).natAbs ≤ 2 ^ b := by simpa using hq.2
      have up : ∀ {x k : Nat}, x ≤ 2 ^ k → k < 20000 → x < 2 ^ 20000 := fun h hk => Nat.lt_of_le_of_lt h (Nat.pow_lt_pow_right (by decide) hk)
      have k1 : i * (b + 1) ≤ 4 * 1001 := Nat.mul_le_mul (by omega) (by omega)
      have k2 : i * b ≤ 4 * 1000 := Nat.mul_le_mul (by omega) hb
      have t := s1_turn (q := s[i]) (s0 := .imm d) h4 h5 (mul_smalli (up hA2 (by omega)) (up qd (by omega))) (mul_smalli (up hq.1 (by omega)) (up hU2 (by omega))) (mul_smalli (up hU2 (by omega)) (up qd (by omega)))
      refine ⟨_, _, by rw [List.getElem_map]; exact gset_ok (s := z3) rfl h3, t, _, _, .imm (nm s[i]), .imm (.int s[i].num), .imm (.int s[i].den), noio_imm _, noio_imm _, noio_imm _, Int.mul_pos hU (den_pos' _), ?_, ?_, ?_, rfl⟩
      · rw [rsum_take hi, Rat.intCast_add, Rat.intCast_mul, Rat.intCast_mul, Rat.intCast_mul, Rat.intCast_natCast, hA1]
        have e := num_div s[i]
        have n0 := ratD s[i].den_pos
        generalize (s[i].num : Rat) = P at *
        generalize (s[i].den : Rat) = Q at *
        generalize s[i] = R at *
        generalize (U : Rat) = V at *
        rw [← e]
        grind
      · have x1 : (A * (s[i].den : Int)).natAbs ≤ 2 ^ (i * (b + 1) + b) := by
          rw [Int.natAbs_mul, Nat.pow_add]
          exact Nat.mul_le_mul hA2 qd
        have x2 : (s[i].num * U).natAbs ≤ 2 ^ (i * (b + 1) + b) := by
          rw [Int.natAbs_mul, Nat.add_comm, Nat.pow_add]
          exact Nat.mul_le_mul hq.1 (Nat.le_trans hU2 (Nat.pow_le_pow_right (by decide) (Nat.mul_le_mul_left _ (by omega))))
        have x3 := Int.natAbs_add_le (A * (s[i].den : Int)) (s[i].num * U)
        have x4 : (2 : Nat) ^ ((i + 1) * (b + 1)) = 2 ^ (i * (b + 1) + b) + 2 ^ (i * (b + 1) + b) := by
          rw [Nat.succ_mul, show i * (b + 1) + (b + 1) = i * (b + 1) + b + 1 by omega, Nat.pow_succ, Nat.mul_two]
        omega
      · rw [Int.natAbs_mul, Nat.succ_mul, Nat.pow_add]
        exact Nat.mul_le_mul hU2 qd
  rw [Nat.zero_add, List.length_map, List.take_length, hm.one, Rat.one_mul] at hA1
  have hAU : A = U := Rat.intCast_inj.mp hA1
  subst hAU
  rw [he] at l
  have e1 := i_eq A A
  rw [decide_eq_true rfl] at e1
  unfold s1B at l
  unfold F_is_sum_1 b_is_sum_1
  rcases hd with rfl | rfl
  · simp [dTest, dBin, dVar, dC, dMove, dUn, dIf, dTru, dAnd, dOr, dNot, tAndD, tOrD, tNotD, dTup, dLst, aCons, aNil, aStar, dCallB, dCall, dIxS, asB, asTru, truD, Val.d, sSeq, seqK, sIf, sRet, sRetN, sExpr, sSet, setVal, sAsg, gDone, sPar, sNext, itRng1, itRng2, itSeq, gSet, gTupD, gsCons, gsNil, canSet, slotD, seqD, Src.d, Src.ok, asRes, runF, env0, outOf, sizeLine, Res.map, sFor, l, e1] at l ⊢
  · simp [dTest, dBin, dVar, dC, dMove, dUn, dIf, dTru, dAnd, dOr, dNot, tAndD, tOrD, tNotD, dTup, dLst, aCons, aNil, aStar, dCallB, dCall, dIxS, asB, asTru, truD, Val.d, sSeq, seqK, sIf, sRet, sRetN, sExpr, sSet, setVal, sAsg, gDone, sPar, sNext, itRng1, itRng2, itSeq, gSet, gTupD, gsCons, gsNil, canSet, slotD, seqD, Src.d, Src.ok, asRes, runF, env0, outOf, sizeLine, Res.map, sFor, l, e1] at l ⊢
theorem need_mix_ok {g b : Nat} {s : List Rat} {d : Dt} {t : Str} (hd : Ls d (s.map nm)) (hm : Mx g b s) (hg : g ≤ 5) (hb : b ≤ 1000) : F_need_mix [d, ni g, .str t] = .ok (.imm (.tup (s.map nm)), none) := by
  have r : F_is_row [d, ni g] = .ok (.imm (.bl true), none) := is_row_ok hd ⟨hm.len, fun q hq => ⟨(hm.bt q hq).sz (by omega), hm.nn q hq⟩⟩ hg
  have s1 := is_sum_1_ok hd hm hg hb
  have k := kept_row_ok hd (by rw [hm.len]; exact hg)
  have m : F_is_mix_of [d, ni g] = .ok (.imm (.bl true), none) := by
    unfold F_is_mix_of b_is_mix_of
    simp [dTest, dBin, dVar, dC, dMove, dUn, dIf, dTru, dAnd, dOr, dNot, tAndD, tOrD, tNotD, dTup, dLst, aCons, aNil, aStar, dCallB, dCall, dIxS, asB, asTru, truD, Val.d, sSeq, seqK, sIf, sRet, sRetN, sExpr, sSet, setVal, sAsg, gDone, sPar, sNext, itRng1, itRng2, itSeq, gSet, gTupD, gsCons, gsNil, canSet, slotD, seqD, Src.d, Src.ok, asRes, runF, env0, outOf, sizeLine, Res.map, r, s1]
  unfold F_need_mix b_need_mix
  simp [dTest, dBin, dVar, dC, dMove, dUn, dIf, dTru, dAnd, dOr, dNot, tAndD, tOrD, tNotD, dTup, dLst, aCons, aNil, aStar, dCallB, dCall, dIxS, asB, asTru, truD, Val.d, sSeq, seqK, sIf, sRet, sRetN, sExpr, sSet, setVal, sAsg, gDone, sPar, sNext, itRng1, itRng2, itSeq, gSet, gTupD, gsCons, gsNil, canSet, slotD, seqD, Src.d, Src.ok, asRes, runF, env0, outOf, sizeLine, Res.map, m, k]
theorem even_factor_ok {g d : Nat} (h1 : 1 ≤ g) (h2 : g ≤ 5) (h3 : d ≤ 1000) : F_even_factor [ni g, ni d] = .ok (.imm (ni (fct g d)), none) := by
  have f := factor_ok h1 h2 h3
  have n1 : F_need_goods [ni g] = .ok (.imm .non, none) := need_goods_ok h1 h2
  have n2 : F_need_days [ni d] = .ok (.imm .non, none) := by
    have w := is_within_ok (d : Int) 0 1000
    rw [decide_eq_true (show (0 : Int) ≤ d by omega), decide_eq_true (show (d : Int) ≤ 1000 by omega)] at w
    have w : F_is_within [ni d, .int 0, .int 1000] = .ok (.imm (.bl true), none) := w
    unfold F_need_days b_need_days F_need_integer b_need_integer
    simp [dTest, dBin, dVar, dC, dMove, dUn, dIf, dTru, dAnd, dOr, dNot, tAndD, tOrD, tNotD, dTup, dLst, aCons, aNil, aStar, dCallB, dCall, dIxS, asB, asTru, truD, Val.d, sSeq, seqK, sIf, sRet, sRetN, sExpr, sSet, setVal, sAsg, gDone, sPar, sNext, itRng1, itRng2, itSeq, gSet, gTupD, gsCons, gsNil, canSet, slotD, seqD, Src.d, Src.ok, asRes, runF, env0, outOf, sizeLine, Res.map, w]
  unfold F_even_factor b_even_factor
  simp [dTest, dBin, dVar, dC, dMove, dUn, dIf, dTru, dAnd, dOr, dNot, tAndD, tOrD, tNotD, dTup, dLst, aCons, aNil, aStar, dCallB, dCall, dIxS, asB, asTru, truD, Val.d, sSeq, seqK, sIf, sRet, sRetN, sExpr, sSet, setVal, sAsg, gDone, sPar, sNext, itRng1, itRng2, itSeq, gSet, gTupD, gsCons, gsNil, canSet, slotD, seqD, Src.d, Src.ok, asRes, runF, env0, outOf, sizeLine, Res.map, n1, n2, f]
  rfl
/-- sizes for spares -/
structure FitM (g E B n b k : Nat) : Prop where
  f0 : Fits g E B n
  E1 : E ≤ 2 ^ b
  B1 : B ≤ 2 ^ b
  kb : k ≤ 1000
  w : n * (5 * (k + b + 1)) < 5900
  w1 : 5 * (k + b + 1) < 5000
  p : E ^ n * fac (g + n) * 1 < 2 ^ 6000 ∧ g ^ n * (NN g B n * fac (g + n)) * 5000 < 2 ^ 6000
theorem row_bt {g E B b : Nat} {x : List Rat} (h : RowB g E B x) (hE : E ≤ 2 ^ b) (hB : B ≤ 2 ^ b) : ∀ q ∈ x, Bt b q := fun q hq => (h.2 q hq).1.bt hE hB
section
variable {g E B n b k : Nat} {m : List (List Rat)} {s : List Rat}
theorem worth_terms (F : FitM g E B n b k) (hm : ∀ x ∈ m, RowB g E B x) (hs : Mx g k s) : ∀ q ∈ m.map (paid s), Bt (5 * (k + b + 1)) q := fun q hq => by
  obtain ⟨x, hx, rfl⟩ := List.mem_map.mp hq
  exact (paid_bt hs.len (hm x hx).1 hs.bt (row_bt (hm x hx) F.E1 F.B1)).mono (Nat.mul_le_mul_right _ F.f0.g5)
theorem worth_sz (F : FitM g E B n b k) (hl : m.length = n) (hm : ∀ x ∈ m, RowB g E B x) (hs : Mx g k s) : Sz (worth s m) := by
  have h := rprod_bt (worth_terms F hm hs)
  rw [List.length_map, hl] at h
  exact h.sz (by have := F.w; omega)
/-- the purse that the program reckons is small -/
theorem purse_small (F : FitM g E B n b k) (hl : m.length = n) (hm : ∀ x ∈ m, RowB g E B x) : Bz (E ^ n * fac (g + n)) (g ^ n * (NN g B n * fac (g + n))) (vs g m (ev g)) := by
  have hb := grp_b F.f0.toFit m (Nat.le_of_eq hl) hm
  rw [hl] at hb
  have hs := grp_sum (g := g) m (hw g)
  have e : vs g m (ev g) = vs g m fun w => hw g (counts g w) := vs_congr fun w _ hw' => ev_hw F.f0.g0 w hw'
  rw [e, ← hs]
  have h := rsum_bz (D := E ^ n * fac (g + n)) (N := NN g B n * fac (g + n)) (Nat.mul_pos (Nat.pow_pos F.f0.E0) (fac_pos _)) (xs := (grp g m (grp0 g)).map fun p => hw g p.1 * p.2) fun q hq => by
    obtain ⟨p, hp, rfl⟩ := List.mem_map.mp hq
    have := (prod_w F.f0 hb hp (hb.key p hp).1 (hb.key p hp).2 (by omega)).2
    rw [Rat.mul_comm] at this
    exact this
  rw [List.length_map] at h
  exact h.mono (Nat.mul_le_mul_right _ hb.len)
theorem wide_bz (F : FitM g E B n b k) (hl : m.length = n) (hm : ∀ x ∈ m, RowB g E B x) : Bz (E ^ n * fac (g + n) * 1) (g ^ n * (NN g B n * fac (g + n)) * 5000) (vs g m (ev g) * (fct g n : Rat)) := by
  have h1 := purse_small F hl hm
  have h2 := (Bz.nat (fct g n) (D := 1) (by decide)).mono (show fct g n * 1 ≤ 5000 by have := F.f0.few; unfold fct; omega)
  exact h1.mul h2
theorem even_spare_ok (F : FitM g E B n b k) (hl : m.length = n) (hm : ∀ x ∈ m, RowB g E B x) (hs : Mx g k s) {d ds : Dt} (r : List Rat → Dt) (hr : ∀ x, Ls (r x) (x.map nm)) (hd : Ls d (m.map r)) (hds : Ls ds (s.map nm)) :
    F_even_spare [ni g, d, ds] = .ok (.imm (nm (vs g m (ev g) * (fct g n : Rat) - worth s m)), none) := by
  have E6 : E < 2 ^ 6000 := Nat.lt_of_le_of_lt F.E1 (Nat.pow_lt_pow_right (by decide) (by have := F.w1; omega))
  have B6 : B < 2 ^ 6000 := Nat.lt_of_le_of_lt F.B1 (Nat.pow_lt_pow_right (by decide) (by have := F.w1; omega))
  have n1 : F_need_goods [ni g] = .ok (.imm .non, none) := need_goods_ok F.f0.g0 F.f0.g5
  have n2 : F_need_market [d, ni g, .str "market"] = .ok (.imm (.tup (m.map rowT)), none) := need_market_ok r hr hd (fun x hx => row_of F.f0 E6 B6 (hm x hx)) F.f0.g5 (by have := F.f0.n2; omega)
  have n3 := need_few_ok (g := g) (xs := m.map rowT) F.f0.g0 F.f0.g5 (by rw [List.length_map, hl]; have := F.f0.n2; omega) (by rw [List.length_map, hl]; exact F.f0.few)
  have n4 := need_mix_ok (t := "shares") hds hs F.f0.g5 F.kb
  have p := purse_in_ok F.f0 hl hm
  have fa := factor_ok (g := g) (d := n) F.f0.g0 F.f0.g5 (by have := F.f0.n2; omega)
  have fa : F_factor_in [ni g, ni n] = .ok (.imm (ni (fct g n)), none) := fa
  have nf : ni (fct g n) = nm (fct g n : Rat) := rfl
  have hf : Sz (fct g n : Rat) := by
    refine ((Bz.nat (fct g n) (D := 1) (by decide)).mono (show fct g n * 1 ≤ 5000 by have := F.f0.few; unfold fct; omega)).sz (Nat.one_lt_two_pow (by decide)) (Nat.lt_of_lt_of_le (show 5000 < 2 ^ 13 by decide) (Nat.pow_le_pow_right (by decide) (by decide)))
  have pz : Sz (vs g m (ev g)) := (purse_small F hl hm).sz F.f0.den2 F.f0.num2
  have pr := product_ok pz hf
  rw [← nf] at pr
  have wz := (wide_bz F hl hm).sz F.p.1 F.p.2
  have T := worth_terms F hm hs
  have tl : (m.map (paid s)).length = n := by rw [List.length_map, hl]
  have mu := multiplied_ok (qs := m.map (paid s)) (fun q hq => (T q hq).sz (by have := F.w1; omega)) fun i hi => (prefix_bp T i hi).sz (by rw [tl]; have := F.w; omega)
  rw [List.map_map] at mu
  have mu : F_multiplied [.lst (m.map fun x => nm (paid s x))] = .ok (.imm (nm (worth s m)), none) := mu
  have lb := less_by_ok wz (worth_sz F hl hm hs)
  have lc : lcLoop [6] (gSet 6) dYes (dCall F_summed ⟨2, [], [.pos 0, .pos 1]⟩ (aCons (dVar 4) (aCons (dVar 6) aNil)) aNil) (m.map rowT) [.imm (ni g), .imm d, .imm ds, .imm (.tup (m.map rowT)), .imm (.tup (s.map nm)), .un, .un] =
      .ok (m.map fun x => nm (paid s x), [.imm (ni g), .imm d, .imm ds, .imm (.tup (m.map rowT)), .imm (.tup (s.map nm)), .un, .un]) := lc_pure rowT (fun x => nm (paid s x)) m fun x hx => by
    have sm := summed_ok F.f0.g5 hs.len (hm x hx).1 hs.bt (row_bt (hm x hx) F.E1 F.B1) (by have := F.w1; omega)
    have sm : F_summed [.tup (s.map nm), rowT x] = .ok (.imm (nm (paid s x)), none) := sm
    generalize rowT x = X at *
    generalize Dt.tup (s.map nm) = S at *
    generalize Dt.tup (m.map rowT) = M at *
    simp [lcTurn, dYes, Res.hard, wipeE, dTest, dBin, dVar, dC, dMove, dUn, dIf, dTru, dAnd, dOr, dNot, tAndD, tOrD, tNotD, dTup, dLst, aCons, aNil, aStar, dCallB, dCall, dIxS, asB, asTru, truD, Val.d, sSeq, seqK, sIf, sRet, sRetN, sExpr, sSet, setVal, sAsg, gDone, sPar, sNext, itRng1, itRng2, itSeq, gSet, gTupD, gsCons, gsNil, canSet, slotD, seqD, Src.d, Src.ok, asRes, runF, env0, outOf, sizeLine, Res.map, sm]
  have dl := dlc_of (vs := [6]) (g := gSet 6) (t := dYes) (it := itSeq (dVar 3)) (env := [.imm (ni g), .imm d, .imm ds, .imm (.tup (m.map rowT)), .imm (.tup (s.map nm)), .un, .un]) (e1 := [.imm (ni g), .imm d, .imm ds, .imm (.tup (m.map rowT)), .imm (.tup (s.map nm)), .un, .un]) rfl rfl (by rw [List.length_map, hl, sizeLine_is]; have := F.f0.n2; omega) lc
  have bk : backE [.imm (ni g), .imm d, .imm ds, .imm (.tup (m.map rowT)), .imm (.tup (s.map nm)), .un, .un] [.imm (ni g), .imm d, .imm ds, .imm (.tup (m.map rowT)), .imm (.tup (s.map nm)), .un, .un] [6] = [.imm (ni g), .imm d, .imm ds, .imm (.tup (m.map rowT)), .imm (.tup (s.map nm)), .un, .un] := rfl
  rw [bk] at dl
  have ln : bLen [.tup (m.map rowT)] = .ok (.imm (ni n)) := by rw [bLen_t, List.length_map, hl]
  have fs : (flatD (V.str "market")).getD Dt.non = .str "market" := rfl
  have fs2 : (flatD (V.str "market")).isSome = true := rfl
  have ft : (flatD (V.str "shares")).getD Dt.non = .str "shares" := rfl
  have ft2 : (flatD (V.str "shares")).isSome = true := rfl
  unfold F_even_spare b_even_spare
  generalize (m.map fun x => nm (paid s x)) = WL at *
  generalize dLc [6] (itSeq (dVar 3)) (gSet 6) dYes (dCall F_summed ⟨2, [], [.pos 0, .pos 1]⟩ (aCons (dVar 4) (aCons (dVar 6) aNil)) aNil) = DL at *
  generalize nm (vs g m (ev g)) = V1 at *
  generalize nm (vs g m (ev g) * (fct g n : Rat)) = V2 at *
  generalize nm (vs g m (ev g) * (fct g n : Rat) - worth s m) = V4 at *
  generalize nm (worth s m) = V3 at *
  generalize ni (fct g n) = FN at *
  generalize Dt.tup (s.map nm) = S at *
  generalize m.map rowT = M at *
  simp [dTest, dBin, dVar, dC, dMove, dUn, dIf, dTru, dAnd, dOr, dNot, tAndD, tOrD, tNotD, dTup, dLst, aCons, aNil, aStar, dCallB, dCall, dIxS, asB, asTru, truD, Val.d, sSeq, seqK, sIf, sRet, sRetN, sExpr, sSet, setVal, sAsg, gDone, sPar, sNext, itRng1, itRng2, itSeq, gSet, gTupD, gsCons, gsNil, canSet, slotD, seqD, Src.d, Src.ok, asRes, runF, env0, outOf, sizeLine, Res.map, n1, n2, n3, n4, p, fs, fs2, ft, ft2, dl, mu, ln, fa, pr, lb]
end
end G


set_option maxRecDepth 100000
set_option maxHeartbeats 4000000
set_option exponentiation.threshold 30000
namespace G
open PySem PySem.Spec PyProof.Rows L2
/-! Rs3: the law's mixes: what they are paid, worth; bettered. -/
theorem less_raw {a b c d : Int} (h1 : mulOk a d = true) (h2 : mulOk c b = true) : F__law_less [.tup [.int a, .int b], .tup [.int c, .int d]] = .ok (.imm (.bl (decide (a * d < c * b))), none) := by
  have m1 := i_mul h1
  have m2 := i_mul h2
  unfold F__law_less b__law_less
  simp [dTest, dBin, dVar, dC, dMove, dUn, dIf, dTru, dAnd, dOr, dNot, tAndD, tOrD, tNotD, dTup, dLst, aCons, aNil, aStar, dCallB, dCall, dIxS, asB, asTru, truD, Val.d, sSeq, seqK, sIf, sRet, sRetN, sExpr, sSet, setVal, sAsg, gDone, sPar, sNext, itRng1, itRng2, itSeq, gSet, gTupD, gsCons, gsNil, canSet, slotD, seqD, Src.d, Src.ok, asRes, runF, env0, outOf, sizeLine, Res.map, jxt0, jxt1, m1, m2, i_lt]
section
variable {g b k : Nat} {s d : List Rat} {m : List (List Rat)}
theorem lpaid_ok (hg : g ≤ 5) (hs : s.length = g) (hd : d.length = g) (h1 : ∀ q ∈ s, Bt k q) (h2 : ∀ q ∈ d, Bt b q) (hz : 5 * (k + b + 1) < 6000) : F__law_paid [.lst (s.map fr), rowF d] = .ok (.imm (fr (paid s d)), none) := by
  have T := paid_terms hs hd h1 h2
  have tl : ((List.range s.length).map (fun i => s.getD i 0 * d.getD i 0)).length = g := by rw [List.length_map, List.length_range, hs]
  have le : g * (k + b + 1) ≤ 5 * (k + b + 1) := Nat.mul_le_mul_right _ hg
  have t := sum_gen (qs := (List.range s.length).map fun i => s.getD i 0 * d.getD i 0) (fun q hq => (T q hq).sz (by omega)) fun i hi => (prefix_bt T i hi).sz (by rw [tl]; omega)
  rw [List.map_map] at t
  have t : F__law_sum [.lst ((List.range s.length).map fun i => fr (s.getD i 0 * d.getD i 0))] = .ok (.imm (fr (paid s d)), none) := t
  have lc : lcLoop [2, 3] (gTupD 2 (gsCons (gSet 2) (gsCons (gSet 3) gsNil))) dYes (dCall F__law_times ⟨2, [], [.pos 0, .pos 1]⟩ (aCons (dVar 2) (aCons (dVar 3) aNil)) aNil) ((List.range s.length).map fun i => .tup [fr (s.getD i 0), fr (d.getD i 0)]) [.imm (.lst (s.map fr)), .imm (rowF d), .un, .un] =
      .ok ((List.range s.length).map fun i => fr (s.getD i 0 * d.getD i 0), [.imm (.lst (s.map fr)), .imm (rowF d), .un, .un]) := lc_pure (fun i => .tup [fr (s.getD i 0), fr (d.getD i 0)]) (fun i => fr (s.getD i 0 * d.getD i 0)) (List.range s.length) fun i hi => by
    have hi := List.mem_range.mp hi
    have p := times_ok ((h1 _ (getD_mem hi)).sz (by omega)) ((h2 _ (getD_mem (show i < d.length by omega))).sz (by omega))
    have gt := gtup2 (a := 2) (b := 3) (env := [.imm (.lst (s.map fr)), .imm (rowF d), .un, .un]) (d1 := fr (s.getD i 0)) (d2 := fr (d.getD i 0)) rfl noio_un rfl noio_un
    unfold lcTurn
    rw [gt]
    generalize fr (s.getD i 0) = Y1 at *
    generalize fr (d.getD i 0) = Y2 at *
    simp [dYes, Res.hard, wipeE, dTest, dBin, dVar, dC, dMove, dUn, dIf, dTru, dAnd, dOr, dNot, tAndD, tOrD, tNotD, dTup, dLst, aCons, aNil, aStar, dCallB, dCall, dIxS, asB, asTru, truD, Val.d, sSeq, seqK, sIf, sRet, sRetN, sExpr, sSet, setVal, sAsg, gDone, sPar, sNext, itRng1, itRng2, itSeq, gSet, gTupD, gsCons, gsNil, canSet, slotD, seqD, Src.d, Src.ok, asRes, runF, env0, outOf, sizeLine, Res.map, p]
  have it : itZip (aCons (dVar 0) (aCons (dVar 1) aNil)) [.imm (.lst (s.map fr)), .imm (rowF d), .un, .un] = .ok ((List.range s.length).map fun i => .tup [fr (s.getD i 0), fr (d.getD i 0)], [.imm (.lst (s.map fr)), .imm (rowF d), .un, .un]) := by
    rw [← zip_rat (α := Nat) fr fr s d (by omega)]
    rfl
  have dl := dlc_of (vs := [2, 3]) it rfl (by rw [List.length_map, List.length_range, sizeLine_is]; omega) lc
  have bk : backE [.imm (.lst (s.map fr)), .imm (rowF d), .un, .un] [.imm (.lst (s.map fr)), .imm (rowF d), .un, .un] [2, 3] = [.imm (.lst (s.map fr)), .imm (rowF d), .un, .un] := rfl
  rw [bk] at dl
  unfold F__law_paid b__law_paid
  refine run_rt (e := [.imm (.lst (s.map fr)), .imm (rowF d), .un, .un]) rfl (e' := [.imm (.lst (s.map fr)), .imm (rowF d), .un, .un]) ?_
  simp only [sRet, dCall, aCons, aNil] at dl ⊢
  rw [dl]
  simp only [Res.bind_ok, Val.d, List.length_cons, List.length_nil, Nat.zero_add, Src.d, Src.ok, List.map_cons, List.map_nil, List.getElem?_cons_zero, Option.getD_some, t, asRes, List.all_cons, List.all_nil, Nat.reduceLT, decide_true, Bool.and_true, and_self, if_true]
def woB : DS := sSet 2 (dCall F__law_times ⟨2, [], [.pos 0, .pos 1]⟩ (aCons (dVar 2) (aCons (dCall F__law_paid ⟨2, [], [.pos 0, .pos 1]⟩ (aCons (dVar 0) (aCons (dVar 3) aNil)) aNil) aNil)) aNil)
theorem lworth_ok (hg : g ≤ 5) (hs : s.length = g) (hm : ∀ x ∈ m, x.length = g ∧ ∀ q ∈ x, Bt b q) (h1 : ∀ q ∈ s, Bt k q) (hz : 5 * (k + b + 1) < 6000) (hn : m.length * (5 * (k + b + 1)) < 6000) : F__law_worth [.lst (s.map fr), .lst (m.map rowF)] = .ok (.imm (fr (worth s m)), none) := by
  have T : ∀ q ∈ m.map (paid s), Bt (5 * (k + b + 1)) q := fun q hq => by
    obtain ⟨x, hx, rfl⟩ := List.mem_map.mp hq
    exact (paid_bt hs (hm x hx).1 h1 (hm x hx).2).mono (Nat.mul_le_mul_right _ hg)
  obtain ⟨e', l, z, hz', he⟩ := loop_inv (g := gSet 3) (f := woB) (fun i e => ∃ z : Slot, NoIo z ∧ e = [.imm (.lst (s.map fr)), .imm (.lst (m.map rowF)), .imm (fr (rprod ((m.map (paid s)).take i))), z])
    (m.map rowF) (k := 0) (env := [.imm (.lst (s.map fr)), .imm (.lst (m.map rowF)), .imm (fr 1), .un]) ⟨.un, noio_un, rfl⟩ fun i hi e ⟨z, hz', he⟩ => by
      subst he
      rw [List.length_map] at hi
      rw [Nat.zero_add]
      have hi' : i < (m.map (paid s)).length := by rw [List.length_map]; exact hi
      have hx := hm m[i] (List.getElem_mem hi)
      have p := lpaid_ok hg hs hx.1 h1 hx.2 hz
      have pe : (m.map (paid s))[i] = paid s m[i] := List.getElem_map ..
      have t := times_ok ((prefix_bp T i (by omega)).sz (by rw [List.length_map]; exact hn)) ((T _ (List.getElem_mem hi')).sz hz)
      rw [← rprod_take hi', pe] at t
      refine ⟨_, _, by rw [List.getElem_map]; exact gset_ok (s := z) rfl hz', ?_, .imm (rowF m[i]), noio_imm _, rfl⟩
      unfold woB
      generalize fr (rprod ((m.map (paid s)).take i)) = A1 at *
      generalize fr (rprod ((m.map (paid s)).take (i + 1))) = A2 at *
      generalize fr (paid s m[i]) = A3 at *
      generalize rowF m[i] = A4 at *
      generalize Dt.lst (s.map fr) = S at *
      simp [dTest, dBin, dVar, dC, dMove, dUn, dIf, dTru, dAnd, dOr, dNot, tAndD, tOrD, tNotD, dTup, dLst, aCons, aNil, aStar, dCallB, dCall, dIxS, asB, asTru, truD, Val.d, sSeq, seqK, sIf, sRet, sRetN, sExpr, sSet, setVal, sAsg, gDone, sPar, sNext, itRng1, itRng2, itSeq, gSet, gTupD, gsCons, gsNil, canSet, slotD, seqD, Src.d, Src.ok, asRes, runF, env0, outOf, sizeLine, Res.map, p, t]
  rw [he, Nat.zero_add, List.length_map, List.take_of_length_le (by simp)] at l
  have e1 : fr 1 = .tup [.int 1, .int 1] := rfl
  rw [e1] at l
  have l : sLoop (gSet 3) woB (m.map rowF) [.imm (.lst (s.map fr)), .imm (.lst (m.map rowF)), .imm (.tup [.int 1, .int 1]), .un] = .ok (.nx, [.imm (.lst (s.map fr)), .imm (.lst (m.map rowF)), .imm (fr (worth s m)), z]) := l
  unfold woB at l
  unfold F__law_worth b__law_worth
  simp [dTest, dBin, dVar, dC, dMove, dUn, dIf, dTru, dAnd, dOr, dNot, tAndD, tOrD, tNotD, dTup, dLst, aCons, aNil, aStar, dCallB, dCall, dIxS, asB, asTru, truD, Val.d, sSeq, seqK, sIf, sRet, sRetN, sExpr, sSet, setVal, sAsg, gDone, sPar, sNext, itRng1, itRng2, itSeq, gSet, gTupD, gsCons, gsNil, canSet, slotD, seqD, Src.d, Src.ok, asRes, runF, env0, outOf, sizeLine, Res.map, sFor, l]
end
end G


set_option maxRecDepth 100000
set_option maxHeartbeats 4000000
set_option exponentiation.threshold 30000
namespace G
open PySem PySem.Spec PyProof.Rows L2
/-! Rs4: bettered mixes. -/
theorem eqv_nil (ps : List PyData) : PyData.eqv (.list ps) (.list []) = ps.isEmpty := by
  cases ps with
  | nil => simp [PyData.eqv, PyData.eqvAll]
  | cons p ps => simp [PyData.eqv, PyData.eqvAll]
theorem eq_nilL {k n : Nat} {xs : List Dt} (h : Sh k n (.lst xs)) (h2 : n ≤ 64) (neg : Bool) : eqS neg (.lst xs) (.lst []) = .ok (.imm (.bl (if neg = true then !xs.isEmpty else xs.isEmpty))) := by
  obtain ⟨p, a, b, c, e, f⟩ := h
  have sh : SeqAt.shaped p = true := by
    unfold SeqAt.shaped
    rw [c, decide_eq_true (by omega)]
    rfl
  show eqD neg (.lst xs) (.lst []) = _
  unfold eqD
  rw [a]
  have a2 : dToP (.lst []) = some (.list []) := rfl
  rw [a2]
  dsimp only
  have s2 : SeqAt.shaped (.list []) = true := by simp [SeqAt.shaped, PyData.canLay0, PyData.depth, PyData.canLayAll0, PyData.depthAll]
  rw [sh, s2]
  simp only [dToP, Option.map_eq_some_iff] at a
  obtain ⟨ps, a1, rfl⟩ := a
  rw [eqv_nil]
  have e1 : ps.isEmpty = xs.isEmpty := by
    cases xs with
    | nil =>
      simp only [dToPs, Option.some.injEq] at a1
      rw [← a1]
      rfl
    | cons x xs =>
      simp only [dToPs] at a1
      split at a1
      · cases a1
        rfl
      · cases a1
  rw [e1]
  cases neg <;> rfl
/-- one step better -/
def part (s : List Rat) (i : Nat) (d : List Rat) : Rat := d.getD i 0 * ((paid s d).den / (paid s d).num : Rat)
def bet1 (s : List Rat) (m : List (List Rat)) (i : Nat) : Rat := s.getD i 0 * (rsum (m.map (part s i)) * ((1 : Rat) / (m.length : Rat)))
def bet (s : List Rat) (m : List (List Rat)) : List Rat := (List.range s.length).map (bet1 s m)
theorem inv_num {q : Rat} (h : q ≠ 0) : ((q.den : Rat) / (q.num : Rat)) = 1 / q := by
  have h1 := num_div q
  have n1 : (q.num : Rat) ≠ 0 := fun e => h (Rat.num_eq_zero.mp (Rat.intCast_eq_zero_iff.mp e))
  have n2 := ratD q.den_pos
  generalize (q.num : Rat) = A at *
  generalize (q.den : Rat) = B at *
  grind
theorem bet_one {g : Nat} {s : List Rat} {m : List (List Rat)} (hm : m ≠ []) (hp : ∀ d ∈ m, paid s d ≠ 0) : rsum (bet s m) = 1 := by
  have hl : 0 < m.length := List.length_pos_iff.mpr hm
  have nl := ratD hl
  unfold bet bet1
  have e1 : rsum ((List.range s.length).map fun i => s.getD i 0 * (rsum (m.map (part s i)) * ((1 : Rat) / (m.length : Rat)))) = ((1 : Rat) / (m.length : Rat)) * rsum ((List.range s.length).map fun i => rsum (m.map fun d => s.getD i 0 * part s i d)) := by
    rw [← rsum_map_mul]
    refine rsum_congr fun i _ => ?_
    rw [rsum_map_mul]
    grind
  rw [e1, rsum_comm (fun i d => s.getD i 0 * part s i d) m]
  have e2 : rsum (m.map fun d => rsum ((List.range s.length).map fun i => s.getD i 0 * part s i d)) = rsum (m.map fun _ => 1) := by
    refine rsum_congr fun d hd => ?_
    have h0 := hp d hd
    have e3 : rsum ((List.range s.length).map fun i => s.getD i 0 * part s i d) = (1 / paid s d) * paid s d := by
      have hc := inv_num h0
      have e4 : paid s d = rsum ((List.range s.length).map fun i => s.getD i 0 * d.getD i 0) := rfl
      generalize hC : (1 / paid s d) = C at hc ⊢
      rw [e4, ← rsum_map_mul]
      refine rsum_congr fun i _ => ?_
      show s.getD i 0 * (d.getD i 0 * ((paid s d).den / (paid s d).num : Rat)) = _
      rw [hc]
      grind
    rw [e3]
    grind
  rw [e2]
  have e4 : ∀ m : List (List Rat), rsum (m.map fun _ => (1 : Rat)) = (m.length : Rat) := fun m => by
    induction m with
    | nil => rfl
    | cons d m ih =>
      show 1 + rsum (m.map fun _ => 1) = ((m.length + 1 : Nat) : Rat)
      rw [ih, Rat.natCast_add]
      have : ((1 : Nat) : Rat) = 1 := rfl
      rw [this]
      grind
  rw [e4]
  grind
section
variable {g b k : Nat} {s : List Rat} {m : List (List Rat)}
theorem paid_nonneg {d : List Rat} (h1 : ∀ q ∈ s, 0 ≤ q) (h2 : ∀ q ∈ d, 0 ≤ q) : 0 ≤ paid s d := by
  have gn : ∀ (x : List Rat), (∀ q ∈ x, 0 ≤ q) → ∀ i, 0 ≤ x.getD i 0 := fun x hx i => by
    rw [List.getD_eq_getElem?_getD]
    cases e : x[i]? with
    | none => exact Rat.le_refl
    | some q => exact hx q (List.mem_of_getElem? e)
  refine rsum_nonneg fun q hq => ?_
  obtain ⟨i, _, rfl⟩ := List.mem_map.mp hq
  exact Rat.mul_nonneg (gn s h1 i) (gn d h2 i)
theorem part_nonneg {d : List Rat} (h1 : ∀ q ∈ s, 0 ≤ q) (h2 : ∀ q ∈ d, 0 ≤ q) (h0 : paid s d ≠ 0) (i : Nat) : 0 ≤ part s i d := by
  unfold part
  rw [inv_num h0]
  have hp := paid_nonneg h1 h2
  have hp' : 0 < paid s d := Rat.lt_of_le_of_ne hp (Ne.symm h0)
  have : 0 ≤ d.getD i 0 := by
    rw [List.getD_eq_getElem?_getD]
    cases e : d[i]? with
    | none => exact Rat.le_refl
    | some q => exact h2 q (List.mem_of_getElem? e)
  have hi : 0 ≤ (paid s d)⁻¹ := Rat.le_of_lt (Rat.inv_pos.mpr hp')
  rw [Rat.div_def, Rat.one_mul]
  exact Rat.mul_nonneg this hi
theorem bet_nonneg (h1 : ∀ q ∈ s, 0 ≤ q) (hm : ∀ d ∈ m, ∀ q ∈ d, 0 ≤ q) (hp : ∀ d ∈ m, paid s d ≠ 0) : ∀ q ∈ bet s m, 0 ≤ q := fun q hq => by
  obtain ⟨i, hi, rfl⟩ := List.mem_map.mp hq
  have a : 0 ≤ s.getD i 0 := h1 _ (getD_mem (List.mem_range.mp hi))
  have c : 0 ≤ rsum (m.map (part s i)) := rsum_nonneg fun x hx => by
    obtain ⟨d, hd, rfl⟩ := List.mem_map.mp hx
    exact part_nonneg h1 (hm d hd) (hp d hd) i
  have e : (0 : Rat) ≤ (1 : Rat) / (m.length : Rat) := by
    rw [Rat.div_def, Rat.one_mul]
    rcases Nat.eq_zero_or_pos m.length with h | h
    · rw [h, show ((0 : Nat) : Rat) = 0 from rfl, Rat.inv_zero]
      exact Rat.le_refl
    · exact Rat.le_of_lt (Rat.inv_pos.mpr (by exact_mod_cast h))
  exact Rat.mul_nonneg a (Rat.mul_nonneg c e)
/-- a share is at most 1 -/
theorem le_one {x : List Rat} (h0 : ∀ q ∈ x, 0 ≤ q) (h1 : rsum x ≤ 1) : ∀ q ∈ x, q ≤ 1 := by
  induction x with
  | nil => intro q hq; cases hq
  | cons y x ih =>
    intro q hq
    have a := h0 y List.mem_cons_self
    have c : 0 ≤ rsum x := rsum_nonneg fun z hz => h0 z (List.mem_cons_of_mem _ hz)
    have h1' : y + rsum x ≤ 1 := h1
    rcases List.mem_cons.mp hq with rfl | hq
    · grind
    · exact ih (fun z hz => h0 z (List.mem_cons_of_mem _ hz)) (by grind) q hq
theorem num_le_den {q : Rat} (h : q ≤ 1) (h0 : 0 ≤ q) : q.num.natAbs ≤ q.den := by
  have h2 := (Rat.le_iff q 1).mp h
  have h3 := Rat.num_nonneg.mpr h0
  have e1 : (1 : Rat).den = 1 := rfl
  have e2 : (1 : Rat).num = 1 := rfl
  rw [e1, e2] at h2
  omega
end
end G


set_option maxRecDepth 100000
set_option maxHeartbeats 4000000
set_option exponentiation.threshold 30000
namespace G
open PySem PySem.Spec PyProof.Rows L2
/-! Rs5: bettered, as the law reckons it. -/
theorem intsD_ni (cs : List Nat) : intsD (cs.map ni) = some (cs.map fun c : Nat => (c : Int)) := by
  rw [map_ni, intsD_ints]
theorem bmax_l {cs : List Nat} (h : 0 < cs.length) : ∃ m ∈ cs, (∀ c ∈ cs, c ≤ m) ∧ bMax [.lst (cs.map ni)] = .ok (.imm (ni m)) := by
  obtain ⟨c, cs', rfl⟩ : ∃ c cs', cs = c :: cs' := by
    cases cs with
    | nil => exact absurd h (by simp)
    | cons c cs' => exact ⟨c, cs', rfl⟩
  have hm : ((c :: cs').map fun c : Nat => (c : Int)).max? = some (((c :: cs').map fun c : Nat => (c : Int)).max (by simp)) := List.max?_eq_some_max _
  have hmem := List.max_mem (l := (c :: cs').map fun c : Nat => (c : Int)) (by simp)
  have hle : ∀ x ∈ (c :: cs').map (fun c : Nat => (c : Int)), x ≤ ((c :: cs').map fun c : Nat => (c : Int)).max (by simp) := fun x hx => List.le_max_of_mem hx
  obtain ⟨m, hm1, hm2⟩ := List.mem_map.mp hmem
  refine ⟨m, hm1, fun x hx => ?_, ?_⟩
  · have := hle _ (List.mem_map_of_mem hx)
    rw [← hm2] at this
    omega
  · show (match intsD ((c :: cs').map ni) with
      | some ns => bestOf List.max? ns
      | none => Res.bad) = _
    rw [intsD_ni]
    show bestOf List.max? _ = _
    unfold bestOf
    rw [hm, ← hm2]
    rfl
def Pl (s : Slot) : Prop := s = .un ∨ ∃ d, s = .imm d
theorem Pl.no {s : Slot} (h : Pl s) : NoIo s := by
  rcases h with rfl | ⟨d, rfl⟩
  · exact noio_un
  · exact noio_imm d
theorem pl_imm (d : Dt) : Pl (.imm d) := .inr ⟨d, rfl⟩
def dayPB : DS := (sSeq (sSet 7 (dCall F__law_paid ⟨2, [], [.pos 0, .pos 1]⟩ (aCons (dVar 0) (aCons (dVar 6) aNil)) aNil))
    (sApp 5 (dCall F__law_times ⟨2, [], [.pos 0, .pos 1]⟩ (aCons (dIxS 6 (dVar 3)) (aCons (dTup (aCons (dIxS 7 (dC (.int 1))) (aCons (dIxS 7 (dC (.int 0))) aNil))) aNil)) aNil)))
def betB : DS := (sSeq (sSet 5 (dLst aNil))
    (sSeq (sFor (itSeq (dVar 1)) (gSet 6) dayPB)
    (sApp 2 (dCall F__law_times ⟨2, [], [.pos 0, .pos 1]⟩ (aCons (dVar 4) (aCons (dCall F__law_times ⟨2, [], [.pos 0, .pos 1]⟩ (aCons (dCall F__law_sum ⟨1, [], [.pos 0]⟩ (aCons (dVar 5) aNil) aNil) (aCons (dTup (aCons (dC (.int 1)) (aCons (dCallB bLen (aCons (dVar 1) aNil)) aNil))) aNil)) aNil) aNil)) aNil))))
/-- what is given -/
structure BetH (g b k : Nat) (s : List Rat) (m : List (List Rat)) : Prop where
  g0 : 0 < g
  g5 : g ≤ 5
  k10 : k ≤ 10
  b50 : b ≤ 50
  len : s.length = g
  nn : ∀ q ∈ s, 0 ≤ q
  bt : ∀ q ∈ s, Bt k q
  one : rsum s = 1
  mlen : m.length ≤ 7
  rows : ∀ d ∈ m, d.length = g ∧ (∀ q ∈ d, Bt b q) ∧ ∀ q ∈ d, 0 ≤ q
section
variable {g b k : Nat} {s : List Rat} {m : List (List Rat)}
theorem inv_bt {n : Nat} {q : Rat} (h : Bt n q) (h0 : q ≠ 0) (hp : 0 ≤ q) : Bt n ((q.den : Rat) / (q.num : Rat)) := by
  have hn : 0 < q.num := by
    have h1 := Rat.num_nonneg.mpr hp
    have h2 : q.num ≠ 0 := fun e => h0 (Rat.num_eq_zero.mp e)
    omega
  have b := Bz.ofDiv (q.den : Int) (b := q.num.natAbs) (by omega)
  have e : ((q.num.natAbs : Nat) : Rat) = (q.num : Rat) := by
    rw [← Rat.intCast_natCast]
    congr 1
    omega
  rw [e, Rat.intCast_natCast] at b
  exact b.bt h.1 (by simpa using h.2)
theorem part_bt (H : BetH g b k s m) {d : List Rat} (hd : d ∈ m) (h0 : paid s d ≠ 0) {i : Nat} (hi : i < g) : Bt (b + 5 * (k + b + 1)) (part s i d) := by
  obtain ⟨h1, h2, h3⟩ := H.rows d hd
  have p := (paid_bt H.len h1 H.bt h2).mono (Nat.mul_le_mul_right (k + b + 1) H.g5)
  exact (h2 _ (getD_mem (by omega))).mul (inv_bt p h0 (paid_nonneg H.nn h3))
theorem dayP_ok (H : BetH g b k s m) {d : List Rat} (hd : d ∈ m) (h0 : paid s d ≠ 0) {i : Nat} (hi : i < g) {L : List Dt} (hL : L.length ≤ 1000) {s1 s2 s4 z7 : Slot} (h7 : NoIo z7) :
    dayPB [.imm (.lst (s.map fr)), s1, s2, .imm (ni i), s4, .own (.lst L), .imm (rowF d), z7] = .ok (.nx, [.imm (.lst (s.map fr)), s1, s2, .imm (ni i), s4, .own (.lst (L ++ [fr (part s i d)])), .imm (rowF d), .imm (fr (paid s d))]) := by
  obtain ⟨h1, h2, h3⟩ := H.rows d hd
  have k10 := H.k10
  have b50 := H.b50
  have p := lpaid_ok H.g5 H.len h1 H.bt h2 (by omega)
  have pz := (paid_bt H.len h1 H.bt h2).mono (Nat.mul_le_mul_right (k + b + 1) H.g5)
  have hn : 0 < (paid s d).num := by
    have h4 := Rat.num_nonneg.mpr (paid_nonneg H.nn h3)
    have h5 : (paid s d).num ≠ 0 := fun e => h0 (Rat.num_eq_zero.mp e)
    omega
  have pzz := pz.sz (by omega)
  have t := times_r2 (p := d.getD i 0) (c := ((paid s d).den : Int)) (d := (paid s d).num.natAbs) ((h2 _ (getD_mem (show i < d.length by omega))).sz (by omega)) (by omega) (by simpa using pzz.2) pzz.1
  have e1 : (((paid s d).num.natAbs : Nat) : Int) = (paid s d).num := by omega
  have e2 : (((paid s d).num.natAbs : Nat) : Rat) = ((paid s d).num : Rat) := by
    rw [← Rat.intCast_natCast, e1]
  rw [e1, e2, Rat.intCast_natCast] at t
  have t : F__law_times [fr (d.getD i 0), .tup [.int (paid s d).den, .int (paid s d).num]] = .ok (.imm (fr (part s i d)), none) := t
  have ix : opIx (rowF d) (ni i) = .ok (.imm (fr (d.getD i 0))) := ix_l (by rw [List.getElem?_map, getD_get (by omega)]; rfl)
  have x0 : opIx (fr (paid s d)) (.int 0) = .ok (.imm (.int (paid s d).num)) := jxt0 _ _
  have x1 : opIx (fr (paid s d)) (.int 1) = .ok (.imm (.int (paid s d).den)) := jxt1 _ _ _
  have ad : addD (fr (part s i d)) (.lst L) = some (.lst (L ++ [fr (part s i d)])) := by
    show (if L.length < sizeLine then some (Dt.lst (L ++ [_])) else none) = _
    rw [if_pos (by rw [sizeLine_is]; omega)]
  have b0 : sSet 7 (dCall F__law_paid ⟨2, [], [.pos 0, .pos 1]⟩ (aCons (dVar 0) (aCons (dVar 6) aNil)) aNil) [.imm (.lst (s.map fr)), s1, s2, .imm (ni i), s4, .own (.lst L), .imm (rowF d), z7] = .ok (.nx, [.imm (.lst (s.map fr)), s1, s2, .imm (ni i), s4, .own (.lst L), .imm (rowF d), .imm (fr (paid s d))]) := by
    refine set_imm (e := [.imm (.lst (s.map fr)), s1, s2, .imm (ni i), s4, .own (.lst L), .imm (rowF d), z7]) (s := z7) ?_ rfl h7
    generalize rowF d = R at *
    generalize Dt.lst (s.map fr) = S at *
    simp [dTest, dBin, dVar, dC, dMove, dUn, dIf, dTru, dAnd, dOr, dNot, tAndD, tOrD, tNotD, dTup, dLst, aCons, aNil, aStar, dCallB, dCall, dIxS, asB, asTru, truD, Val.d, sSeq, seqK, sIf, sRet, sRetN, sExpr, sSet, setVal, sAsg, gDone, sPar, sNext, itRng1, itRng2, itSeq, gSet, gTupD, gsCons, gsNil, canSet, slotD, seqD, Src.d, Src.ok, asRes, runF, env0, outOf, sizeLine, Res.map, p]
  unfold dayPB
  rw [seq_nx b0]
  generalize fr (paid s d) = P at *
  generalize fr (part s i d) = PT at *
  generalize fr (d.getD i 0) = D0 at *
  generalize rowF d = R at *
  generalize (paid s d).num = N0 at *
  generalize ((paid s d).den : Int) = N1 at *
  generalize Dt.lst (s.map fr) = S at *
  simp only [sApp, List.getElem?_cons_succ, List.getElem?_cons_zero, Option.map_some, isLst, if_true, dCall, aCons, aNil, dIxS, slotD, Option.bind_some, Option.isNone_some, Bool.false_eq_true, if_false, dVar, Res.bind_ok, Val.d, ix, Res.map_ok, dTup, dC, x1, x0, List.length_cons, List.length_nil, Nat.zero_add, Nat.reduceAdd, sizeLine_is, Nat.reduceLeDiff, List.map_cons, List.map_nil, Src.d, Option.getD_some, Src.ok, List.all_cons, List.all_nil, Nat.reduceLT, decide_true, Bool.and_true, Bool.and_self, and_self, t, asRes, slotWr, ad, List.set_cons_succ, List.set_cons_zero]
theorem bet_turn (H : BetH g b k s m) (hm : m ≠ []) (hp : ∀ d ∈ m, paid s d ≠ 0) {i : Nat} (hi : i < g) {L : List Dt} (hL : L.length ≤ 1000) {z5 z6 z7 : Slot} (h5 : NoIo z5) (h6 : NoIo z6) (h7 : NoIo z7) :
    ∃ z5' z6' z7', NoIo z5' ∧ NoIo z6' ∧ NoIo z7' ∧ betB [.imm (.lst (s.map fr)), .imm (.lst (m.map rowF)), .own (.lst L), .imm (ni i), .imm (fr (s.getD i 0)), z5, z6, z7] = .ok (.nx, [.imm (.lst (s.map fr)), .imm (.lst (m.map rowF)), .own (.lst (L ++ [fr (bet1 s m i)])), .imm (ni i), .imm (fr (s.getD i 0)), z5', z6', z7']) := by
  have k10 := H.k10
  have b50 := H.b50
  have m7 := H.mlen
  obtain ⟨e', l, z6', z7', h6', h7', he⟩ := loop_inv (g := gSet 6) (f := dayPB) (fun j e => ∃ z6 z7, NoIo z6 ∧ NoIo z7 ∧ e = [.imm (.lst (s.map fr)), .imm (.lst (m.map rowF)), .own (.lst L), .imm (ni i), .imm (fr (s.getD i 0)), .own (.lst ((m.take j).map fun d => fr (part s i d))), z6, z7])
    (m.map rowF) (k := 0) (env := [.imm (.lst (s.map fr)), .imm (.lst (m.map rowF)), .own (.lst L), .imm (ni i), .imm (fr (s.getD i 0)), .own (.lst []), z6, z7]) ⟨z6, z7, h6, h7, rfl⟩ fun j hj e ⟨z6, z7, h6, h7, he⟩ => by
      subst he
      rw [List.length_map] at hj
      rw [Nat.zero_add]
      have hd := List.getElem_mem hj
      have o := dayP_ok (s1 := .imm (.lst (m.map rowF))) (s2 := .own (.lst L)) (s4 := .imm (fr (s.getD i 0))) (L := (m.take j).map fun d => fr (part s i d)) H hd (hp _ hd) hi (by rw [List.length_map, List.length_take]; omega) h7
      rw [show (m.take j).map (fun d => fr (part s i d)) ++ [fr (part s i m[j])] = (m.take (j + 1)).map fun d => fr (part s i d) by rw [List.take_succ_eq_append_getElem hj, List.map_append]; rfl] at o
      exact ⟨_, _, by rw [List.getElem_map]; exact gset_ok (s := z6) rfl h6, o, .imm (rowF m[j]), _, noio_imm _, noio_imm _, rfl⟩
  rw [he, Nat.zero_add, List.length_map, List.take_length] at l
  have T : ∀ q ∈ m.map (part s i), Bt (b + 5 * (k + b + 1)) q := fun q hq => by
    obtain ⟨d, hd, rfl⟩ := List.mem_map.mp hq
    exact part_bt H hd (hp d hd) hi
  have nb : m.length * (b + 5 * (k + b + 1) + 1) ≤ 7 * (b + 5 * (k + b + 1) + 1) := Nat.mul_le_mul_right _ m7
  have sm := sum_gen (qs := m.map (part s i)) (fun q hq => (T q hq).sz (by omega)) fun j hj => (prefix_bt T j hj).sz (by rw [List.length_map]; omega)
  rw [List.map_map] at sm
  have sm : F__law_sum [.lst (m.map fun d => fr (part s i d))] = .ok (.imm (fr (rsum (m.map (part s i)))), none) := sm
  have sb := (rsum_bt T).mono (show (m.map (part s i)).length * (b + 5 * (k + b + 1) + 1) ≤ 7 * (b + 5 * (k + b + 1) + 1) by rw [List.length_map]; exact nb)
  have ml : 0 < m.length := List.length_pos_iff.mpr hm
  have t1 := times_r2 (p := rsum (m.map (part s i))) (c := 1) (d := m.length) (sb.sz (by omega)) ml (Nat.one_lt_two_pow (by decide)) (lt60 (k := 10) (by omega) (by decide))
  have t1 : F__law_times [fr (rsum (m.map (part s i))), .tup [.int 1, ni m.length]] = .ok (.imm (fr (rsum (m.map (part s i)) * ((1 : Rat) / (m.length : Rat)))), none) := t1
  have ob : Bt 3 ((1 : Rat) / (m.length : Rat)) := (Bz.ofDiv 1 ml).bt (by omega) (by decide)
  have si : Bt k (s.getD i 0) := H.bt _ (getD_mem (by rw [H.len]; exact hi))
  have t2 := times_ok (si.sz (by omega)) ((sb.mul ob).sz (by omega))
  have t2 : F__law_times [fr (s.getD i 0), fr (rsum (m.map (part s i)) * ((1 : Rat) / (m.length : Rat)))] = .ok (.imm (fr (bet1 s m i)), none) := t2
  have ln : bLen [.lst (m.map rowF)] = .ok (.imm (ni m.length)) := by rw [bLen_l, List.length_map]
  have ad : addD (fr (bet1 s m i)) (.lst L) = some (.lst (L ++ [fr (bet1 s m i)])) := by
    show (if L.length < sizeLine then some (Dt.lst (L ++ [_])) else none) = _
    rw [if_pos (by rw [sizeLine_is]; omega)]
  have b0 : sSet 5 (dLst aNil) [.imm (.lst (s.map fr)), .imm (.lst (m.map rowF)), .own (.lst L), .imm (ni i), .imm (fr (s.getD i 0)), z5, z6, z7] = .ok (.nx, [.imm (.lst (s.map fr)), .imm (.lst (m.map rowF)), .own (.lst L), .imm (ni i), .imm (fr (s.getD i 0)), .own (.lst []), z6, z7]) := by
    unfold sSet setVal
    rw [show dLst aNil [.imm (.lst (s.map fr)), .imm (.lst (m.map rowF)), .own (.lst L), .imm (ni i), .imm (fr (s.getD i 0)), z5, z6, z7] = .ok (.fresh (.lst []), [.imm (.lst (s.map fr)), .imm (.lst (m.map rowF)), .own (.lst L), .imm (ni i), .imm (fr (s.getD i 0)), z5, z6, z7]) from by
      unfold dLst aNil
      rw [Res.bind_ok]
      exact if_pos (Nat.zero_le _), Res.bind_ok]
    dsimp only
    rw [if_pos (cs_of (s := z5) rfl h5)]
    rfl
  refine ⟨.imm (.lst (m.map fun d => fr (part s i d))), z6', z7', noio_imm _, h6', h7', ?_⟩
  unfold betB
  have fo := for_of (it := itSeq (dVar 1)) (env := [.imm (.lst (s.map fr)), .imm (.lst (m.map rowF)), .own (.lst L), .imm (ni i), .imm (fr (s.getD i 0)), .own (.lst []), z6, z7]) rfl l
  rw [seq_nx b0, seq_nx fo]
  generalize fr (bet1 s m i) = B1 at *
  generalize fr (rsum (m.map (part s i)) * ((1 : Rat) / (m.length : Rat))) = B2 at *
  generalize fr (rsum (m.map (part s i))) = B3 at *
  generalize (m.map fun d => fr (part s i d)) = PL at *
  generalize fr (s.getD i 0) = SI at *
  generalize Dt.lst (s.map fr) = S at *
  generalize Dt.lst (m.map rowF) = M at *
  generalize ni m.length = NM at *
  simp only [sApp, List.getElem?_cons_succ, List.getElem?_cons_zero, Option.map_some, isLst, if_true, dCall, aCons, aNil, dVar, Res.bind_ok, Val.d, List.set_cons_succ, List.set_cons_zero, List.length_cons, List.length_nil, Nat.zero_add, Nat.reduceAdd, List.map_cons, List.map_nil, Src.d, Option.getD_some, sm, asRes, dTup, dC, dCallB, ln, Res.map_ok, sizeLine_is, Nat.reduceLeDiff, t1, t2, Src.ok, List.all_cons, List.all_nil, Nat.reduceLT, decide_true, Bool.and_true, Bool.and_self, and_self, slotWr, ad]
end
end G


set_option maxRecDepth 100000
set_option maxHeartbeats 4000000
set_option exponentiation.threshold 30000
namespace G
open PySem PySem.Spec PyProof.Rows L2
/-! Rs6: bettered, as a whole; drawn mixes. -/
/-- the mixes that the law asks -/
abbrev MB : Nat := 140
section
variable {g b k : Nat} {s : List Rat} {m : List (List Rat)}
theorem worth_zero : ∀ {m : List (List Rat)}, worth s m ≠ 0 → ∀ d ∈ m, paid s d ≠ 0
  | [], _, d, hd => by cases hd
  | e :: m, h, d, hd => by
    have h' : paid s e * worth s m ≠ 0 := h
    rcases List.mem_cons.mp hd with rfl | hd
    · intro z
      rw [z, Rat.zero_mul] at h'
      exact h' rfl
    · refine worth_zero (m := m) (fun z => ?_) d hd
      rw [z, Rat.mul_zero] at h'
      exact h' rfl
theorem mx_of (H : BetH g b k s m) : Mx g MB s := ⟨H.len, H.nn, fun q hq => (H.bt q hq).mono (show k ≤ 140 by have := H.k10; omega), H.one⟩
theorem bet_mx (H : BetH g b k s m) (hm : m ≠ []) (hp : ∀ d ∈ m, paid s d ≠ 0) (hd : ∀ q ∈ bet s m, q.den < 10 ^ 40) : Mx g MB (bet s m) := by
  have one := bet_one (g := g) hm hp
  have nn := bet_nonneg H.nn (fun d hd => (H.rows d hd).2.2) hp
  refine ⟨by unfold bet; rw [List.length_map, List.length_range, H.len], nn, fun q hq => ?_, one⟩
  have h1 := le_one nn (by rw [one]; exact Rat.le_refl) q hq
  have h2 := num_le_den h1 (nn q hq)
  have h3 := hd q hq
  have h4 : (10 : Nat) ^ 40 ≤ 2 ^ 140 := by decide +kernel
  exact ⟨by show _ ≤ 2 ^ 140; omega, by show _ ≤ 2 ^ 140; omega⟩
theorem bettered_ok (H : BetH g b k s m) (hsh : Sh 16000000 3 (.lst (m.map rowF))) : ∃ (s' : List Rat) (v : Val), F__law_bettered [.lst (s.map fr), .lst (m.map rowF)] = .ok (v, none) ∧ v.d = .lst (s'.map fr) ∧ Mx g MB s' := by
  have k10 := H.k10
  have b50 := H.b50
  have m7 := H.mlen
  have en := eq_nilL hsh (by decide) false
  have wo := lworth_ok (m := m) H.g5 H.len (fun d hd => ⟨(H.rows d hd).1, (H.rows d hd).2.1⟩) H.bt (show 5 * (k + b + 1) < 6000 by omega) (by have := Nat.mul_le_mul_right (5 * (k + b + 1)) m7; omega)
  by_cases hme : m = []
  · -- no days
    subst hme
    refine ⟨s, .imm (.lst (s.map fr)), ?_, rfl, mx_of H⟩
    have en : eqS false (.lst []) (.lst []) = .ok (.imm (.bl true)) := en
    unfold F__law_bettered b__law_bettered
    generalize Dt.lst (s.map fr) = S at *
    simp [dTest, dBin, dVar, dC, dMove, dUn, dIf, dTru, dAnd, dOr, dNot, tAndD, tOrD, tNotD, dTup, dLst, aCons, aNil, aStar, dCallB, dCall, dIxS, asB, asTru, truD, Val.d, sSeq, seqK, sIf, sRet, sRetN, sExpr, sSet, setVal, sAsg, gDone, sPar, sNext, itRng1, itRng2, itSeq, gSet, gTupD, gsCons, gsNil, canSet, slotD, seqD, Src.d, Src.ok, asRes, runF, env0, outOf, sizeLine, Res.map, en, dMove]
  · have hi : (m.map rowF).isEmpty = false := by simpa using hme
    rw [hi] at en
    have en : eqS false (.lst (m.map rowF)) (.lst []) = .ok (.imm (.bl false)) := en
    have x0 : opIx (fr (worth s m)) (.int 0) = .ok (.imm (.int (worth s m).num)) := jxt0 _ _
    have ez := i_eq (worth s m).num 0
    by_cases hw : worth s m = 0
    · refine ⟨s, .imm (.lst (s.map fr)), ?_, rfl, mx_of H⟩
      have hn : (worth s m).num = 0 := Rat.num_eq_zero.mpr hw
      rw [decide_eq_true hn] at ez
      unfold F__law_bettered b__law_bettered
      generalize fr (worth s m) = W at *
      generalize (worth s m).num = WN at *
      generalize Dt.lst (s.map fr) = S at *
      generalize m.map rowF = M at *
      simp [dTest, dBin, dVar, dC, dMove, dUn, dIf, dTru, dAnd, dOr, dNot, tAndD, tOrD, tNotD, dTup, dLst, aCons, aNil, aStar, dCallB, dCall, dIxS, asB, asTru, truD, Val.d, sSeq, seqK, sIf, sRet, sRetN, sExpr, sSet, setVal, sAsg, gDone, sPar, sNext, itRng1, itRng2, itSeq, gSet, gTupD, gsCons, gsNil, canSet, slotD, seqD, Src.d, Src.ok, asRes, runF, env0, outOf, sizeLine, Res.map, en, wo, x0, ez, dMove]
    · have hn : ¬ (worth s m).num = 0 := fun e => hw (Rat.num_eq_zero.mp e)
      rw [decide_eq_false hn] at ez
      have hp := worth_zero hw
      -- the loop
      obtain ⟨e', l, z3, z4, z5, z6, z7, h3, h4, h5, h6, h7, he⟩ := loop_inv (g := gTupD 2 (gsCons (gSet 3) (gsCons (gSet 4) gsNil))) (f := betB) (fun i e => ∃ z3 z4 z5 z6 z7, Pl z3 ∧ Pl z4 ∧ NoIo z5 ∧ NoIo z6 ∧ NoIo z7 ∧ e = [.imm (.lst (s.map fr)), .imm (.lst (m.map rowF)), .own (.lst ((List.range i).map fun i => fr (bet1 s m i))), z3, z4, z5, z6, z7])
        (numbered 0 (s.map fr)) (k := 0) (env := [.imm (.lst (s.map fr)), .imm (.lst (m.map rowF)), .own (.lst []), .un, .un, .un, .un, .un]) ⟨.un, .un, .un, .un, .un, .inl rfl, .inl rfl, noio_un, noio_un, noio_un, rfl⟩ fun i hi e ⟨z3, z4, z5, z6, z7, h3, h4, h5, h6, h7, he⟩ => by
          subst he
          rw [numbered_len, List.length_map] at hi
          rw [Nat.zero_add]
          have hig : i < g := by rw [← H.len]; exact hi
          obtain ⟨z5', z6', z7', h5', h6', h7', o⟩ := bet_turn H hme hp hig (L := (List.range i).map fun i => fr (bet1 s m i)) (by rw [List.length_map, List.length_range]; have := H.g5; omega) h5 h6 h7
          rw [show (List.range i).map (fun i => fr (bet1 s m i)) ++ [fr (bet1 s m i)] = (List.range (i + 1)).map fun i => fr (bet1 s m i) by rw [List.range_succ, List.map_append]; rfl] at o
          refine ⟨_, _, ?_, o, .imm (ni i), .imm (fr (s.getD i 0)), z5', z6', z7', pl_imm _, pl_imm _, h5', h6', h7', rfl⟩
          rw [numbered_get0 (s.map fr) i (by rw [List.length_map]; exact hi) (by rw [numbered_len, List.length_map]; exact hi), List.getElem_map]
          have eg : s[i] = s.getD i 0 := by rw [List.getD_eq_getElem?_getD, List.getElem?_eq_getElem hi]; rfl
          rw [eg]
          exact gtup2 (s1 := z3) (s2 := z4) rfl h3.no rfl h4.no
      rw [he, Nat.zero_add, numbered_len, List.length_map] at l
      have eb : (List.range s.length).map (fun i => fr (bet1 s m i)) = (bet s m).map fr := by
        unfold bet
        rw [List.map_map]
        rfl
      rw [eb] at l
      have bl : (bet s m).length = g := by unfold bet; rw [List.length_map, List.length_range, H.len]
      have g0 := H.g0
      have g5 := H.g5
      obtain ⟨M, hM, hMle, bm⟩ := bmax_l (cs := (bet s m).map fun q => q.den) (by rw [List.length_map]; omega)
      rw [List.map_map] at bm
      have lc : lcLoop [4] (gSet 4) dYes (dIxS 4 (dC (.int 1))) ((bet s m).map fr) [.imm (.lst (s.map fr)), .imm (.lst (m.map rowF)), .imm (.lst ((bet s m).map fr)), z3, .un, z5, z6, z7] =
          .ok ((bet s m).map (ni ∘ fun q : Rat => q.den), [.imm (.lst (s.map fr)), .imm (.lst (m.map rowF)), .imm (.lst ((bet s m).map fr)), z3, .un, z5, z6, z7]) := lc_pure fr (ni ∘ fun q : Rat => q.den) (bet s m) fun q _ => by
        have x1 : opIx (fr q) (.int 1) = .ok (.imm (ni q.den)) := jxt1 _ _ _
        unfold lcTurn
        rw [gset_ok (s := .un) rfl noio_un]
        generalize fr q = Q at *
        generalize Dt.lst ((bet s m).map fr) = B1 at *
        generalize Dt.lst (s.map fr) = S at *
        generalize Dt.lst (m.map rowF) = MM at *
        simp only [List.set_cons_succ, List.set_cons_zero, Res.bind_ok, dYes, Res.hard, if_true, dIxS, List.getElem?_cons_succ, List.getElem?_cons_zero, Option.bind_some, slotD, Option.isNone_some, Bool.false_eq_true, if_false, dC, Val.d, x1, Res.map_ok, wipeE]
        rfl
      have dl := dlc_of (vs := [4]) (g := gSet 4) (t := dYes) (f := dIxS 4 (dC (.int 1))) (it := itSeq (dVar 2)) (env := [.imm (.lst (s.map fr)), .imm (.lst (m.map rowF)), .own (.lst ((bet s m).map fr)), z3, z4, z5, z6, z7]) (e1 := [.imm (.lst (s.map fr)), .imm (.lst (m.map rowF)), .imm (.lst ((bet s m).map fr)), z3, z4, z5, z6, z7]) rfl (by rcases h4 with rfl | ⟨q, rfl⟩ <;> rfl) (by rw [List.length_map, bl, sizeLine_is]; omega) lc
      have bk : backE [.imm (.lst (s.map fr)), .imm (.lst (m.map rowF)), .imm (.lst ((bet s m).map fr)), z3, z4, z5, z6, z7] [.imm (.lst (s.map fr)), .imm (.lst (m.map rowF)), .imm (.lst ((bet s m).map fr)), z3, .un, z5, z6, z7] [4] = [.imm (.lst (s.map fr)), .imm (.lst (m.map rowF)), .imm (.lst ((bet s m).map fr)), z3, z4, z5, z6, z7] := rfl
      rw [bk] at dl
      have P10 := ni_pow (a := 10) (b := 40) (by decide) (by decide)
      have P10 : opPow (.int 10) (.int 40) = .ok (.imm (ni (10 ^ 40))) := P10
      have cl := ni_lt M (10 ^ 40)
      have fo := for_of (it := itEnum (dVar 0)) (env := [.imm (.lst (s.map fr)), .imm (.lst (m.map rowF)), .own (.lst []), .un, .un, .un, .un, .un]) rfl l
      unfold betB dayPB at fo
      by_cases hlt : M < 10 ^ 40
      · rw [decide_eq_true hlt] at cl
        refine ⟨bet s m, .imm (.lst ((bet s m).map fr)), ?_, rfl, bet_mx H hme hp fun q hq => Nat.lt_of_le_of_lt (hMle _ (List.mem_map_of_mem hq)) hlt⟩
        unfold F__law_bettered b__law_bettered
        generalize hpw : (10 : Nat) ^ 40 = PW at *
        generalize (bet s m).map fr = BL at *
        generalize (bet s m).map (ni ∘ fun q : Rat => q.den) = DL at *
        generalize dLc [4] (itSeq (dVar 2)) (gSet 4) dYes (dIxS 4 (dC (.int 1))) = DLC at *
        generalize fr (worth s m) = W at *
        generalize (worth s m).num = WN at *
        generalize Dt.lst (s.map fr) = S at *
        generalize m.map rowF = MM at *
        simp [dTest, dBin, dVar, dC, dMove, dUn, dIf, dTru, dAnd, dOr, dNot, tAndD, tOrD, tNotD, dTup, dLst, aCons, aNil, aStar, dCallB, dCall, dIxS, asB, asTru, truD, Val.d, sSeq, seqK, sIf, sRet, sRetN, sExpr, sSet, setVal, sAsg, gDone, sPar, sNext, itRng1, itRng2, itSeq, gSet, gTupD, gsCons, gsNil, canSet, slotD, seqD, Src.d, Src.ok, asRes, runF, env0, outOf, sizeLine, Res.map, en, wo, x0, ez, fo, dl, bm, P10, cl, dMove]
      · rw [decide_eq_false hlt] at cl
        refine ⟨s, .imm (.lst (s.map fr)), ?_, rfl, mx_of H⟩
        unfold F__law_bettered b__law_bettered
        generalize hpw : (10 : Nat) ^ 40 = PW at *
        generalize (bet s m).map fr = BL at *
        generalize (bet s m).map (ni ∘ fun q : Rat => q.den) = DL at *
        generalize dLc [4] (itSeq (dVar 2)) (gSet 4) dYes (dIxS 4 (dC (.int 1))) = DLC at *
        generalize fr (worth s m) = W at *
        generalize (worth s m).num = WN at *
        generalize Dt.lst (s.map fr) = S at *
        generalize m.map rowF = MM at *
        simp [dTest, dBin, dVar, dC, dMove, dUn, dIf, dTru, dAnd, dOr, dNot, tAndD, tOrD, tNotD, dTup, dLst, aCons, aNil, aStar, dCallB, dCall, dIxS, asB, asTru, truD, Val.d, sSeq, seqK, sIf, sRet, sRetN, sExpr, sSet, setVal, sAsg, gDone, sPar, sNext, itRng1, itRng2, itSeq, gSet, gTupD, gsCons, gsNil, canSet, slotD, seqD, Src.d, Src.ok, asRes, runF, env0, outOf, sizeLine, Res.map, en, wo, x0, ez, fo, dl, bm, P10, cl, dMove]
end
end G


set_option maxRecDepth 100000
set_option maxHeartbeats 4000000
set_option exponentiation.threshold 30000
namespace G
open PySem PySem.Spec PyProof.Rows L2
/-! Rt18: the pen, drawn days. -/
/-- a pen that has drawn at most k cells -/
def Pen (k : Nat) (d : Dt) : Prop := ∃ ns pl rest, d = PenD ns pl rest ∧ pl ≤ k
theorem drawF_eq : F__law_draw = runF true 6 (drawB 2147483587 52121 7079 2147483563 6079 2147483549) := rfl
theorem drawP {k many : Nat} {d : Dt} (hd : Pen k d) (hk : k < 1000) (hm : 0 < many) (hm2 : many < 2 ^ 64) : ∃ r d', r < many ∧ Pen (k + 1) d' ∧ F__law_draw [d, ni many] = .ok (.imm (ni r), some d') := by
  obtain ⟨ns, pl, rest, rfl, hp⟩ := hd
  obtain ⟨r, pl', rest', h1, h2, h3⟩ := draw_ok (p1 := 2147483587) (c1 := 52121) (c2 := 7079) (p2 := 2147483563) (c3 := 6079) (p3 := 2147483549) (by decide) (by decide) (by decide) (by decide) (by decide) (by decide) (cs := ns) (pl := pl) (rest := rest) hm hm2 (by omega)
  exact ⟨r, _, h1, ⟨ns, pl', rest', rfl, by omega⟩, by rw [drawF_eq]; exact h3⟩
theorem oneP {k : Nat} {d : Dt} {ds : List Dt} (hd : Pen k d) (hk : k < 1000) (h0 : 0 < ds.length) (hl : ds.length < 2 ^ 64) : ∃ x ∈ ds, ∃ d', Pen (k + 1) d' ∧ F__law_one_of [d, .lst ds] = .ok (.imm x, some d') := by
  obtain ⟨r, d', h1, h2, h3⟩ := drawP hd hk h0 hl
  refine ⟨ds[r], List.getElem_mem h1, d', h2, ?_⟩
  have x := ix_l (List.getElem?_eq_getElem h1)
  unfold F__law_one_of b__law_one_of
  simp [dTest, dBin, dVar, dC, dMove, dUn, dIf, dTru, dAnd, dOr, dNot, tAndD, tOrD, tNotD, dTup, dLst, aCons, aNil, aStar, dCallB, dCall, dIxS, asB, asTru, truD, Val.d, sSeq, seqK, sIf, sRet, sRetN, sExpr, sSet, setVal, sAsg, gDone, sPar, sNext, itRng1, itRng2, itSeq, gSet, gTupD, gsCons, gsNil, canSet, slotD, seqD, Src.d, Src.ok, asRes, runF, env0, outOf, sizeLine, Res.map, ni_add, ni_gt, ni_lt, ni_le, ni_ge, ni_abs, ni_int, ni_eq, ni_ne, ni_isi, ni_isb, bLen_l, bLen_t, ixt0, ixt1, ixl0, ixl1, ixl2, lit0, lit1, lit2, dCallIo, isOwn, asIo, h3, asResIo, x]
/-- a slot that holds the pen -/
def PS (s : Slot) (d : Dt) (mk : Dt → Slot) : Prop := s = mk d ∧ (mk = .own ∨ mk = .io)
theorem drawC {i k many : Nat} {d : Dt} {mk : Dt → Slot} {env e : Env'} {f : DE} {v : Val} (hmk : mk = Slot.own ∨ mk = Slot.io) (hi : (env[i]?.map isOwn) = some true) (hf : f env = .ok (v, e)) (hv : v.d = ni many) (he : e[i]? = some (mk d)) (hd : Pen k d) (hk : k < 1000) (hm : 0 < many) (hm2 : many < 2 ^ 64) :
    ∃ r d', r < many ∧ Pen (k + 1) d' ∧ dCallIo i 2 F__law_draw (aCons f aNil) env = .ok (.imm (ni r), e.set i (mk d')) := by
  obtain ⟨r, d', h1, h2, h3⟩ := drawP hd hk hm hm2
  refine ⟨r, d', h1, h2, ?_⟩
  unfold dCallIo
  rw [if_pos hi]
  rcases hmk with rfl | rfl <;> simp [aCons, aNil, hf, hv, asIo, he, h3, asResIo]
theorem oneC {i k : Nat} {d : Dt} {ds : List Dt} {mk : Dt → Slot} {env e : Env'} {f : DE} {v : Val} (hmk : mk = Slot.own ∨ mk = Slot.io) (hi : (env[i]?.map isOwn) = some true) (hf : f env = .ok (v, e)) (hv : v.d = .lst ds) (he : e[i]? = some (mk d)) (hd : Pen k d) (hk : k < 1000) (h0 : 0 < ds.length) (hl : ds.length < 2 ^ 64) :
    ∃ x ∈ ds, ∃ d', Pen (k + 1) d' ∧ dCallIo i 2 F__law_one_of (aCons f aNil) env = .ok (.imm x, e.set i (mk d')) := by
  obtain ⟨x, hx, d', h2, h3⟩ := oneP hd hk h0 hl
  refine ⟨x, hx, d', h2, ?_⟩
  unfold dCallIo
  rw [if_pos hi]
  rcases hmk with rfl | rfl <;> simp [aCons, aNil, hf, hv, asIo, he, h3, asResIo]
theorem pen_ok (ns : List Int) : ∃ d, Pen 0 d ∧ F__law_pen [.scr ns] = .ok (.fresh d, none) := by
  refine ⟨PenD (ns.take 59) 0 0, ⟨_, _, _, rfl, Nat.le_refl _⟩, ?_⟩
  have hz : sizeLine = 16777216 := by decide
  have c : cutG (ns.map Dt.int) none (some (59 : Int)) = (ns.take 59).map .int := by
    have := cut_takeR (ns.map Dt.int) 59
    rw [List.map_take]
    exact this
  have it : itSeq (dSl (dVar 0) oNone (oSome (dC (.int 59)))) [.imm (.scr ns), .un] = .ok ((ns.take 59).map .int, [.imm (.scr ns), .un]) := by
    have o : slD (.scr ns) none (some (59 : Int)) = .ok (.fresh (.lst ((ns.take 59).map .int))) := by
      show Res.ok (Val.fresh (Dt.lst (cutG (ns.map Dt.int) none (some (59 : Int))))) = _
      rw [c]
    simp only [itSeq, dSl, dVar, oNone, oSome, dC, asI, List.getElem?_cons_zero, Res.bind_ok, Val.d, o, Res.map_ok, seqD]
  have l : lcLoop [1] (gSet 1) dYes (dCallB bInt (aCons (dVar 1) aNil)) ((ns.take 59).map .int) [.imm (.scr ns), .un] = .ok ((ns.take 59).map .int, [.imm (.scr ns), .un]) := lc_pure Dt.int Dt.int (ns.take 59) fun i _ => rfl
  have hl : ((ns.take 59).map Dt.int).length ≤ 16777216 := by rw [List.length_map, List.length_take]; omega
  have dl := dlc_of (vs := [1]) (g := gSet 1) (t := dYes) it rfl (by rw [hz]; exact hl) l
  unfold F__law_pen b__law_pen PenD
  generalize (ns.take 59).map Dt.int = L at *
  simp only [runF, env0, List.length_cons, List.length_nil, Nat.zero_add, Nat.reduceSub, List.map_cons, List.map_nil, List.replicate, List.cons_append, List.nil_append, sRet, dLst, aCons, aNil] at dl ⊢
  rw [dl]
  rfl
/-! a comprehension that counts its turns -/
theorem lc_count {α : Type} {vs : List Nat} {g : DG} {t : DT} {f : DE} (nf : α → Dt) (P : Nat → Env' → Prop) (R : Dt → Prop) : ∀ (xs : List α) {k : Nat} {env : Env'}, P k env →
    (∀ x ∈ xs, ∀ i e, i < k + xs.length → P i e → ∃ d e', lcTurn vs g t f (nf x) e = .ok (some d, e') ∧ R d ∧ P (i + 1) e') → ∃ ds e', lcLoop vs g t f (xs.map nf) env = .ok (ds, e') ∧ ds.length = xs.length ∧ (∀ d ∈ ds, R d) ∧ P (k + xs.length) e'
  | [], k, env, h0, _ => ⟨[], env, rfl, rfl, fun _ h => (nomatch h), h0⟩
  | x :: xs, k, env, h0, h => by
    obtain ⟨d, e1, h1, h2, h3⟩ := h x List.mem_cons_self k env (by rw [List.length_cons]; omega) h0
    obtain ⟨ds, e2, h4, h5, h6, h7⟩ := lc_count nf P R xs (k := k + 1) h3 fun y hy i e hi pe => h y (List.mem_cons_of_mem _ hy) i e (by rw [List.length_cons]; omega) pe
    refine ⟨d :: ds, e2, ?_, by rw [List.length_cons, List.length_cons, h5], fun z hz => ?_, by rw [List.length_cons, show k + (xs.length + 1) = k + 1 + xs.length by omega]; exact h7⟩
    · rw [List.map_cons]
      unfold lcLoop
      rw [h1, Res.bind_ok, h4]
      rfl
    · rcases List.mem_cons.mp hz with rfl | hz
      · exact h2
      · exact h6 z hz
/-! a day -/
abbrev EE : Nat := 6
abbrev BB : Nat := 2 ^ 42
def DayQ (d : Dt) : Prop := ∃ q : Rat, d = fr q ∧ Bz EE BB q ∧ 0 ≤ q
theorem dayQ_of {a : Int} {b : Nat} (hb : 0 < b) (h1 : ((a : Rat) / (b : Rat)).num = a) (h2 : ((a : Rat) / (b : Rat)).den = b) (ha : 0 ≤ a) (h3 : Bz EE BB ((a : Rat) / (b : Rat))) : DayQ (.tup [.int a, .int b]) := by
  refine ⟨(a : Rat) / (b : Rat), ?_, h3, ?_⟩
  · unfold fr
    rw [h1, h2]
  · exact Rat.num_nonneg.mp (by rw [h1]; exact ha)
theorem dayQ_int (k : Nat) (h : k * 6 ≤ 2 ^ 42) : DayQ (.tup [ni k, .int 1]) := ⟨(k : Rat), rfl, (Bz.nat k (by decide)).mono h, by
  have : (0 : Rat) = ((0 : Nat) : Rat) := rfl
  rw [this]
  exact_mod_cast Nat.zero_le k⟩
theorem row_of_days {g : Nat} : ∀ {ds : List Dt}, ds.length = g → (∀ d ∈ ds, DayQ d) → ∃ x : List Rat, ds = x.map fr ∧ RowB g EE BB x
  | [], h, _ => ⟨[], rfl, h, fun _ h => (nomatch h)⟩
  | d :: ds, h, k => by
    obtain ⟨q, rfl, h1, h2⟩ := k d List.mem_cons_self
    obtain ⟨x, rfl, h3, h4⟩ := row_of_days (g := ds.length) rfl fun y hy => k y (List.mem_cons_of_mem _ hy)
    refine ⟨q :: x, rfl, by rw [← h, List.length_cons, List.length_cons, h3], fun y hy => ?_⟩
    rcases List.mem_cons.mp hy with rfl | hy
    · exact ⟨h1, h2⟩
    · exact h4 y hy
end G


set_option maxRecDepth 100000
set_option maxHeartbeats 4000000
set_option exponentiation.threshold 30000
namespace G
open PySem PySem.Spec PyProof.Rows L2
/-! Rt19: a drawn day; sizes. -/
def dayE : DE := (dCallIo 0 2 F__law_one_of (aCons (dLst (aCons (dTup (aCons (dC (.int 1)) (aCons (dC (.int 1)) aNil))) (aCons (dTup (aCons (dC (.int 2)) (aCons (dC (.int 1)) aNil))) (aCons (dTup (aCons (dC (.int 0)) (aCons (dC (.int 1)) aNil))) (aCons (dTup (aCons (dC (.int 1)) (aCons (dC (.int 2)) aNil))) (aCons (dTup (aCons (dC (.int 3)) (aCons (dC (.int 2)) aNil))) (aCons (dTup (aCons (dCallIo 0 2 F__law_draw (aCons (dC (.int 9)) aNil)) (aCons (dC (.int 1)) aNil))) (aCons (dTup (aCons (dBin opAdd (dBin opPow (dC (.int 10)) (dC (.int 12))) (dC (.int 1))) (aCons (dC (.int 3)) aNil))) aNil)))))))) aNil))
theorem day_eq : F__law_day = runF true 3 (sRet (dLc [2] (itRng1 (aCons (dVar 1) aNil)) (gSet 2) dYes dayE)) := rfl
def dayL (k : Nat) : List Dt := [.tup [.int 1, .int 1], .tup [.int 2, .int 1], .tup [.int 0, .int 1], .tup [.int 1, .int 2], .tup [.int 3, .int 2], .tup [ni k, .int 1], .tup [.int 1000000000001, .int 3]]
theorem dayL_q {k : Nat} (hk : k < 9) : ∀ d ∈ dayL k, DayQ d := fun d hd => by
  have bz : ∀ (a : Int) (b : Nat), 0 < b → 6 % b = 0 → a.natAbs * (6 / b) ≤ 2 ^ 42 → Bz EE BB ((a : Rat) / (b : Rat)) := fun a b hb h6 hn => by
    have h := (Bz.ofDiv a hb).wide (k := 6 / b) (by
      have := Nat.div_add_mod 6 b
      rw [h6] at this
      rcases Nat.eq_zero_or_pos (6 / b) with z | z
      · rw [z] at this; omega
      · exact z)
    have e : b * (6 / b) = 6 := by
      have := Nat.div_add_mod 6 b
      omega
    rw [e] at h
    exact h.mono hn
  simp only [dayL, List.mem_cons, List.not_mem_nil, or_false] at hd
  rcases hd with rfl | rfl | rfl | rfl | rfl | rfl | rfl
  · exact dayQ_int 1 (by decide)
  · exact dayQ_int 2 (by decide)
  · exact dayQ_int 0 (by decide)
  · exact dayQ_of (a := 1) (b := 2) (by decide) (by decide +kernel) (by decide +kernel) (by decide) (bz 1 2 (by decide) (by decide) (by decide))
  · exact dayQ_of (a := 3) (b := 2) (by decide) (by decide +kernel) (by decide +kernel) (by decide) (bz 3 2 (by decide) (by decide) (by decide))
  · exact dayQ_int k (by omega)
  · exact dayQ_of (a := 1000000000001) (b := 3) (by decide) (by decide +kernel) (by decide +kernel) (by decide) (bz 1000000000001 3 (by decide) (by decide) (by decide))
theorem dayE_ok {k : Nat} {d : Dt} (hd : Pen k d) (hk : k < 900) {s1 s2 : Slot} : ∃ x d', DayQ x ∧ Pen (k + 2) d' ∧ dayE [.io d, s1, s2] = .ok (.imm x, [.io d', s1, s2]) := by
  obtain ⟨r, d1, hr, p1, e1⟩ := drawC (i := 0) (k := k) (many := 9) (d := d) (mk := Slot.io) (env := [.io d, s1, s2]) (e := [.io d, s1, s2]) (f := dC (.int 9)) (v := .imm (ni 9)) (.inr rfl) rfl rfl rfl rfl hd (by omega) (by decide) (by decide)
  have pw : opPow (.int 10) (.int 12) = .ok (.imm (.int 1000000000000)) := ni_pow (a := 10) (b := 12) (by decide) (by decide)
  have ls : (dLst (aCons (dTup (aCons (dC (.int 1)) (aCons (dC (.int 1)) aNil))) (aCons (dTup (aCons (dC (.int 2)) (aCons (dC (.int 1)) aNil))) (aCons (dTup (aCons (dC (.int 0)) (aCons (dC (.int 1)) aNil))) (aCons (dTup (aCons (dC (.int 1)) (aCons (dC (.int 2)) aNil))) (aCons (dTup (aCons (dC (.int 3)) (aCons (dC (.int 2)) aNil))) (aCons (dTup (aCons (dCallIo 0 2 F__law_draw (aCons (dC (.int 9)) aNil)) (aCons (dC (.int 1)) aNil))) (aCons (dTup (aCons (dBin opAdd (dBin opPow (dC (.int 10)) (dC (.int 12))) (dC (.int 1))) (aCons (dC (.int 3)) aNil))) aNil)))))))) [.io d, s1, s2] = .ok (.fresh (.lst (dayL r)), [.io d1, s1, s2]) := by
    generalize dCallIo 0 2 F__law_draw (aCons (dC (.int 9)) aNil) = D9 at e1 ⊢
    have a1 : opAdd (.int 1000000000000) (.int 1) = .ok (.imm (.int 1000000000001)) := rfl
    simp [dLst, dTup, aCons, aNil, dC, dBin, Val.d, e1, pw, a1, sizeLine_is, dayL]
  obtain ⟨x, hx, d2, p2, e2⟩ := oneC (i := 0) (k := k + 1) (d := d1) (mk := Slot.io) (env := [.io d, s1, s2]) (.inr rfl) rfl ls rfl rfl p1 (by omega) (by simp [dayL]) (by simp [dayL])
  exact ⟨x, d2, dayL_q hr x hx, p2, e2⟩
theorem day_okL {k g : Nat} {d : Dt} (hd : Pen k d) (hg : g ≤ 5) (hk : k + 10 < 900) : ∃ x d', RowB g EE BB x ∧ Pen (k + 10) d' ∧ F__law_day [d, ni g] = .ok (.fresh (rowF x), some d') := by
  obtain ⟨ds, e', l, h1, h2, d', hp, he⟩ := lc_count (vs := [2]) (g := gSet 2) (t := dYes) (f := dayE) ni (fun i e => ∃ d, Pen (k + 2 * i) d ∧ e = [.io d, .imm (ni g), .un]) DayQ (List.range g) (k := 0) (env := [.io d, .imm (ni g), .un]) ⟨d, hd, rfl⟩ fun j hj i e hi ⟨d, hd, he⟩ => by
    subst he
    rw [List.length_range, Nat.zero_add] at hi
    obtain ⟨x, d', hx, hp, e1⟩ := dayE_ok (s1 := .imm (ni g)) (s2 := .imm (ni j)) hd (by omega)
    refine ⟨x, [.io d', .imm (ni g), .un], ?_, hx, d', by rw [show k + 2 * (i + 1) = k + 2 * i + 2 by omega]; exact hp, rfl⟩
    unfold lcTurn
    rw [gset_ok (s := .un) rfl noio_un]
    simp only [List.set_cons_succ, List.set_cons_zero, Res.bind_ok, dYes, Res.hard, if_true, e1, wipeE, Val.d]
  rw [List.length_range] at h1
  rw [List.length_range, Nat.zero_add] at hp
  obtain ⟨x, rfl, hr⟩ := row_of_days h1 h2
  obtain ⟨ns, pl, rest, e0, hpl⟩ := hp
  refine ⟨x, d', hr, ⟨ns, pl, rest, e0, by omega⟩, ?_⟩
  have dl := dlc_of (vs := [2]) (g := gSet 2) (t := dYes) (f := dayE) (rng1_okR (i := 1) (env := [.io d, .imm (ni g), .un]) (n := g) rfl (by omega)) rfl (by rw [List.length_map, List.length_range, sizeLine_is]; omega) l
  rw [day_eq]
  unfold runF
  rw [show env0 true 3 [d, ni g] = [.io d, .imm (ni g), .un] from rfl]
  unfold sRet
  rw [dl, he]
  rfl
/-! sizes -/
theorem two_pow {a b : Nat} (h : a ≤ b) : (2 : Nat) ^ a ≤ 2 ^ b := Nat.pow_le_pow_right (by decide) h
theorem few_ok : ∀ g, g ≤ 4 → ∀ n, n ≤ 13 → ch (n + g - 1) (g - 1) ≤ 5000 := by decide +kernel
theorem fits_of {g E B n : Nat} (g0 : 0 < g) (g4 : g ≤ 4) (hn : n ≤ 12) (E0 : 0 < E) (E8 : E ≤ 8) (B0 : 0 < B) (B42 : B ≤ 2 ^ 42) : Fits g E B n := by
  have a1 : g ^ n ≤ 2 ^ 24 := Nat.le_trans (Nat.pow_le_pow_left g4 n) (Nat.le_trans (Nat.pow_le_pow_right (by decide) hn) (by decide))
  have a2 : E ^ n ≤ 2 ^ 36 := Nat.le_trans (Nat.pow_le_pow_left E8 n) (Nat.le_trans (Nat.pow_le_pow_right (by decide) hn) (by decide))
  have a3 : g ^ n * B ≤ 2 ^ 66 := by
    have := Nat.mul_le_mul a1 B42
    rw [← Nat.pow_add] at this
    exact this
  have a4 : NN g B n ≤ 2 ^ 792 := by
    refine Nat.le_trans (NN_le g0 B0 n) (Nat.le_trans (Nat.pow_le_pow_left a3 n) ?_)
    rw [← Nat.pow_mul]
    exact two_pow (by omega)
  have a5 : fac (g + n) ≤ 2 ^ 64 := Nat.le_of_lt (fac_sz (by omega))
  have lt : ∀ {x k : Nat}, x ≤ 2 ^ k → k < 6000 → x < 2 ^ 6000 := fun h hk => Nat.lt_of_le_of_lt h (Nat.pow_lt_pow_right (by decide) hk)
  refine { g0 := g0, g5 := by omega, E0 := E0, B0 := B0, n1 := by omega, len := Nat.le_trans a1 (by decide), den := lt a2 (by decide), num := lt a4 (by decide), n2 := by omega, den2 := ?_, num2 := ?_, few := few_ok g g4 n (by omega) }
  · have := Nat.mul_le_mul a2 a5
    rw [← Nat.pow_add] at this
    exact lt this (by decide)
  · have := Nat.mul_le_mul a1 (Nat.mul_le_mul a4 a5)
    rw [← Nat.pow_add, ← Nat.pow_add] at this
    exact lt this (by decide)
theorem fitL_of {g E B n : Nat} (g0 : 0 < g) (g4 : g ≤ 4) (hn : n ≤ 10) (E0 : 0 < E) (E8 : E ≤ 8) (B0 : 0 < B) (B42 : B ≤ 2 ^ 42) : FitL g E B n := by
  have F := fits_of g0 g4 (show n ≤ 12 by omega) E0 E8 B0 B42
  have a1 : g ^ n ≤ 2 ^ 20 := Nat.le_trans (Nat.pow_le_pow_left g4 n) (Nat.le_trans (Nat.pow_le_pow_right (by decide) hn) (by decide))
  have a2 : E ^ n ≤ 2 ^ 36 := Nat.le_trans (Nat.pow_le_pow_left E8 n) (Nat.le_trans (Nat.pow_le_pow_right (by decide) (show n ≤ 12 by omega)) (by decide))
  have a3 : ∀ k, k ≤ n → B ^ k ≤ 2 ^ 420 := fun k hk => by
    refine Nat.le_trans (Nat.pow_le_pow_left B42 k) ?_
    rw [← Nat.pow_mul]
    exact two_pow (by omega)
  have a5 : fac (g + n) ≤ 2 ^ 64 := Nat.le_of_lt (fac_sz (by omega))
  have lt : ∀ {x k : Nat}, x ≤ 2 ^ k → k < 6000 → x < 2 ^ 6000 := fun h hk => Nat.lt_of_le_of_lt h (Nat.pow_lt_pow_right (by decide) hk)
  refine { f0 := F, f1 := fits_of g0 g4 (by omega) E0 E8 B0 B42, w1 := a1, den := ?_, num := ?_, Bp := fun k hk => lt (a3 k hk) (by decide) }
  · have := Nat.mul_le_mul (Nat.mul_le_mul a2 a5) (show E ≤ 2 ^ 3 from E8)
    rw [← Nat.pow_add, ← Nat.pow_add] at this
    exact lt this (by decide)
  · have := Nat.mul_le_mul (show 5 ≤ 2 ^ 3 by decide) (Nat.mul_le_mul (Nat.mul_le_mul a1 (Nat.mul_le_mul (a3 n (Nat.le_refl _)) a5)) B42)
    rw [← Nat.pow_add, ← Nat.pow_add, ← Nat.pow_add, ← Nat.pow_add] at this
    exact lt this (by decide)
end G


set_option maxRecDepth 100000
set_option maxHeartbeats 4000000
set_option exponentiation.threshold 30000
namespace G
open PySem PySem.Spec PyProof.Rows L2
/-! Rs7: drawn mixes. -/
theorem repN (d : Dt) {n : Nat} (hn : n ≤ 1000) : opMul (.lst [d]) (ni n) = .ok (.fresh (.lst (List.replicate n d))) := by
  have h : ((n : Int)).natAbs < 2 ^ 63 ∧ ([d].length * (n : Int).toNat ≤ sizeLine) := ⟨by rw [Int.natAbs_natCast]; omega, by rw [sizeLine_is]; simp; omega⟩
  show (if ((n : Int)).natAbs < 2 ^ 63 ∧ [d].length * (n : Int).toNat ≤ sizeLine then Res.ok (Val.fresh (.lst (List.replicate (n : Int).toNat [d]).flatten)) else .bad) = _
  rw [if_pos h, Int.toNat_natCast]
  congr 3
  induction n with
  | zero => rfl
  | succ n ih =>
    have ih := ih (by omega) ⟨by rw [Int.natAbs_natCast]; omega, by rw [sizeLine_is]; simp; omega⟩
    rw [List.replicate_succ, List.flatten_cons, ih]
    rfl
theorem catL {a b : List Dt} (h : a.length + b.length ≤ 1000) : opAdd (.lst a) (.lst b) = .ok (.fresh (.lst (a ++ b))) := by
  show (if a.length + b.length ≤ sizeLine then Res.ok (Val.fresh (.lst (a ++ b))) else .bad) = _
  rw [if_pos (by rw [sizeLine_is]; omega)]
theorem bsum_l (cs : List Nat) : bSum [.lst (cs.map ni)] = .ok (.imm (ni cs.sum)) := by
  have e : ((cs.map fun c : Nat => (c : Int)).sum) = (cs.sum : Int) := by
    induction cs with
    | nil => rfl
    | cons c cs ih => rw [List.map_cons, List.sum_cons, List.sum_cons, ih, Int.natCast_add]
  show (match intsD (cs.map ni) with
    | some ns => vI ns.sum
    | none => Res.bad) = _
  rw [intsD_ni]
  show vI _ = .ok (.imm (.int (cs.sum : Int)))
  rw [e]
  rfl
theorem ints_of {p : Nat → Prop} : ∀ {ds : List Dt}, (∀ d ∈ ds, ∃ i, p i ∧ d = ni i) → ∃ w : List Nat, ds = w.map ni ∧ ∀ i ∈ w, p i
  | [], _ => ⟨[], rfl, fun _ h => (nomatch h)⟩
  | d :: ds, k => by
    obtain ⟨i, hi, rfl⟩ := k d List.mem_cons_self
    obtain ⟨w, rfl, h⟩ := ints_of fun y hy => k y (List.mem_cons_of_mem _ hy)
    refine ⟨i :: w, rfl, fun y hy => ?_⟩
    rcases List.mem_cons.mp hy with rfl | hy
    · exact hi
    · exact h y hy
/-- shares of some numbers -/
def shr (cs : List Nat) : List Rat := cs.map fun c : Nat => (c : Rat) / (cs.sum : Rat)
theorem sum_le : ∀ {cs : List Nat}, (∀ c ∈ cs, c ≤ 3) → cs.sum ≤ 3 * cs.length
  | [], _ => by simp
  | c :: cs, h => by
    have h1 := h c List.mem_cons_self
    have h2 := sum_le fun x hx => h x (List.mem_cons_of_mem _ hx)
    rw [List.sum_cons, List.length_cons]
    omega
theorem shr_one {cs : List Nat} (h : 0 < cs.sum) : rsum (shr cs) = 1 := by
  have n := ratD h
  unfold shr
  have e : (cs.map fun c : Nat => (c : Rat) / (cs.sum : Rat)) = cs.map fun c : Nat => ((1 : Rat) / (cs.sum : Rat)) * (c : Rat) := List.map_congr_left fun c _ => by grind
  rw [e, rsum_map_mul, rsum_nat]
  grind
theorem shr_bt {cs : List Nat} (h : 0 < cs.sum) (h2 : cs.sum ≤ 2 ^ 4) (h3 : ∀ c ∈ cs, c ≤ 3) : ∀ q ∈ shr cs, 0 ≤ q ∧ Bt 4 q := fun q hq => by
  obtain ⟨c, hc, rfl⟩ := List.mem_map.mp hq
  have b := Bz.ofDiv (c : Int) h
  rw [Rat.intCast_natCast] at b
  refine ⟨?_, b.bt h2 (by have := h3 c hc; rw [Int.natAbs_natCast]; omega)⟩
  rw [Rat.div_def]
  refine Rat.mul_nonneg ?_ (Rat.le_of_lt (Rat.inv_pos.mpr (by exact_mod_cast h)))
  have e : (0 : Rat) = ((0 : Nat) : Rat) := rfl
  rw [e]
  exact_mod_cast Nat.zero_le c
def mixA : DE := (dLc [3] (itRng1 (aCons (dVar 1) aNil)) (gSet 3) dYes (dCallIo 0 2 F__law_draw (aCons (dC (.int 4)) aNil)))
def mixB : DE := (dBin opMul (dLst (aCons (dC (.int 1)) aNil)) (dVar 1))
def mixC : DE := (dLc [3] (itRng1 (aCons (dVar 1) aNil)) (gSet 3) dYes (dCallB bInt (aCons (dBin (eqS false) (dVar 3) (dBin opSub (dVar 1) (dC (.int 1)))) aNil)))
section
variable {g k : Nat} {d : Dt}
theorem mixA_ok (hd : Pen k d) (hg : g ≤ 5) (hk : k + 10 < 900) : ∃ (cs : List Nat) (d' : Dt), cs.length = g ∧ (∀ c ∈ cs, c ≤ 3) ∧ Pen (k + 5) d' ∧ mixA [.io d, .imm (ni g), .un, .un, .un] = .ok (.fresh (.lst (cs.map ni)), [.io d', .imm (ni g), .un, .un, .un]) := by
  obtain ⟨ds, e', l, h1, h2, d', hp, he⟩ := lc_count (vs := [3]) (g := gSet 3) (t := dYes) (f := dCallIo 0 2 F__law_draw (aCons (dC (.int 4)) aNil)) ni (fun i e => ∃ d, Pen (k + i) d ∧ e = [.io d, .imm (ni g), .un, .un, .un]) (fun d => ∃ c, c ≤ 3 ∧ d = ni c) (List.range g) (k := 0) (env := [.io d, .imm (ni g), .un, .un, .un]) ⟨d, hd, rfl⟩ fun j hj i e hi ⟨d, hd, he⟩ => by
    subst he
    rw [List.length_range, Nat.zero_add] at hi
    obtain ⟨r, d', hr, hp, e1⟩ := drawC (i := 0) (k := k + i) (many := 4) (d := d) (mk := Slot.io) (env := [.io d, .imm (ni g), .un, .imm (ni j), .un]) (e := [.io d, .imm (ni g), .un, .imm (ni j), .un]) (f := dC (.int 4)) (v := .imm (ni 4)) (.inr rfl) rfl rfl rfl rfl hd (by omega) (by decide) (by decide)
    refine ⟨ni r, [.io d', .imm (ni g), .un, .un, .un], ?_, ⟨r, by omega, rfl⟩, d', hp, rfl⟩
    unfold lcTurn
    rw [gset_ok (s := .un) rfl noio_un]
    generalize dCallIo 0 2 F__law_draw (aCons (dC (.int 4)) aNil) = D4 at e1 ⊢
    simp only [List.set_cons_succ, List.set_cons_zero, Res.bind_ok, dYes, Res.hard, if_true, e1, wipeE, Val.d]
  rw [List.length_range] at h1
  rw [List.length_range, Nat.zero_add] at hp
  obtain ⟨cs, rfl, hc⟩ := ints_of h2
  rw [List.length_map] at h1
  obtain ⟨ns, pl, rest, ep, hpl⟩ := hp
  refine ⟨cs, d', h1, hc, ⟨ns, pl, rest, ep, by omega⟩, ?_⟩
  have dl := dlc_of (vs := [3]) (g := gSet 3) (t := dYes) (rng1_okR (i := 1) (env := [.io d, .imm (ni g), .un, .un, .un]) (n := g) rfl (by omega)) rfl (by rw [List.length_map, List.length_range, sizeLine_is]; omega) l
  unfold mixA
  rw [dl, he]
  rfl
theorem mixB_ok (hg : g ≤ 5) {s0 s2 s3 s4 : Slot} : mixB [s0, .imm (ni g), s2, s3, s4] = .ok (.fresh (.lst ((List.replicate g 1).map ni)), [s0, .imm (ni g), s2, s3, s4]) := by
  have r := repN (.int 1) (n := g) (by omega)
  rw [List.map_replicate]
  have r : opMul (.lst [.int 1]) (ni g) = .ok (.fresh (.lst (List.replicate g (ni 1)))) := r
  unfold mixB
  generalize List.replicate g (ni 1) = R at *
  simp [dTest, dBin, dVar, dC, dMove, dUn, dIf, dTru, dAnd, dOr, dNot, tAndD, tOrD, tNotD, dTup, dLst, aCons, aNil, aStar, dCallB, dCall, dIxS, asB, asTru, truD, Val.d, sSeq, seqK, sIf, sRet, sRetN, sExpr, sSet, setVal, sAsg, gDone, sPar, sNext, itRng1, itRng2, itSeq, gSet, gTupD, gsCons, gsNil, canSet, slotD, seqD, Src.d, Src.ok, asRes, runF, env0, outOf, sizeLine, Res.map, r]
theorem mixC_ok (g0 : 0 < g) (hg : g ≤ 5) {s0 s4 : Slot} : mixC [s0, .imm (ni g), .un, .un, s4] = .ok (.fresh (.lst (((List.range g).map fun j => if j = g - 1 then 1 else 0).map ni)), [s0, .imm (ni g), .un, .un, s4]) := by
  have sb := ni_sub (a := g) (b := 1) g0
  have sb : opSub (ni g) (.int 1) = .ok (.imm (ni (g - 1))) := sb
  have lc : lcLoop [3] (gSet 3) dYes (dCallB bInt (aCons (dBin (eqS false) (dVar 3) (dBin opSub (dVar 1) (dC (.int 1)))) aNil)) ((List.range g).map ni) [s0, .imm (ni g), .un, .un, s4] = .ok ((List.range g).map fun j => ni (if j = g - 1 then 1 else 0), [s0, .imm (ni g), .un, .un, s4]) := lc_pure ni (fun j => ni (if j = g - 1 then 1 else 0)) (List.range g) fun j _ => by
    by_cases h : j = g - 1
    · simp [lcTurn, dYes, Res.hard, wipeE, dTest, dBin, dVar, dC, dMove, dUn, dIf, dTru, dAnd, dOr, dNot, tAndD, tOrD, tNotD, dTup, dLst, aCons, aNil, aStar, dCallB, dCall, dIxS, asB, asTru, truD, Val.d, sSeq, seqK, sIf, sRet, sRetN, sExpr, sSet, setVal, sAsg, gDone, sPar, sNext, itRng1, itRng2, itSeq, gSet, gTupD, gsCons, gsNil, canSet, slotD, seqD, Src.d, Src.ok, asRes, runF, env0, outOf, sizeLine, Res.map, sb, ni_eq, h, b_int]
    · simp [lcTurn, dYes, Res.hard, wipeE, dTest, dBin, dVar, dC, dMove, dUn, dIf, dTru, dAnd, dOr, dNot, tAndD, tOrD, tNotD, dTup, dLst, aCons, aNil, aStar, dCallB, dCall, dIxS, asB, asTru, truD, Val.d, sSeq, seqK, sIf, sRet, sRetN, sExpr, sSet, setVal, sAsg, gDone, sPar, sNext, itRng1, itRng2, itSeq, gSet, gTupD, gsCons, gsNil, canSet, slotD, seqD, Src.d, Src.ok, asRes, runF, env0, outOf, sizeLine, Res.map, sb, ni_eq, h, b_int]
  have dl := dlc_of (vs := [3]) (g := gSet 3) (t := dYes) (rng1_okR (i := 1) (env := [s0, .imm (ni g), .un, .un, s4]) (n := g) rfl (by omega)) rfl (by rw [List.length_map, List.length_range, sizeLine_is]; omega) lc
  rw [List.map_map]
  unfold mixC
  rw [dl]
  rfl
theorem mix_ok (hd : Pen k d) (g0 : 0 < g) (hg : g ≤ 5) (hk : k + 10 < 900) : ∃ (cs : List Nat) (d' : Dt), cs.length = g ∧ (∀ c ∈ cs, c ≤ 3) ∧ 0 < cs.sum ∧ Pen (k + 6) d' ∧ F__law_mix [d, ni g] = .ok (.fresh (.lst ((shr cs).map fr)), some d') := by
  obtain ⟨a, d1, ha1, ha2, p1, ea⟩ := mixA_ok hd hg hk
  have eb := mixB_ok hg (s0 := .io d1) (s2 := .un) (s3 := .un) (s4 := .un)
  have ec := mixC_ok g0 hg (s0 := .io d1) (s4 := .un)
  have ls : (dLst (aCons mixA (aCons mixB (aCons mixC aNil)))) [.io d, .imm (ni g), .un, .un, .un] = .ok (.fresh (.lst [.lst (a.map ni), .lst ((List.replicate g 1).map ni), .lst (((List.range g).map fun j => if j = g - 1 then 1 else 0).map ni)]), [.io d1, .imm (ni g), .un, .un, .un]) := by
    simp only [dLst, aCons, aNil, ea, Res.bind_ok, eb, ec, Val.d, List.length_cons, List.length_nil, Nat.zero_add, Nat.reduceAdd, sizeLine_is, Nat.reduceLeDiff, if_true]
  obtain ⟨x, hx, d2, p2, e1⟩ := oneC (i := 0) (k := k + 5) (d := d1) (mk := Slot.io) (.inr rfl) rfl ls rfl rfl p1 (by omega) (by simp) (by simp)
  obtain ⟨bs, hb1, hb2, rfl⟩ : ∃ bs : List Nat, bs.length = g ∧ (∀ c ∈ bs, c ≤ 3) ∧ x = .lst (bs.map ni) := by
    simp only [List.mem_cons, List.not_mem_nil, or_false] at hx
    rcases hx with rfl | rfl | rfl
    · exact ⟨a, ha1, ha2, rfl⟩
    · exact ⟨_, List.length_replicate, fun c hc => by rw [(List.mem_replicate.mp hc).2]; decide, rfl⟩
    · refine ⟨_, by rw [List.length_map, List.length_range], fun c hc => ?_, rfl⟩
      obtain ⟨j, _, rfl⟩ := List.mem_map.mp hc
      split <;> decide
  -- the sum above 0
  have s1 : sSet 2 (dCallIo 0 2 F__law_one_of (aCons (dLst (aCons mixA (aCons mixB (aCons mixC aNil)))) aNil)) [.io d, .imm (ni g), .un, .un, .un] = .ok (.nx, [.io d2, .imm (ni g), .imm (.lst (bs.map ni)), .un, .un]) := set_imm (e := [.io d2, .imm (ni g), .un, .un, .un]) (s := .un) e1 rfl noio_un
  obtain ⟨cs, v, hc1, hc2, hc3, hv, e2⟩ : ∃ (cs : List Nat) (v : Slot), cs.length = g ∧ (∀ c ∈ cs, c ≤ 3) ∧ 0 < cs.sum ∧ (v = .own (.lst (cs.map ni)) ∨ v = .imm (.lst (cs.map ni))) ∧
      sSet 2 (dIf (dTest (dBin opGt (dCallB bSum (aCons (dVar 2) aNil)) (dC (.int 0)))) (dMove 2) (dBin opAdd (dLst (aCons (dC (.int 1)) aNil)) (dBin opMul (dLst (aCons (dC (.int 0)) aNil)) (dBin opSub (dVar 1) (dC (.int 1)))))) [.io d2, .imm (ni g), .imm (.lst (bs.map ni)), .un, .un] = .ok (.nx, [.io d2, .imm (ni g), v, .un, .un]) := by
    have bs' := bsum_l bs
    have gt := ni_gt bs.sum 0
    have gt : opGt (ni bs.sum) (.int 0) = .ok (.imm (.bl (decide (0 < bs.sum)))) := gt
    by_cases hz : 0 < bs.sum
    · rw [decide_eq_true hz] at gt
      refine ⟨bs, .imm (.lst (bs.map ni)), hb1, hb2, hz, .inr rfl, ?_⟩
      generalize Dt.lst (bs.map ni) = BL at *
      simp [dTest, dBin, dVar, dC, dMove, dUn, dIf, dTru, dAnd, dOr, dNot, tAndD, tOrD, tNotD, dTup, dLst, aCons, aNil, aStar, dCallB, dCall, dIxS, asB, asTru, truD, Val.d, sSeq, seqK, sIf, sRet, sRetN, sExpr, sSet, setVal, sAsg, gDone, sPar, sNext, itRng1, itRng2, itSeq, gSet, gTupD, gsCons, gsNil, canSet, slotD, seqD, Src.d, Src.ok, asRes, runF, env0, outOf, sizeLine, Res.map, bs', gt]
    · rw [decide_eq_false hz] at gt
      have sb : opSub (ni g) (.int 1) = .ok (.imm (ni (g - 1))) := ni_sub (a := g) (b := 1) g0
      have r : opMul (.lst [.int 0]) (ni (g - 1)) = .ok (.fresh (.lst (List.replicate (g - 1) (ni 0)))) := repN (.int 0) (n := g - 1) (by omega)
      have ct := catL (a := [.int 1]) (b := List.replicate (g - 1) (ni 0)) (by rw [List.length_replicate]; simp; omega)
      refine ⟨1 :: List.replicate (g - 1) 0, .own (.lst ((1 :: List.replicate (g - 1) 0).map ni)), by simp; omega, fun c hc => ?_, by simp, .inl rfl, ?_⟩
      · rcases List.mem_cons.mp hc with rfl | hc
        · decide
        · rw [(List.mem_replicate.mp hc).2]; decide
      · rw [List.map_cons, List.map_replicate]
        have ct : opAdd (.lst [.int 1]) (.lst (List.replicate (g - 1) (ni 0))) = .ok (.fresh (.lst (ni 1 :: List.replicate (g - 1) (ni 0)))) := ct
        generalize List.replicate (g - 1) (ni 0) = R at *
        generalize Dt.lst (bs.map ni) = BL at *
        simp [dTest, dBin, dVar, dC, dMove, dUn, dIf, dTru, dAnd, dOr, dNot, tAndD, tOrD, tNotD, dTup, dLst, aCons, aNil, aStar, dCallB, dCall, dIxS, asB, asTru, truD, Val.d, sSeq, seqK, sIf, sRet, sRetN, sExpr, sSet, setVal, sAsg, gDone, sPar, sNext, itRng1, itRng2, itSeq, gSet, gTupD, gsCons, gsNil, canSet, slotD, seqD, Src.d, Src.ok, asRes, runF, env0, outOf, sizeLine, Res.map, bs', gt, sb, r, ct]
  have sl := sum_le hc2
  have lc : lcLoop [4] (gSet 4) dYes (dCall F__law_low ⟨2, [], [.pos 0, .pos 1]⟩ (aCons (dVar 4) (aCons (dCallB bSum (aCons (dVar 2) aNil)) aNil)) aNil) (cs.map ni) [.io d2, .imm (ni g), .imm (.lst (cs.map ni)), .un, .un] = .ok (cs.map fun c : Nat => fr ((c : Rat) / (cs.sum : Rat)), [.io d2, .imm (ni g), .imm (.lst (cs.map ni)), .un, .un]) := lc_pure ni (fun c : Nat => fr ((c : Rat) / (cs.sum : Rat))) cs fun c hc => by
    have bs' := bsum_l cs
    have c3 := hc2 c hc
    have sm : ∀ {x : Nat}, x ≤ 15 → x < 2 ^ 13500 := fun h => Nat.lt_of_le_of_lt h (Nat.lt_of_lt_of_le (show 15 < 2 ^ 4 by decide) (two_pow (by decide)))
    have lo := low_okI (a := (c : Int)) (b := (cs.sum : Int)) (by omega) (by rw [Int.natAbs_natCast]; exact sm (by omega)) (by rw [Int.natAbs_natCast]; exact sm (by omega))
    rw [Rat.intCast_natCast, Rat.intCast_natCast] at lo
    have lo : F__law_low [ni c, ni cs.sum] = .ok (.imm (fr ((c : Rat) / (cs.sum : Rat))), none) := lo
    generalize fr ((c : Rat) / (cs.sum : Rat)) = FR at *
    generalize ni cs.sum = NS at *
    generalize Dt.lst (cs.map ni) = CL at *
    generalize ni c = NC at *
    simp [lcTurn, dYes, Res.hard, wipeE, dTest, dBin, dVar, dC, dMove, dUn, dIf, dTru, dAnd, dOr, dNot, tAndD, tOrD, tNotD, dTup, dLst, aCons, aNil, aStar, dCallB, dCall, dIxS, asB, asTru, truD, Val.d, sSeq, seqK, sIf, sRet, sRetN, sExpr, sSet, setVal, sAsg, gDone, sPar, sNext, itRng1, itRng2, itSeq, gSet, gTupD, gsCons, gsNil, canSet, slotD, seqD, Src.d, Src.ok, asRes, runF, env0, outOf, sizeLine, Res.map, bs', lo]
  have it : itSeq (dVar 2) [.io d2, .imm (ni g), v, .un, .un] = .ok (cs.map ni, [.io d2, .imm (ni g), .imm (.lst (cs.map ni)), .un, .un]) := by
    rcases hv with rfl | rfl <;> rfl
  have dl := dlc_of (vs := [4]) (g := gSet 4) (t := dYes) it rfl (by rw [List.length_map, sizeLine_is]; omega) lc
  obtain ⟨ns, pl, rest, ep, hpl⟩ := p2
  refine ⟨cs, d2, hc1, hc2, hc3, ⟨ns, pl, rest, ep, by omega⟩, ?_⟩
  have es : (shr cs).map fr = cs.map fun c : Nat => fr ((c : Rat) / (cs.sum : Rat)) := by
    unfold shr
    rw [List.map_map]
    rfl
  rw [es]
  have bm : b__law_mix = sSeq (sSet 2 (dCallIo 0 2 F__law_one_of (aCons (dLst (aCons mixA (aCons mixB (aCons mixC aNil)))) aNil))) (sSeq (sSet 2 (dIf (dTest (dBin opGt (dCallB bSum (aCons (dVar 2) aNil)) (dC (.int 0)))) (dMove 2) (dBin opAdd (dLst (aCons (dC (.int 1)) aNil)) (dBin opMul (dLst (aCons (dC (.int 0)) aNil)) (dBin opSub (dVar 1) (dC (.int 1)))))))
      (sRet (dLc [4] (itSeq (dVar 2)) (gSet 4) dYes (dCall F__law_low ⟨2, [], [.pos 0, .pos 1]⟩ (aCons (dVar 4) (aCons (dCallB bSum (aCons (dVar 2) aNil)) aNil)) aNil)))) := rfl
  unfold F__law_mix runF
  rw [show env0 true 5 [d, ni g] = [.io d, .imm (ni g), .un, .un, .un] from rfl, bm, seq_nx s1, seq_nx e2]
  unfold sRet
  rw [dl]
  rfl
end
end G


set_option maxRecDepth 100000
set_option maxHeartbeats 4000000
set_option exponentiation.threshold 30000
namespace G
open PySem PySem.Spec PyProof.Rows L2
/-! Rs8: k72's turn: goods, markets. -/
def T (s0 s1 s2 s3 s4 s5 s6 s7 s8 s9 s10 s11 s12 : Slot) : Env' := [s0, s1, s2, s3, s4, s5, s6, s7, s8, s9, s10, s11, s12, .un, .un, .un, .un, .un, .un, .un, .un, .un, .un, .un]
theorem sh_numB {q : Rat} (h : Bt 12000 q) : Sh 25809 1 (nm q) := by
  have up : ∀ {x : Nat}, x ≤ 2 ^ 12000 → x < 2 ^ 12900 := fun h => Nat.lt_of_le_of_lt h (Nat.pow_lt_pow_right (by decide) (by decide))
  unfold nm
  split
  · exact (Sh.int (up h.1)).mono (by decide) (by decide)
  · refine (Sh.tup (k := 12901) (n := 0) (ds := [.int q.num, .int q.den]) fun d hd => ?_).mono (by simp) (by decide)
    rcases List.mem_cons.mp hd with rfl | hd
    · exact Sh.int (up h.1)
    · rw [List.mem_singleton.mp hd]
      exact Sh.int (by simpa using up h.2)
theorem rng1_of {f : DE} {env e : Env'} {v : Val} {n : Nat} (hf : f env = .ok (v, e)) (hv : v.d = ni n) (hn : n < 2 ^ 62) : itRng1 (aCons f aNil) env = .ok ((List.range n).map ni, e) := by
  have i62 : int62 (n : Int) = true := decide_eq_true (by simpa using hn)
  rw [← rngD_r]
  simp only [itRng1, aCons, aNil, hf, hv, Res.bind_ok, ni_def, i62, if_true, Int.toNat_natCast]
def OI (s : Slot) (d : Dt) : Prop := s = .own d ∨ s = .imm d
theorem OI.no {s : Slot} {d : Dt} (h : OI s d) : NoIo s := by
  rcases h with rfl | rfl
  · exact noio_own d
  · exact noio_imm d
theorem rows_of {g E B : Nat} : ∀ {ds : List Dt}, (∀ d ∈ ds, ∃ x, d = rowF x ∧ RowB g E B x) → ∃ m : List (List Rat), ds = m.map rowF ∧ ∀ x ∈ m, RowB g E B x
  | [], _ => ⟨[], rfl, fun _ h => (nomatch h)⟩
  | d :: ds, k => by
    obtain ⟨x, rfl, hx⟩ := k d List.mem_cons_self
    obtain ⟨m, rfl, h⟩ := rows_of fun y hy => k y (List.mem_cons_of_mem _ hy)
    refine ⟨x :: m, rfl, fun y hy => ?_⟩
    rcases List.mem_cons.mp hy with rfl | hy
    · exact hx
    · exact h y hy
theorem sh_rowsF {g E B n : Nat} {m : List (List Rat)} (hE : E < 2 ^ 6000) (hB : B < 2 ^ 6000) (g5 : g ≤ 5) (hn : n ≤ 12) (hl : m.length = n) (hm : ∀ x ∈ m, RowB g E B x) : Sh 16000000 3 (.lst (m.map rowF)) := (Sh.lst (k := 200000) (n := 2) fun d hd => by
    obtain ⟨y, hy, rfl⟩ := List.mem_map.mp hd
    refine (Sh.lst (k := 25809) (n := 1) fun q hq => ?_).mono (by rw [List.length_map, (hm y hy).1]; omega) (by decide)
    obtain ⟨z, hz, rfl⟩ := List.mem_map.mp hq
    exact sh_fr (((hm y hy).2 z hz).1.sz hE hB)).mono (by rw [List.length_map, hl]; omega) (by decide)
section
variable {s0 s2 s3 s4 s5 s6 s7 s8 s9 s10 s11 s12 : Slot} {k g : Nat} {d : Dt}
theorem t0 (hd : Pen k d) (hk : k < 900) (h3 : NoIo s3) : ∃ g d', 0 < g ∧ g ≤ 4 ∧ Pen (k + 1) d' ∧ b_law_1_0 (T s0 (.own d) s2 s3 s4 s5 s6 s7 s8 s9 s10 s11 s12) = .ok (.nx, T s0 (.own d') s2 (.imm (ni g)) s4 s5 s6 s7 s8 s9 s10 s11 s12) := by
  have ls : (dLst (aCons (dC (.int 2)) (aCons (dC (.int 3)) (aCons (dC (.int 1)) (aCons (dC (.int 4)) aNil))))) (T s0 (.own d) s2 s3 s4 s5 s6 s7 s8 s9 s10 s11 s12) = .ok (.fresh (.lst [ni 2, ni 3, ni 1, ni 4]), T s0 (.own d) s2 s3 s4 s5 s6 s7 s8 s9 s10 s11 s12) := by
    simp [dLst, aCons, aNil, dC, Val.d, sizeLine_is]
    exact ⟨rfl, rfl, rfl, rfl⟩
  obtain ⟨x, hx, d', hp, e1⟩ := oneC (i := 1) (k := k) (d := d) (mk := Slot.own) (.inl rfl) rfl ls rfl rfl hd (by omega) (by simp) (by simp)
  obtain ⟨g, g0, g4, rfl⟩ : ∃ g, 0 < g ∧ g ≤ 4 ∧ x = ni g := by
    simp only [List.mem_cons, List.not_mem_nil, or_false] at hx
    rcases hx with rfl | rfl | rfl | rfl
    · exact ⟨2, by decide, by decide, rfl⟩
    · exact ⟨3, by decide, by decide, rfl⟩
    · exact ⟨1, by decide, by decide, rfl⟩
    · exact ⟨4, by decide, by decide, rfl⟩
  exact ⟨g, d', g0, g4, hp, set_imm (s := s3) e1 rfl h3⟩
theorem t1 (hd : Pen k d) (g0 : 0 < g) (g4 : g ≤ 4) (hk : k + 80 < 900) (h4 : NoIo s4) : ∃ (m : List (List Rat)) (d' : Dt), m.length ≤ 6 ∧ (∀ x ∈ m, RowB g EE BB x) ∧ Pen (k + 61) d' ∧
    b_law_1_1 (T s0 (.own d) s2 (.imm (ni g)) s4 s5 s6 s7 s8 s9 s10 s11 s12) = .ok (.nx, T s0 (.own d') s2 (.imm (ni g)) (.own (.lst (m.map rowF))) s5 s6 s7 s8 s9 s10 s11 s12) := by
  have l4 : opLt (ni g) (.int 4) = .ok (.imm (.bl (decide (g < 4)))) := ni_lt g 4
  have l3 : opLt (ni g) (.int 3) = .ok (.imm (.bl (decide (g < 3)))) := ni_lt g 3
  have ls : (dLst (aCons (dC (.int 3)) (aCons (dC (.int 0)) (aCons (dIf (dTest (dBin opLt (dVar 3) (dC (.int 4)))) (dC (.int 5)) (dC (.int 2))) (aCons (dC (.int 1)) (aCons (dIf (dTest (dBin opLt (dVar 3) (dC (.int 3)))) (dC (.int 6)) (dC (.int 4))) aNil)))))) (T s0 (.own d) s2 (.imm (ni g)) s4 s5 s6 s7 s8 s9 s10 s11 s12) = .ok (.fresh (.lst [ni 3, ni 0, ni (if g < 4 then 5 else 2), ni 1, ni (if g < 3 then 6 else 4)]), T s0 (.own d) s2 (.imm (ni g)) s4 s5 s6 s7 s8 s9 s10 s11 s12) := by
    unfold T
    by_cases h4 : g < 4
    · by_cases h3 : g < 3
      · simp [dTest, dBin, dVar, dC, dMove, dUn, dIf, dTru, dAnd, dOr, dNot, tAndD, tOrD, tNotD, dTup, dLst, aCons, aNil, aStar, dCallB, dCall, dIxS, asB, asTru, truD, Val.d, sSeq, seqK, sIf, sRet, sRetN, sExpr, sSet, setVal, sAsg, gDone, sPar, sNext, itRng1, itRng2, itSeq, gSet, gTupD, gsCons, gsNil, canSet, slotD, seqD, Src.d, Src.ok, asRes, runF, env0, outOf, sizeLine, Res.map, l4, l3, h4, h3]
        exact ⟨rfl, rfl, rfl, rfl, rfl⟩
      · simp [dTest, dBin, dVar, dC, dMove, dUn, dIf, dTru, dAnd, dOr, dNot, tAndD, tOrD, tNotD, dTup, dLst, aCons, aNil, aStar, dCallB, dCall, dIxS, asB, asTru, truD, Val.d, sSeq, seqK, sIf, sRet, sRetN, sExpr, sSet, setVal, sAsg, gDone, sPar, sNext, itRng1, itRng2, itSeq, gSet, gTupD, gsCons, gsNil, canSet, slotD, seqD, Src.d, Src.ok, asRes, runF, env0, outOf, sizeLine, Res.map, l4, l3, h4, h3]
        exact ⟨rfl, rfl, rfl, rfl, rfl⟩
    · have h3 : ¬ g < 3 := by omega
      simp [dTest, dBin, dVar, dC, dMove, dUn, dIf, dTru, dAnd, dOr, dNot, tAndD, tOrD, tNotD, dTup, dLst, aCons, aNil, aStar, dCallB, dCall, dIxS, asB, asTru, truD, Val.d, sSeq, seqK, sIf, sRet, sRetN, sExpr, sSet, setVal, sAsg, gDone, sPar, sNext, itRng1, itRng2, itSeq, gSet, gTupD, gsCons, gsNil, canSet, slotD, seqD, Src.d, Src.ok, asRes, runF, env0, outOf, sizeLine, Res.map, l4, l3, h4, h3]
      exact ⟨rfl, rfl, rfl, rfl, rfl⟩
  obtain ⟨x, hx, d1, hp, e1⟩ := oneC (i := 1) (k := k) (d := d) (mk := Slot.own) (.inl rfl) rfl ls rfl rfl hd (by omega) (by simp) (by simp)
  obtain ⟨c, c6, rfl⟩ : ∃ c, c ≤ 6 ∧ x = ni c := by
    simp only [List.mem_cons, List.not_mem_nil, or_false] at hx
    rcases hx with rfl | rfl | rfl | rfl | rfl
    · exact ⟨3, by decide, rfl⟩
    · exact ⟨0, by decide, rfl⟩
    · exact ⟨_, by split <;> decide, rfl⟩
    · exact ⟨1, by decide, rfl⟩
    · exact ⟨_, by split <;> decide, rfl⟩
  obtain ⟨ds, e', l, h1, h2, d', hp', he⟩ := lc_count (vs := [19]) (g := gSet 19) (t := dYes) (f := dCallIo 1 2 F__law_day (aCons (dVar 3) aNil)) ni (fun i e => ∃ d, Pen (k + 1 + 10 * i) d ∧ e = T s0 (.own d) s2 (.imm (ni g)) s4 s5 s6 s7 s8 s9 s10 s11 s12) (fun d => ∃ x, d = rowF x ∧ RowB g EE BB x) (List.range c) (k := 0) (env := T s0 (.own d1) s2 (.imm (ni g)) s4 s5 s6 s7 s8 s9 s10 s11 s12) ⟨d1, hp, rfl⟩ fun j hj i e hi ⟨d, hd, he⟩ => by
    subst he
    rw [List.length_range, Nat.zero_add] at hi
    obtain ⟨x, d', hx, hp', e2⟩ := day_okL (g := g) hd (by omega) (by omega)
    refine ⟨rowF x, T s0 (.own d') s2 (.imm (ni g)) s4 s5 s6 s7 s8 s9 s10 s11 s12, ?_, ⟨x, rfl, hx⟩, d', by rw [show k + 1 + 10 * (i + 1) = k + 1 + 10 * i + 10 by omega]; exact hp', rfl⟩
    unfold lcTurn T
    rw [gset_ok (s := .un) rfl noio_un]
    generalize rowF x = X at *
    simp [dYes, Res.hard, wipeE, dCallIo, isOwn, aCons, aNil, dVar, Val.d, asIo, e2, asResIo]
  obtain ⟨m, rfl, hm⟩ := rows_of h2
  rw [List.length_map, List.length_range] at h1
  rw [List.length_range, Nat.zero_add] at hp'
  obtain ⟨ns, pl, rest, ep, hpl⟩ := hp'
  refine ⟨m, d', by omega, hm, ⟨ns, pl, rest, ep, by omega⟩, ?_⟩
  have it := rng1_of (n := c) e1 rfl (by omega)
  have dl := dlc_of (vs := [19]) (g := gSet 19) (t := dYes) (f := dCallIo 1 2 F__law_day (aCons (dVar 3) aNil)) it rfl (by rw [List.length_map, List.length_range, sizeLine_is]; omega) l
  unfold b_law_1_1
  refine set_fresh (e := T s0 (.own d') s2 (.imm (ni g)) s4 s5 s6 s7 s8 s9 s10 s11 s12) (s := s4) ?_ rfl h4
  rw [dl, he]
  rfl
/-- the market, or the one with one good alone -/
theorem lone_row {E B : Nat} {x : List Rat} (hE : 0 < E) (hx : RowB g E B x) (g0 : 0 < g) : RowB g E B (lone g 0 (x.getD 0 0)) := ⟨by unfold lone; rw [List.length_map, List.length_range], fun q hq => by
  obtain ⟨j, _, rfl⟩ := List.mem_map.mp hq
  split
  · exact hx.2 _ (getD_mem (by rw [hx.1]; exact g0))
  · exact ⟨(Bz.zero hE).mono (Nat.zero_le _), Rat.le_refl⟩⟩
theorem t2 (hd : Pen k d) (g0 : 0 < g) (g4 : g ≤ 4) (hk : k + 80 < 900) {m : List (List Rat)} (hl : m.length ≤ 6) (hm : ∀ x ∈ m, RowB g EE BB x) : ∃ (m' : List (List Rat)) (d' : Dt) (s4' : Slot), m'.length ≤ 6 ∧ (∀ x ∈ m', RowB g EE BB x) ∧ Pen (k + 1) d' ∧ OI s4' (.lst (m'.map rowF)) ∧
    b_law_1_2 (T s0 (.own d) s2 (.imm (ni g)) (.own (.lst (m.map rowF))) s5 s6 s7 s8 s9 s10 s11 s12) = .ok (.nx, T s0 (.own d') s2 (.imm (ni g)) s4' s5 s6 s7 s8 s9 s10 s11 s12) := by
  have sh := sh_rowsF (E := EE) (B := BB) (lt60 (k := 4) (by decide) (by decide)) (lt60 (k := 43) (by decide) (by decide)) (show g ≤ 5 by omega) (show m.length ≤ 12 by omega) rfl hm
  have en := eq_nilL sh (by decide) true
  have en : eqS true (.lst (m.map rowF)) (.lst []) = .ok (.imm (.bl (!(m.map rowF).isEmpty))) := en
  have nl : ∀ e : Env', dLst aNil e = .ok (.fresh (.lst []), e) := fun e => by
    unfold dLst aNil
    rw [Res.bind_ok]
    exact if_pos (Nat.zero_le _)
  have t1 : dTest (dBin (eqS true) (dVar 4) (dLst aNil)) (T s0 (.own d) s2 (.imm (ni g)) (.own (.lst (m.map rowF))) s5 s6 s7 s8 s9 s10 s11 s12) = .ok (!(m.map rowF).isEmpty, T s0 (.own d) s2 (.imm (ni g)) (.imm (.lst (m.map rowF))) s5 s6 s7 s8 s9 s10 s11 s12) := test_ok (bin_ok (v := .imm (.lst (m.map rowF))) (w := .fresh (.lst [])) rfl (nl _) en)
  by_cases hme : m = []
  · subst hme
    obtain ⟨ns, pl, rest, ep, hpl⟩ := hd
    refine ⟨[], d, .imm (.lst []), by simp, fun _ h => (nomatch h), ⟨ns, pl, rest, ep, by omega⟩, .inr rfl, ?_⟩
    unfold b_law_1_2
    exact if_no (and_no t1)
  · have hi : (m.map rowF).isEmpty = false := by simpa using hme
    rw [hi] at t1
    obtain ⟨r, d', hr, hp, e1⟩ := drawC (i := 1) (k := k) (many := 4) (d := d) (mk := Slot.own) (env := T s0 (.own d) s2 (.imm (ni g)) (.imm (.lst (m.map rowF))) s5 s6 s7 s8 s9 s10 s11 s12) (e := T s0 (.own d) s2 (.imm (ni g)) (.imm (.lst (m.map rowF))) s5 s6 s7 s8 s9 s10 s11 s12) (f := dC (.int 4)) (v := .imm (ni 4)) (.inl rfl) rfl rfl rfl rfl hd (by omega) (by decide) (by decide)
    have e1 : dCallIo 1 2 F__law_draw (aCons (dC (.int 4)) aNil) (T s0 (.own d) s2 (.imm (ni g)) (.imm (.lst (m.map rowF))) s5 s6 s7 s8 s9 s10 s11 s12) = .ok (.imm (ni r), T s0 (.own d') s2 (.imm (ni g)) (.imm (.lst (m.map rowF))) s5 s6 s7 s8 s9 s10 s11 s12) := e1
    have t2 : dTest (dBin (eqS false) (dCallIo 1 2 F__law_draw (aCons (dC (.int 4)) aNil)) (dC (.int 3))) (T s0 (.own d) s2 (.imm (ni g)) (.imm (.lst (m.map rowF))) s5 s6 s7 s8 s9 s10 s11 s12) = .ok (decide (r = 3), T s0 (.own d') s2 (.imm (ni g)) (.imm (.lst (m.map rowF))) s5 s6 s7 s8 s9 s10 s11 s12) := test_ok (bin_ok (w := .imm (ni 3)) e1 rfl (ni_eq r 3))
    by_cases h3 : r = 3
    · rw [decide_eq_true h3] at t2
      refine ⟨m.map fun x => lone g 0 (x.getD 0 0), d', .own (.lst ((m.map fun x => lone g 0 (x.getD 0 0)).map rowF)), by rw [List.length_map]; exact hl, fun y hy => ?_, hp, .inl rfl, ?_⟩
      · obtain ⟨x, hx, rfl⟩ := List.mem_map.mp hy
        exact lone_row (by decide) (hm x hx) g0
      · have lc : lcLoop [19] (gSet 19) dYes (dLc [13, 20] (itEnum (dVar 19)) (gTupD 2 (gsCons (gSet 13) (gsCons (gSet 20) gsNil))) dYes (dIf (dTest (dBin (eqS false) (dVar 13) (dC (.int 0)))) (dVar 20) (dTup (aCons (dC (.int 0)) (aCons (dC (.int 1)) aNil))))) (m.map rowF) (T s0 (.own d') s2 (.imm (ni g)) (.imm (.lst (m.map rowF))) s5 s6 s7 s8 s9 s10 s11 s12) =
            .ok (m.map fun x => rowF (lone g 0 (x.getD 0 0)), T s0 (.own d') s2 (.imm (ni g)) (.imm (.lst (m.map rowF))) s5 s6 s7 s8 s9 s10 s11 s12) := lc_pure rowF (fun x => rowF (lone g 0 (x.getD 0 0))) m fun x hx => by
          have hxl := (hm x hx).1
          -- the pairs by their places
          have nb : numbered 0 (x.map fr) = (List.range g).map fun i => .tup [ni i, fr (x.getD i 0)] := by
            apply List.ext_getElem
            · rw [numbered_len]
              simp [hxl]
            · intro i h1 h2
              have hi : i < x.length := by simpa [hxl] using h2
              rw [numbered_get0 _ _ (by simpa using hi) h1]
              simp [hi]
          let E1 : Env' := [s0, .own d', s2, .imm (ni g), .imm (.lst (m.map rowF)), s5, s6, s7, s8, s9, s10, s11, s12, .un, .un, .un, .un, .un, .un, .imm (rowF x), .un, .un, .un, .un]
          have l2 : lcLoop [13, 20] (gTupD 2 (gsCons (gSet 13) (gsCons (gSet 20) gsNil))) dYes (dIf (dTest (dBin (eqS false) (dVar 13) (dC (.int 0)))) (dVar 20) (dTup (aCons (dC (.int 0)) (aCons (dC (.int 1)) aNil)))) ((List.range g).map fun i => .tup [ni i, fr (x.getD i 0)]) E1 = .ok ((List.range g).map fun i => fr (if i = 0 then x.getD 0 0 else 0), E1) := lc_pure (fun i => .tup [ni i, fr (x.getD i 0)]) (fun i => fr (if i = 0 then x.getD 0 0 else 0)) (List.range g) fun i _ => by
            have gt := gtup2 (a := 13) (b := 20) (env := E1) (d1 := ni i) (d2 := fr (x.getD i 0)) rfl noio_un rfl noio_un
            have z : fr 0 = .tup [.int 0, .int 1] := rfl
            have q : eqS false (ni i) (.int 0) = .ok (.imm (.bl (decide (i = 0)))) := ni_eq i 0
            unfold lcTurn
            rw [gt]
            by_cases h0 : i = 0
            · subst h0
              rw [if_pos rfl]
              generalize fr (x.getD 0 0) = FX at *
              simp [dYes, Res.hard, wipeE, dTest, dBin, dVar, dC, dMove, dUn, dIf, dTru, dAnd, dOr, dNot, tAndD, tOrD, tNotD, dTup, dLst, aCons, aNil, aStar, dCallB, dCall, dIxS, asB, asTru, truD, Val.d, sSeq, seqK, sIf, sRet, sRetN, sExpr, sSet, setVal, sAsg, gDone, sPar, sNext, itRng1, itRng2, itSeq, gSet, gTupD, gsCons, gsNil, canSet, slotD, seqD, Src.d, Src.ok, asRes, runF, env0, outOf, sizeLine, Res.map, q, E1]
            · rw [decide_eq_false h0] at q
              rw [if_neg h0, z]
              generalize fr (x.getD i 0) = FX at *
              simp [dYes, Res.hard, wipeE, dTest, dBin, dVar, dC, dMove, dUn, dIf, dTru, dAnd, dOr, dNot, tAndD, tOrD, tNotD, dTup, dLst, aCons, aNil, aStar, dCallB, dCall, dIxS, asB, asTru, truD, Val.d, sSeq, seqK, sIf, sRet, sRetN, sExpr, sSet, setVal, sAsg, gDone, sPar, sNext, itRng1, itRng2, itSeq, gSet, gTupD, gsCons, gsNil, canSet, slotD, seqD, Src.d, Src.ok, asRes, runF, env0, outOf, sizeLine, Res.map, q, E1]
          have it2 : itEnum (dVar 19) E1 = .ok ((List.range g).map fun i => .tup [ni i, fr (x.getD i 0)], E1) := by
            rw [← nb]
            rfl
          have dl := dlc_of (vs := [13, 20]) it2 rfl (by rw [List.length_map, List.length_range, sizeLine_is]; omega) l2
          have bk : backE E1 E1 [13, 20] = E1 := rfl
          rw [bk] at dl
          have er : rowF (lone g 0 (x.getD 0 0)) = .lst ((List.range g).map fun i => fr (if i = 0 then x.getD 0 0 else 0)) := by
            unfold rowF lone
            rw [List.map_map]
            rfl
          rw [er]
          unfold lcTurn
          rw [gset_ok (s := .un) rfl noio_un, Res.bind_ok]
          have ee : (T s0 (.own d') s2 (.imm (ni g)) (.imm (.lst (m.map rowF))) s5 s6 s7 s8 s9 s10 s11 s12).set 19 (.imm (rowF x)) = E1 := rfl
          rw [ee]
          simp only [dYes, Res.hard, Res.bind_ok, if_true, dl, Val.d]
          rfl
        have dl := dlc_of (vs := [19]) (g := gSet 19) (t := dYes) (it := itSeq (dVar 4)) (env := T s0 (.own d') s2 (.imm (ni g)) (.imm (.lst (m.map rowF))) s5 s6 s7 s8 s9 s10 s11 s12) (e1 := T s0 (.own d') s2 (.imm (ni g)) (.imm (.lst (m.map rowF))) s5 s6 s7 s8 s9 s10 s11 s12) rfl rfl (by rw [List.length_map, sizeLine_is]; omega) lc
        unfold b_law_1_2
        rw [if_yes ((and_yes t1).trans t2), List.map_map]
        exact set_fresh (e := T s0 (.own d') s2 (.imm (ni g)) (.imm (.lst (m.map rowF))) s5 s6 s7 s8 s9 s10 s11 s12) (s := .imm (.lst (m.map rowF))) dl rfl (noio_imm _)
    · rw [decide_eq_false h3] at t2
      refine ⟨m, d', .imm (.lst (m.map rowF)), hl, hm, hp, .inr rfl, ?_⟩
      unfold b_law_1_2
      exact if_no ((and_yes t1).trans t2)
end
end G


set_option maxRecDepth 100000
set_option maxHeartbeats 4000000
set_option exponentiation.threshold 30000
namespace G
open PySem PySem.Spec PyProof.Rows L2
/-! Rs9: k72's turn: purses, mixes. -/
theorem fitM_of {g E B n b k : Nat} (g0 : 0 < g) (g4 : g ≤ 4) (hn : n ≤ 6) (E0 : 0 < E) (E8 : E ≤ 8) (B0 : 0 < B) (B42 : B ≤ 2 ^ 42) (hb : b = 43) (hk : k = 140) : FitM g E B n b k := by
  subst hb hk
  have F := fits_of g0 g4 (show n ≤ 12 by omega) E0 E8 B0 B42
  have a1 : g ^ n ≤ 2 ^ 24 := Nat.le_trans (Nat.pow_le_pow_left g4 n) (Nat.le_trans (Nat.pow_le_pow_right (by decide) (show n ≤ 12 by omega)) (by decide))
  have a3 : g ^ n * B ≤ 2 ^ 66 := by
    have := Nat.mul_le_mul a1 B42
    rw [← Nat.pow_add] at this
    exact this
  have a4 : NN g B n ≤ 2 ^ 792 := by
    refine Nat.le_trans (NN_le g0 B0 n) (Nat.le_trans (Nat.pow_le_pow_left a3 n) ?_)
    rw [← Nat.pow_mul]
    exact two_pow (by omega)
  have a5 : fac (g + n) ≤ 2 ^ 64 := Nat.le_of_lt (fac_sz (by omega))
  refine { f0 := F, E1 := Nat.le_trans E8 (by decide), B1 := Nat.le_trans B42 (two_pow (by decide)), kb := by decide, w := ?_, w1 := by decide, p := ⟨by rw [Nat.mul_one]; exact F.den2, ?_⟩ }
  · have := Nat.mul_le_mul_right (5 * (140 + 43 + 1)) hn
    omega
  · have := Nat.mul_le_mul (Nat.mul_le_mul a1 (Nat.mul_le_mul a4 a5)) (show 5000 ≤ 2 ^ 13 by decide)
    rw [← Nat.pow_add, ← Nat.pow_add, ← Nat.pow_add] at this
    exact Nat.lt_of_le_of_lt this (Nat.pow_lt_pow_right (by decide) (by decide))
def termW : DE := (dCall F__law_times ⟨2, [], [.pos 0, .pos 1]⟩ (aCons (dCall F__law_weight ⟨2, [], [.pos 0, .pos 1]⟩ (aCons (dVar 4) (aCons (dVar 21) aNil)) aNil) (aCons (dCall F__law_even ⟨2, [], [.pos 0, .pos 1]⟩ (aCons (dVar 3) (aCons (dVar 21) aNil)) aNil) aNil)) aNil)
/-- the purse that is reckoned -/
abbrev pu (g : Nat) (m : List (List Rat)) : Rat := vs g m (ev g)
/-- times the factor -/
abbrev wi (g : Nat) (m : List (List Rat)) : Rat := vs g m (ev g) * (fct g m.length : Rat)
section
variable {s0 s1 s2 s3 s4 s5 s6 s7 s8 s9 s10 s11 s12 : Slot} {k g : Nat} {d : Dt} {m : List (List Rat)}
theorem t3 (g4 : g ≤ 4) (hl : m.length ≤ 6) (hm : ∀ x ∈ m, RowB g EE BB x) (h4 : OI s4 (.lst (m.map rowF))) (h5 : NoIo s5) :
    b_law_1_3 (T s0 s1 s2 s3 s4 s5 s6 s7 s8 s9 s10 s11 s12) = .ok (.nx, T s0 s1 s2 s3 (.imm (.lst (m.map rowF))) (.own (.lst (m.map rowL))) s6 s7 s8 s9 s10 s11 s12) := by
  have p := passed_ok (m := m) (fun y hy => by rw [(hm y hy).1]; omega) (by omega)
  unfold b_law_1_3
  refine set_fresh (e := T s0 s1 s2 s3 (.imm (.lst (m.map rowF))) s5 s6 s7 s8 s9 s10 s11 s12) (s := s5) ?_ rfl h5
  unfold T
  generalize Dt.lst (m.map rowF) = M at *
  generalize Dt.lst (m.map rowL) = M' at *
  rcases h4 with rfl | rfl <;> simp [dTest, dBin, dVar, dC, dMove, dUn, dIf, dTru, dAnd, dOr, dNot, tAndD, tOrD, tNotD, dTup, dLst, aCons, aNil, aStar, dCallB, dCall, dIxS, asB, asTru, truD, Val.d, sSeq, seqK, sIf, sRet, sRetN, sExpr, sSet, setVal, sAsg, gDone, sPar, sNext, itRng1, itRng2, itSeq, gSet, gTupD, gsCons, gsNil, canSet, slotD, seqD, Src.d, Src.ok, asRes, runF, env0, outOf, sizeLine, Res.map, p]
theorem t4 (g0 : 0 < g) (g4 : g ≤ 4) (hl : m.length ≤ 6) (hm : ∀ x ∈ m, RowB g EE BB x) (h6 : NoIo s6) :
    b_law_1_4 (T s0 s1 s2 (.imm (ni g)) (.imm (.lst (m.map rowF))) s5 s6 s7 s8 s9 s10 s11 s12) = .ok (.nx, T s0 s1 s2 (.imm (ni g)) (.imm (.lst (m.map rowF))) s5 (.imm (fr (pu g m))) s7 s8 s9 s10 s11 s12) := by
  have F : FitL g EE BB m.length := fitL_of g0 g4 (by omega) (by decide) (by decide) (by decide) (Nat.le_refl _)
  have w := words_ok g0 (show g ≤ 5 by omega) (n := m.length) (by omega) F.w1
  have ln : bLen [.lst (m.map rowF)] = .ok (.imm (ni m.length)) := by rw [bLen_l, List.length_map]
  have sm := sumW F rfl hm (fun w => w) fun w a b => ⟨b, by omega⟩
  have sm : F__law_sum [.lst ((wordsN g m.length).map fun w => fr (wt m w * ev g w))] = .ok (.imm (fr (pu g m)), none) := sm
  have lc : lcLoop [21] (gSet 21) dYes termW ((wordsN g m.length).map wD) (T s0 s1 s2 (.imm (ni g)) (.imm (.lst (m.map rowF))) s5 s6 s7 s8 s9 s10 s11 s12) =
      .ok ((wordsN g m.length).map fun w => fr (wt m w * ev g w), T s0 s1 s2 (.imm (ni g)) (.imm (.lst (m.map rowF))) s5 s6 s7 s8 s9 s10 s11 s12) := lc_pure wD (fun w => fr (wt m w * ev g w)) _ fun w hw => by
    obtain ⟨a, b⟩ := wordsN_mem hw
    have e1 := lw_ok F rfl hm a b
    have e2 := even_ok F.f0.g0 F.f0.g5 b (by omega)
    have e3 := lt_ok F rfl hm a b b (by omega)
    unfold termW T lcTurn
    generalize fr (wt m w * ev g w) = W4 at *
    generalize fr (wt m w) = W3 at *
    generalize fr (ev g w) = W2 at *
    generalize wD w = W1 at *
    generalize Dt.lst (m.map rowF) = M1 at *
    simp [dYes, Res.hard, wipeE, dTest, dBin, dVar, dC, dMove, dUn, dIf, dTru, dAnd, dOr, dNot, tAndD, tOrD, tNotD, dTup, dLst, aCons, aNil, aStar, dCallB, dCall, dIxS, asB, asTru, truD, Val.d, sSeq, seqK, sIf, sRet, sRetN, sExpr, sSet, setVal, sAsg, gDone, sPar, sNext, itRng1, itRng2, itSeq, gSet, gTupD, gsCons, gsNil, canSet, slotD, seqD, Src.d, Src.ok, asRes, runF, env0, outOf, sizeLine, Res.map, e1, e2, e3]
  have it : itSeq (dCall F__law_words ⟨2, [], [.pos 0, .pos 1]⟩ (aCons (dVar 3) (aCons (dCallB bLen (aCons (dVar 4) aNil)) aNil)) aNil) (T s0 s1 s2 (.imm (ni g)) (.imm (.lst (m.map rowF))) s5 s6 s7 s8 s9 s10 s11 s12) = .ok ((wordsN g m.length).map wD, T s0 s1 s2 (.imm (ni g)) (.imm (.lst (m.map rowF))) s5 s6 s7 s8 s9 s10 s11 s12) := by
    unfold T
    generalize (wordsN g m.length).map wD = WW at *
    generalize ni m.length = NM at *
    generalize Dt.lst (m.map rowF) = M1 at *
    simp [dTest, dBin, dVar, dC, dMove, dUn, dIf, dTru, dAnd, dOr, dNot, tAndD, tOrD, tNotD, dTup, dLst, aCons, aNil, aStar, dCallB, dCall, dIxS, asB, asTru, truD, Val.d, sSeq, seqK, sIf, sRet, sRetN, sExpr, sSet, setVal, sAsg, gDone, sPar, sNext, itRng1, itRng2, itSeq, gSet, gTupD, gsCons, gsNil, canSet, slotD, seqD, Src.d, Src.ok, asRes, runF, env0, outOf, sizeLine, Res.map, ln, w]
  have dl := dlc_of (vs := [21]) (g := gSet 21) (t := dYes) (f := termW) it rfl (wlen F) lc
  have bk : backE (T s0 s1 s2 (.imm (ni g)) (.imm (.lst (m.map rowF))) s5 s6 s7 s8 s9 s10 s11 s12) (T s0 s1 s2 (.imm (ni g)) (.imm (.lst (m.map rowF))) s5 s6 s7 s8 s9 s10 s11 s12) [21] = T s0 s1 s2 (.imm (ni g)) (.imm (.lst (m.map rowF))) s5 s6 s7 s8 s9 s10 s11 s12 := rfl
  rw [bk] at dl
  unfold b_law_1_4
  refine set_imm (e := T s0 s1 s2 (.imm (ni g)) (.imm (.lst (m.map rowF))) s5 s6 s7 s8 s9 s10 s11 s12) (s := s6) ?_ rfl h6
  unfold termW at dl
  simp only [dCall, aCons, aNil] at dl ⊢
  rw [dl]
  simp only [Res.bind_ok, Val.d, List.length_cons, List.length_nil, Nat.zero_add, Src.d, Src.ok, List.map_cons, List.map_nil, List.getElem?_cons_zero, Option.getD_some, sm, asRes, List.all_cons, List.all_nil, Nat.reduceLT, decide_true, Bool.and_true, and_self, if_true]
theorem wi_bz (g0 : 0 < g) (g4 : g ≤ 4) (hl : m.length ≤ 6) (hm : ∀ x ∈ m, RowB g EE BB x) : Sz (wi g m) ∧ Bt 2000 (wi g m) := by
  have F : FitM g EE BB m.length 43 140 := fitM_of g0 g4 hl (by decide) (by decide) (by decide) (Nat.le_refl _) rfl rfl
  have h := wide_bz F rfl hm
  refine ⟨h.sz F.p.1 F.p.2, ?_⟩
  -- the same sizes, smaller
  have a1 : g ^ m.length ≤ 2 ^ 24 := Nat.le_trans (Nat.pow_le_pow_left g4 _) (Nat.le_trans (Nat.pow_le_pow_right (by decide) (show m.length ≤ 12 by omega)) (by decide))
  have a2 : EE ^ m.length ≤ 2 ^ 36 := Nat.le_trans (Nat.pow_le_pow_left (show EE ≤ 8 by decide) _) (Nat.le_trans (Nat.pow_le_pow_right (by decide) (show m.length ≤ 12 by omega)) (by decide))
  have a3 : g ^ m.length * BB ≤ 2 ^ 66 := by
    have := Nat.mul_le_mul a1 (Nat.le_refl BB)
    rw [← Nat.pow_add] at this
    exact this
  have a4 : NN g BB m.length ≤ 2 ^ 792 := by
    refine Nat.le_trans (NN_le g0 (by decide) _) (Nat.le_trans (Nat.pow_le_pow_left a3 _) ?_)
    rw [← Nat.pow_mul]
    exact two_pow (by omega)
  have a5 : fac (g + m.length) ≤ 2 ^ 64 := Nat.le_of_lt (fac_sz (by omega))
  refine h.bt ?_ ?_
  · have := Nat.mul_le_mul a2 a5
    rw [← Nat.pow_add] at this
    rw [Nat.mul_one]
    exact Nat.le_trans this (two_pow (by decide))
  · have := Nat.mul_le_mul (Nat.mul_le_mul a1 (Nat.mul_le_mul a4 a5)) (show 5000 ≤ 2 ^ 13 by decide)
    rw [← Nat.pow_add, ← Nat.pow_add, ← Nat.pow_add] at this
    exact Nat.le_trans this (two_pow (by decide))
theorem t5 (g0 : 0 < g) (g4 : g ≤ 4) (hl : m.length ≤ 6) (hm : ∀ x ∈ m, RowB g EE BB x) (h7 : NoIo s7) :
    b_law_1_5 (T s0 s1 s2 (.imm (ni g)) (.imm (.lst (m.map rowF))) s5 (.imm (fr (pu g m))) s7 s8 s9 s10 s11 s12) = .ok (.nx, T s0 s1 s2 (.imm (ni g)) (.imm (.lst (m.map rowF))) s5 (.imm (fr (pu g m))) (.imm (fr (wi g m))) s8 s9 s10 s11 s12) := by
  have F : FitL g EE BB m.length := fitL_of g0 g4 (by omega) (by decide) (by decide) (by decide) (Nat.le_refl _)
  have ln : bLen [.lst (m.map rowF)] = .ok (.imm (ni m.length)) := by rw [bLen_l, List.length_map]
  have ef := even_factor_ok (g := g) (d := m.length) g0 (by omega) (by omega)
  have few := F.f0.few
  have fs : fct g m.length ≤ 5000 := few
  have t := times_r2 (p := pu g m) (c := (fct g m.length : Int)) (d := 1) (bz_szL F (purse_bz F rfl hm)) (by decide) (by rw [Int.natAbs_natCast]; exact lt60 (k := 13) (by omega) (by decide)) (Nat.one_lt_two_pow (by decide))
  have e1 : ((fct g m.length : Int) : Rat) / ((1 : Nat) : Rat) = (fct g m.length : Rat) := by
    rw [Rat.intCast_natCast]
    have : ((1 : Nat) : Rat) = 1 := rfl
    rw [this]
    grind
  rw [e1] at t
  have t : F__law_times [fr (pu g m), .tup [ni (fct g m.length), .int 1]] = .ok (.imm (fr (wi g m)), none) := t
  unfold b_law_1_5
  refine set_imm (e := T s0 s1 s2 (.imm (ni g)) (.imm (.lst (m.map rowF))) s5 (.imm (fr (pu g m))) s7 s8 s9 s10 s11 s12) (s := s7) ?_ rfl h7
  unfold T
  generalize fr (wi g m) = W at *
  generalize fr (pu g m) = P at *
  generalize ni (fct g m.length) = FF at *
  generalize ni m.length = NM at *
  generalize Dt.lst (m.map rowF) = M1 at *
  simp [dTest, dBin, dVar, dC, dMove, dUn, dIf, dTru, dAnd, dOr, dNot, tAndD, tOrD, tNotD, dTup, dLst, aCons, aNil, aStar, dCallB, dCall, dIxS, asB, asTru, truD, Val.d, sSeq, seqK, sIf, sRet, sRetN, sExpr, sSet, setVal, sAsg, gDone, sPar, sNext, itRng1, itRng2, itSeq, gSet, gTupD, gsCons, gsNil, canSet, slotD, seqD, Src.d, Src.ok, asRes, runF, env0, outOf, sizeLine, Res.map, ln, ef, t]
theorem t6 (g0 : 0 < g) (g4 : g ≤ 4) (hl : m.length ≤ 6) (hm : ∀ x ∈ m, RowB g EE BB x) {s4 : Slot} :
    b_law_1_6 (T s0 s1 s2 (.imm (ni g)) s4 (.own (.lst (m.map rowL))) (.imm (fr (pu g m))) s7 s8 s9 s10 s11 s12) = .ok (.nx, T s0 s1 s2 (.imm (ni g)) s4 (.imm (.lst (m.map rowL))) (.imm (fr (pu g m))) s7 s8 s9 s10 s11 s12) := by
  have F : FitL g EE BB m.length := fitL_of g0 g4 (by omega) (by decide) (by decide) (by decide) (Nat.le_refl _)
  have p := even_purse_ok F.f0 F.E6 F.B6 rfl hm rowL (fun x => .inl rfl) (d := .lst (m.map rowL)) (.inl rfl)
  have n := number_ok (pu g m)
  obtain ⟨s, hs⟩ := (sh_num (bz_szL F (purse_bz F rfl hm))).repr (by decide) (by decide)
  unfold b_law_1_6
  refine if_no ?_
  unfold T
  generalize nm (pu g m) = PN at *
  generalize fr (pu g m) = PF at *
  generalize Dt.lst (m.map rowL) = M1 at *
  simp [dTest, dBin, dCallB, dCall, aCons, aNil, dVar, Val.d, Src.d, Src.ok, p, n, asRes, hs, str_neS, asB]
/-- mixes of some numbers are given to be bettered -/
theorem betH_of (g0 : 0 < g) (g4 : g ≤ 4) (hl : m.length ≤ 6) (hm : ∀ x ∈ m, RowB g EE BB x) {cs : List Nat} (h1 : cs.length = g) (h2 : ∀ c ∈ cs, c ≤ 3) (h3 : 0 < cs.sum) : BetH g 43 4 (shr cs) m where
  g0 := g0
  g5 := by omega
  k10 := by decide
  b50 := by decide
  len := by unfold shr; rw [List.length_map, h1]
  nn := fun q hq => (shr_bt h3 (by have := sum_le h2; omega) h2 q hq).1
  bt := fun q hq => (shr_bt h3 (by have := sum_le h2; omega) h2 q hq).2
  one := shr_one h3
  mlen := by omega
  rows := fun x hx => ⟨(hm x hx).1, row_bt (hm x hx) (by decide) (two_pow (by decide)), fun q hq => ((hm x hx).2 q hq).2⟩
theorem t7 (hd : Pen k d) (g0 : 0 < g) (g4 : g ≤ 4) (hk : k + 20 < 900) (h8 : NoIo s8) : ∃ (cs : List Nat) (d' : Dt), cs.length = g ∧ (∀ c ∈ cs, c ≤ 3) ∧ 0 < cs.sum ∧ Pen (k + 6) d' ∧
    b_law_1_7 (T s0 (.own d) s2 (.imm (ni g)) s4 s5 s6 s7 s8 s9 s10 s11 s12) = .ok (.nx, T s0 (.own d') s2 (.imm (ni g)) s4 s5 s6 s7 (.own (.lst ((shr cs).map fr))) s9 s10 s11 s12) := by
  obtain ⟨cs, d', h1, h2, h3, hp, e⟩ := mix_ok hd g0 (show g ≤ 5 by omega) (by omega)
  refine ⟨cs, d', h1, h2, h3, hp, ?_⟩
  unfold b_law_1_7
  refine set_fresh (e := T s0 (.own d') s2 (.imm (ni g)) s4 s5 s6 s7 s8 s9 s10 s11 s12) (s := s8) ?_ rfl h8
  unfold T
  generalize Dt.lst ((shr cs).map fr) = SL at *
  simp [dCallIo, isOwn, aCons, aNil, dVar, Val.d, asIo, e, asResIo]
theorem lone_mx (g0 : 0 < g) {i : Nat} (hi : i < g) (k : Nat) : Mx g k (lone g i 1) where
  len := by unfold lone; rw [List.length_map, List.length_range]
  nn := fun q hq => by
    obtain ⟨j, _, rfl⟩ := List.mem_map.mp hq
    split
    · decide
    · exact Rat.le_refl
  bt := fun q hq => by
    obtain ⟨j, _, rfl⟩ := List.mem_map.mp hq
    split
    · exact bt_one _
    · exact bt_zero _
  one := by
    unfold lone
    rw [rsum_one (a := i) List.nodup_range (List.mem_range.mpr hi) fun j _ ne => if_neg ne, if_pos rfl]
def loneE : DE := (dLc [13] (itRng1 (aCons (dVar 3) aNil)) (gSet 13) dYes (dTup (aCons (dCallB bInt (aCons (dBin (eqS false) (dVar 13) (dC (.int 0))) aNil)) (aCons (dC (.int 1)) aNil))))
theorem loneE_ok (g4 : g ≤ 4) : loneE (T s0 s1 s2 (.imm (ni g)) s4 s5 s6 s7 s8 s9 s10 s11 s12) = .ok (.fresh (.lst ((lone g 0 1).map fr)), T s0 s1 s2 (.imm (ni g)) s4 s5 s6 s7 s8 s9 s10 s11 s12) := by
  have lc : lcLoop [13] (gSet 13) dYes (dTup (aCons (dCallB bInt (aCons (dBin (eqS false) (dVar 13) (dC (.int 0))) aNil)) (aCons (dC (.int 1)) aNil))) ((List.range g).map ni) (T s0 s1 s2 (.imm (ni g)) s4 s5 s6 s7 s8 s9 s10 s11 s12) =
      .ok ((List.range g).map fun j => fr (if j = 0 then 1 else 0), T s0 s1 s2 (.imm (ni g)) s4 s5 s6 s7 s8 s9 s10 s11 s12) := lc_pure ni (fun j => fr (if j = 0 then 1 else 0)) (List.range g) fun j _ => by
    have q : eqS false (ni j) (.int 0) = .ok (.imm (.bl (decide (j = 0)))) := ni_eq j 0
    have bt := b_int true
    have bf := b_int false
    unfold T
    by_cases h : j = 0
    · rw [decide_eq_true h] at q
      rw [if_pos h]
      have z : fr 1 = .tup [ni 1, .int 1] := rfl
      rw [z]
      generalize ni j = J at *
      simp [lcTurn, dYes, Res.hard, wipeE, dTest, dBin, dVar, dC, dMove, dUn, dIf, dTru, dAnd, dOr, dNot, tAndD, tOrD, tNotD, dTup, dLst, aCons, aNil, aStar, dCallB, dCall, dIxS, asB, asTru, truD, Val.d, sSeq, seqK, sIf, sRet, sRetN, sExpr, sSet, setVal, sAsg, gDone, sPar, sNext, itRng1, itRng2, itSeq, gSet, gTupD, gsCons, gsNil, canSet, slotD, seqD, Src.d, Src.ok, asRes, runF, env0, outOf, sizeLine, Res.map, q, bt]
    · rw [decide_eq_false h] at q
      rw [if_neg h]
      have z : fr 0 = .tup [ni 0, .int 1] := rfl
      rw [z]
      generalize ni j = J at *
      simp [lcTurn, dYes, Res.hard, wipeE, dTest, dBin, dVar, dC, dMove, dUn, dIf, dTru, dAnd, dOr, dNot, tAndD, tOrD, tNotD, dTup, dLst, aCons, aNil, aStar, dCallB, dCall, dIxS, asB, asTru, truD, Val.d, sSeq, seqK, sIf, sRet, sRetN, sExpr, sSet, setVal, sAsg, gDone, sPar, sNext, itRng1, itRng2, itSeq, gSet, gTupD, gsCons, gsNil, canSet, slotD, seqD, Src.d, Src.ok, asRes, runF, env0, outOf, sizeLine, Res.map, q, bf]
  have dl := dlc_of (vs := [13]) (g := gSet 13) (t := dYes) (rng1_okR (i := 3) (env := T s0 s1 s2 (.imm (ni g)) s4 s5 s6 s7 s8 s9 s10 s11 s12) (n := g) rfl (by omega)) rfl (by rw [List.length_map, List.length_range, sizeLine_is]; omega) lc
  unfold loneE
  rw [dl]
  unfold lone
  rw [List.map_map]
  rfl
theorem shr_even (g0 : 0 < g) : (shr (List.replicate g 1)).map fr = List.replicate g (fr ((1 : Rat) / (g : Rat))) := by
  unfold shr
  rw [List.map_replicate, List.map_replicate, List.sum_replicate_nat, Nat.mul_one]
  rfl
def evenE : DE := (dBin opMul (dLst (aCons (dCall F__law_low ⟨2, [], [.pos 0, .pos 1]⟩ (aCons (dC (.int 1)) (aCons (dVar 3) aNil)) aNil) aNil)) (dVar 3))
theorem evenE_ok (g0 : 0 < g) (g4 : g ≤ 4) : evenE (T s0 s1 s2 (.imm (ni g)) s4 s5 s6 s7 s8 s9 s10 s11 s12) = .ok (.fresh (.lst ((shr (List.replicate g 1)).map fr)), T s0 s1 s2 (.imm (ni g)) s4 s5 s6 s7 s8 s9 s10 s11 s12) := by
  have sm : ∀ {x : Nat}, x ≤ 15 → x < 2 ^ 13500 := fun h => Nat.lt_of_le_of_lt h (Nat.lt_of_lt_of_le (show 15 < 2 ^ 4 by decide) (two_pow (by decide)))
  have lo := low_okI (a := 1) (b := (g : Int)) (by omega) (sm (by decide)) (by rw [Int.natAbs_natCast]; exact sm (by omega))
  rw [Rat.intCast_natCast] at lo
  have lo : F__law_low [.int 1, ni g] = .ok (.imm (fr ((1 : Rat) / (g : Rat))), none) := lo
  have r := repN (fr ((1 : Rat) / (g : Rat))) (n := g) (by omega)
  rw [shr_even g0]
  unfold evenE T
  generalize List.replicate g (fr ((1 : Rat) / (g : Rat))) = R at *
  generalize fr ((1 : Rat) / (g : Rat)) = FG at *
  simp [dTest, dBin, dVar, dC, dMove, dUn, dIf, dTru, dAnd, dOr, dNot, tAndD, tOrD, tNotD, dTup, dLst, aCons, aNil, aStar, dCallB, dCall, dIxS, asB, asTru, truD, Val.d, sSeq, seqK, sIf, sRet, sRetN, sExpr, sSet, setVal, sAsg, gDone, sPar, sNext, itRng1, itRng2, itSeq, gSet, gTupD, gsCons, gsNil, canSet, slotD, seqD, Src.d, Src.ok, asRes, runF, env0, outOf, sizeLine, Res.map, lo, r]
theorem call_d {F : List Dt → FR} {sh : Shape} {fa fb : DE} {e e1 e2 : Env'} {v w x : Val} (hsh : sh = ⟨2, [], [.pos 0, .pos 1]⟩) (h1 : fa e = .ok (v, e1)) (h2 : fb e1 = .ok (w, e2)) (h : F [v.d, w.d] = .ok (x, none)) : dCall F sh (aCons fa (aCons fb aNil)) aNil e = .ok (x, e2) := by
  subst hsh
  simp only [dCall, aCons, aNil, h1, h2, Res.bind_ok, List.length_cons, List.length_nil, Nat.zero_add, Nat.reduceAdd, Src.d, Src.ok, List.map_cons, List.map_nil, List.getElem?_cons_zero, List.getElem?_cons_succ, Option.getD_some, h, asRes, List.all_cons, List.all_nil, Nat.reduceLT, decide_true, Bool.and_true, Bool.and_self, and_self, if_true]
theorem t8 (g0 : 0 < g) (g4 : g ≤ 4) (hl : m.length ≤ 6) (hm : ∀ x ∈ m, RowB g EE BB x) {cs : List Nat} (h1 : cs.length = g) (h2 : ∀ c ∈ cs, c ≤ 3) (h3 : 0 < cs.sum) (h9 : NoIo s9) : ∃ S : List (List Rat), (∀ s ∈ S, Mx g MB s) ∧ S.length ≤ 4 ∧
    b_law_1_8 (T s0 s1 s2 (.imm (ni g)) (.imm (.lst (m.map rowF))) s5 s6 s7 (.own (.lst ((shr cs).map fr))) s9 s10 s11 s12) = .ok (.nx, T s0 s1 s2 (.imm (ni g)) (.imm (.lst (m.map rowF))) s5 s6 s7 (.imm (.lst ((shr cs).map fr))) (.own (.lst (S.map fun s => .lst (s.map fr)))) s10 s11 s12) := by
  have sh := sh_rowsF (E := EE) (B := BB) (lt60 (k := 4) (by decide) (by decide)) (lt60 (k := 43) (by decide) (by decide)) (show g ≤ 5 by omega) (show m.length ≤ 12 by omega) rfl hm
  have H1 := betH_of g0 g4 hl hm h1 h2 h3
  have H2 := betH_of g0 g4 hl hm (cs := List.replicate g 1) List.length_replicate (fun c hc => by rw [(List.mem_replicate.mp hc).2]; decide) (by rw [List.sum_replicate_nat]; omega)
  obtain ⟨b1, v1, e1, d1, m1⟩ := bettered_ok H1 sh
  obtain ⟨b2, v2, e2, d2, m2⟩ := bettered_ok H2 sh
  refine ⟨[shr cs, b1, lone g 0 1, b2], fun s hs => ?_, by simp, ?_⟩
  · simp only [List.mem_cons, List.not_mem_nil, or_false] at hs
    rcases hs with rfl | rfl | rfl | rfl
    · exact mx_of H1
    · exact m1
    · exact lone_mx g0 g0 _
    · exact m2
  · let E := T s0 s1 s2 (.imm (ni g)) (.imm (.lst (m.map rowF))) s5 s6 s7 (.imm (.lst ((shr cs).map fr))) s9 s10 s11 s12
    have c1 : dCall F__law_bettered ⟨2, [], [.pos 0, .pos 1]⟩ (aCons (dVar 8) (aCons (dVar 4) aNil)) aNil E = .ok (v1, E) := call_d rfl (v := .imm (.lst ((shr cs).map fr))) (w := .imm (.lst (m.map rowF))) rfl rfl e1
    have c2 : dCall F__law_bettered ⟨2, [], [.pos 0, .pos 1]⟩ (aCons evenE (aCons (dVar 4) aNil)) aNil E = .ok (v2, E) := call_d rfl (v := .fresh (.lst ((shr (List.replicate g 1)).map fr))) (w := .imm (.lst (m.map rowF))) (evenE_ok g0 g4) rfl e2
    have c3 : loneE E = .ok (.fresh (.lst ((lone g 0 1).map fr)), E) := loneE_ok g4
    have c0 : dVar 8 (T s0 s1 s2 (.imm (ni g)) (.imm (.lst (m.map rowF))) s5 s6 s7 (.own (.lst ((shr cs).map fr))) s9 s10 s11 s12) = .ok (.imm (.lst ((shr cs).map fr)), E) := rfl
    have eq : b_law_1_8 = sSet 9 (dLst (aCons (dVar 8) (aCons (dCall F__law_bettered ⟨2, [], [.pos 0, .pos 1]⟩ (aCons (dVar 8) (aCons (dVar 4) aNil)) aNil) (aCons loneE (aCons (dCall F__law_bettered ⟨2, [], [.pos 0, .pos 1]⟩ (aCons evenE (aCons (dVar 4) aNil)) aNil) aNil))))) := rfl
    rw [eq]
    refine set_fresh (e := E) (s := s9) ?_ rfl h9
    generalize dCall F__law_bettered ⟨2, [], [.pos 0, .pos 1]⟩ (aCons (dVar 8) (aCons (dVar 4) aNil)) aNil = D1 at c1 ⊢
    generalize dCall F__law_bettered ⟨2, [], [.pos 0, .pos 1]⟩ (aCons evenE (aCons (dVar 4) aNil)) aNil = D2 at c2 ⊢
    unfold dLst
    simp only [aCons, aNil, c0, c1, c2, c3, Res.bind_ok, d1, d2]
    simp [Val.d, sizeLine_is]
end
end G


set_option maxRecDepth 100000
set_option maxHeartbeats 4000000
set_option exponentiation.threshold 30000
namespace G
open PySem PySem.Spec PyProof.Rows L2
/-! Rs10: k72's turn: each mix. -/
theorem rep2 (d : Dt) : opMul (.lst [d]) (.int 2) = .ok (.fresh (.lst [d, d])) := repN d (n := 2) (by decide)
section
variable {s0 s1 s2 s3 s4 s5 s6 s7 s8 s9 s10 s11 s12 : Slot} {g : Nat} {m : List (List Rat)} {s : List Rat}
theorem mx_worth (g0 : 0 < g) (g4 : g ≤ 4) (hl : m.length ≤ 6) (hm : ∀ x ∈ m, RowB g EE BB x) (hs : Mx g MB s) : Bt 5600 (worth s m) := by
  have F : FitM g EE BB m.length 43 140 := fitM_of g0 g4 hl (by decide) (by decide) (by decide) (Nat.le_refl _) rfl rfl
  have h := rprod_bt (worth_terms F hm hs)
  rw [List.length_map] at h
  refine h.mono ?_
  have := Nat.mul_le_mul_right (5 * (140 + 43 + 1)) hl
  omega
theorem t9_0 (g0 : 0 < g) (g4 : g ≤ 4) (hl : m.length ≤ 6) (hm : ∀ x ∈ m, RowB g EE BB x) (hs : Mx g MB s) (h11 : NoIo s11) :
    b_law_1_9_0 (T s0 s1 s2 s3 (.imm (.lst (m.map rowF))) s5 s6 (.imm (fr (wi g m))) s8 s9 (.imm (.lst (s.map fr))) s11 s12) = .ok (.nx, T s0 s1 s2 s3 (.imm (.lst (m.map rowF))) s5 s6 (.imm (fr (wi g m))) s8 s9 (.imm (.lst (s.map fr))) (.imm (fr (wi g m - worth s m))) s12) := by
  have wo := lworth_ok (m := m) (b := 43) (show g ≤ 5 by omega) hs.len (fun d hd => ⟨(hm d hd).1, row_bt (hm d hd) (by decide) (two_pow (by decide))⟩) hs.bt (by decide) (by
    have := Nat.mul_le_mul_right (5 * (140 + 43 + 1)) hl
    show m.length * (5 * (140 + 43 + 1)) < 6000
    omega)
  have wb := mx_worth g0 g4 hl hm hs
  have wz := wb.sz (by decide)
  have t := times_raw (a := -1) (b := 1) (c := (worth s m).num) (d := (worth s m).den) (by decide) (worth s m).den_pos (Nat.one_lt_two_pow (by decide)) (Nat.one_lt_two_pow (by decide)) wz.1 wz.2
  rw [num_div] at t
  have e1 : ((-1 : Int) : Rat) / ((1 : Nat) : Rat) * worth s m = -(worth s m) := by
    have a : ((1 : Nat) : Rat) = 1 := rfl
    have b : ((-1 : Int) : Rat) = -1 := rfl
    rw [a, b]
    grind
  rw [e1] at t
  have t : F__law_times [.tup [.int (-1), .int 1], fr (worth s m)] = .ok (.imm (fr (-(worth s m))), none) := t
  have p := plus_ok (wi_bz g0 g4 hl hm).1 (sz_neg wz)
  rw [← Rat.sub_eq_add_neg] at p
  unfold b_law_1_9_0
  refine set_imm (e := T s0 s1 s2 s3 (.imm (.lst (m.map rowF))) s5 s6 (.imm (fr (wi g m))) s8 s9 (.imm (.lst (s.map fr))) s11 s12) (s := s11) ?_ rfl h11
  unfold T
  generalize fr (wi g m - worth s m) = W4 at *
  generalize fr (-(worth s m)) = W3 at *
  generalize fr (worth s m) = W2 at *
  generalize fr (wi g m) = W1 at *
  generalize Dt.lst (s.map fr) = S at *
  generalize Dt.lst (m.map rowF) = M at *
  simp [dTest, dBin, dVar, dC, dMove, dUn, dIf, dTru, dAnd, dOr, dNot, tAndD, tOrD, tNotD, dTup, dLst, aCons, aNil, aStar, dCallB, dCall, dIxS, asB, asTru, truD, Val.d, sSeq, seqK, sIf, sRet, sRetN, sExpr, sSet, setVal, sAsg, gDone, sPar, sNext, itRng1, itRng2, itSeq, gSet, gTupD, gsCons, gsNil, canSet, slotD, seqD, Src.d, Src.ok, asRes, runF, env0, outOf, sizeLine, Res.map, wo, i_neg, t, p]
theorem t9_1 (hl : s.length ≤ 1000) (h12 : NoIo s12) :
    b_law_1_9_1 (T s0 s1 s2 s3 s4 s5 s6 s7 s8 s9 (.imm (.lst (s.map fr))) s11 s12) = .ok (.nx, T s0 s1 s2 s3 s4 s5 s6 s7 s8 s9 (.imm (.lst (s.map fr))) s11 (.own (.lst (s.map nm)))) := by
  have lc : lcLoop [22] (gSet 22) dYes (dCall F__law_number ⟨1, [], [.pos 0]⟩ (aCons (dVar 22) aNil) aNil) (s.map fr) (T s0 s1 s2 s3 s4 s5 s6 s7 s8 s9 (.imm (.lst (s.map fr))) s11 s12) = .ok (s.map nm, T s0 s1 s2 s3 s4 s5 s6 s7 s8 s9 (.imm (.lst (s.map fr))) s11 s12) := lc_pure fr nm s fun q _ => by
    have n := number_ok q
    unfold T
    generalize fr q = Q at *
    generalize nm q = Q' at *
    generalize Dt.lst (s.map fr) = S at *
    simp [lcTurn, dYes, Res.hard, wipeE, dTest, dBin, dVar, dC, dMove, dUn, dIf, dTru, dAnd, dOr, dNot, tAndD, tOrD, tNotD, dTup, dLst, aCons, aNil, aStar, dCallB, dCall, dIxS, asB, asTru, truD, Val.d, sSeq, seqK, sIf, sRet, sRetN, sExpr, sSet, setVal, sAsg, gDone, sPar, sNext, itRng1, itRng2, itSeq, gSet, gTupD, gsCons, gsNil, canSet, slotD, seqD, Src.d, Src.ok, asRes, runF, env0, outOf, sizeLine, Res.map, n]
  have dl := dlc_of (vs := [22]) (g := gSet 22) (t := dYes) (it := itSeq (dVar 10)) (env := T s0 s1 s2 s3 s4 s5 s6 s7 s8 s9 (.imm (.lst (s.map fr))) s11 s12) (e1 := T s0 s1 s2 s3 s4 s5 s6 s7 s8 s9 (.imm (.lst (s.map fr))) s11 s12) rfl rfl (by rw [List.length_map, sizeLine_is]; omega) lc
  unfold b_law_1_9_1
  refine set_fresh (e := T s0 s1 s2 s3 s4 s5 s6 s7 s8 s9 (.imm (.lst (s.map fr))) s11 s12) (s := s12) ?_ rfl h12
  rw [dl]
  rfl
theorem t9_2 (g0 : 0 < g) (g4 : g ≤ 4) (hl : m.length ≤ 6) (hm : ∀ x ∈ m, RowB g EE BB x) (hs : Mx g MB s) :
    b_law_1_9_2 (T s0 s1 s2 (.imm (ni g)) s4 (.imm (.lst (m.map rowL))) s6 s7 s8 s9 s10 (.imm (fr (wi g m - worth s m))) (.own (.lst (s.map nm)))) = .ok (.nx, T s0 s1 s2 (.imm (ni g)) s4 (.imm (.lst (m.map rowL))) s6 s7 s8 s9 s10 (.imm (fr (wi g m - worth s m))) (.imm (.lst (s.map nm)))) := by
  have F : FitM g EE BB m.length 43 140 := fitM_of g0 g4 hl (by decide) (by decide) (by decide) (Nat.le_refl _) rfl rfl
  have e1 := even_spare_ok F rfl hm hs rowL (fun x => .inl rfl) (d := .lst (m.map rowL)) (ds := .lst (s.map nm)) (.inl rfl) (.inl rfl)
  have e2 := even_spare_ok F rfl hm hs rowL (fun x => .inl rfl) (d := .lst (m.map rowL)) (ds := .tup (s.map nm)) (.inl rfl) (.inr rfl)
  have n := number_ok (wi g m - worth s m)
  have r2 := rep2 (nm (wi g m - worth s m))
  have bt : bTuple [.lst (s.map nm)] = .ok (.imm (.tup (s.map nm))) := rfl
  have wb := mx_worth g0 g4 hl hm hs
  have sb : Bt 12000 (wi g m - worth s m) := by
    rw [Rat.sub_eq_add_neg]
    exact ((wi_bz g0 g4 hl hm).2.add wb.neg).mono (by decide)
  have sh : Sh 60000 2 (.lst [nm (wi g m - worth s m), nm (wi g m - worth s m)]) := (Sh.lst (k := 25809) (n := 1) fun d hd => by
    have : d = nm (wi g m - worth s m) := by simpa using hd
    rw [this]
    exact sh_numB sb).mono (by simp) (by decide)
  obtain ⟨t, ht⟩ := sh.repr (by decide) (by decide)
  -- never below 0
  have le := spare_nonneg g0 hs.len hs.nn hs.one (m := m) fun x hx q hq => ((hm x hx).2 q hq).2
  have nn : 0 ≤ wi g m - worth s m := (Rat.le_iff_sub_nonneg _ _).mp le
  have nn := Rat.num_nonneg.mpr nn
  have x0 : opIx (fr (wi g m - worth s m)) (.int 0) = .ok (.imm (.int (wi g m - worth s m).num)) := jxt0 _ _
  have lt := i_lt (wi g m - worth s m).num 0
  rw [decide_eq_false (by omega)] at lt
  have e1 : F_even_spare [ni g, .lst (m.map rowL), .lst (s.map nm)] = .ok (.imm (nm (wi g m - worth s m)), none) := e1
  have e2 : F_even_spare [ni g, .lst (m.map rowL), .tup (s.map nm)] = .ok (.imm (nm (wi g m - worth s m)), none) := e2
  unfold b_law_1_9_2
  refine if_no ?_
  unfold T
  generalize (wi g m - worth s m).num = N0 at *
  generalize nm (wi g m - worth s m) = W1 at *
  generalize fr (wi g m - worth s m) = W2 at *
  generalize s.map nm = S at *
  generalize Dt.lst (m.map rowL) = M at *
  simp [tOrD, dTest, dBin, dCallB, dCall, dLst, aCons, aNil, dVar, dC, dIxS, slotD, Val.d, Src.d, Src.ok, e1, e2, bt, n, r2, asRes, ht, str_neS, asB, sizeLine_is, x0, lt]
theorem t9_turn (g0 : 0 < g) (g4 : g ≤ 4) (hl : m.length ≤ 6) (hm : ∀ x ∈ m, RowB g EE BB x) (hs : Mx g MB s) (h11 : NoIo s11) (h12 : NoIo s12) :
    b_law_1_9_b (T s0 s1 s2 (.imm (ni g)) (.imm (.lst (m.map rowF))) (.imm (.lst (m.map rowL))) s6 (.imm (fr (wi g m))) s8 s9 (.imm (.lst (s.map fr))) s11 s12) =
      .ok (.nx, T s0 s1 s2 (.imm (ni g)) (.imm (.lst (m.map rowF))) (.imm (.lst (m.map rowL))) s6 (.imm (fr (wi g m))) s8 s9 (.imm (.lst (s.map fr))) (.imm (fr (wi g m - worth s m))) (.imm (.lst (s.map nm)))) := by
  unfold b_law_1_9_b
  rw [seq_nx (t9_0 g0 g4 hl hm hs h11), seq_nx (t9_1 (by rw [hs.len]; omega) h12)]
  exact t9_2 g0 g4 hl hm hs
theorem t9 (g0 : 0 < g) (g4 : g ≤ 4) (hl : m.length ≤ 6) (hm : ∀ x ∈ m, RowB g EE BB x) {S : List (List Rat)} (hS : ∀ s ∈ S, Mx g MB s) (h10 : NoIo s10) (h11 : NoIo s11) (h12 : NoIo s12) :
    ∃ t10 t11 t12, NoIo t10 ∧ NoIo t11 ∧ NoIo t12 ∧ b_law_1_9 (T s0 s1 s2 (.imm (ni g)) (.imm (.lst (m.map rowF))) (.imm (.lst (m.map rowL))) s6 (.imm (fr (wi g m))) s8 (.own (.lst (S.map fun s => .lst (s.map fr)))) s10 s11 s12) =
      .ok (.nx, T s0 s1 s2 (.imm (ni g)) (.imm (.lst (m.map rowF))) (.imm (.lst (m.map rowL))) s6 (.imm (fr (wi g m))) s8 (.imm (.lst (S.map fun s => .lst (s.map fr)))) t10 t11 t12) := by
  obtain ⟨e', l, t10, t11, t12, n10, n11, n12, he⟩ := loop_inv (g := gSet 10) (f := b_law_1_9_b) (fun i e => ∃ t10 t11 t12, NoIo t10 ∧ NoIo t11 ∧ NoIo t12 ∧ e = T s0 s1 s2 (.imm (ni g)) (.imm (.lst (m.map rowF))) (.imm (.lst (m.map rowL))) s6 (.imm (fr (wi g m))) s8 (.imm (.lst (S.map fun s => .lst (s.map fr)))) t10 t11 t12)
    (S.map fun s => .lst (s.map fr)) (k := 0) ⟨s10, s11, s12, h10, h11, h12, rfl⟩ fun i hi e ⟨t10, t11, t12, n10, n11, n12, he⟩ => by
      subst he
      rw [List.length_map] at hi
      have o := t9_turn (s0 := s0) (s1 := s1) (s2 := s2) (s6 := s6) (s8 := s8) (s9 := .imm (.lst (S.map fun s => .lst (s.map fr)))) g0 g4 hl hm (hS _ (List.getElem_mem hi)) n11 n12
      exact ⟨_, _, by rw [List.getElem_map]; exact gset_ok (s := t10) rfl n10, o, _, _, _, noio_imm _, noio_imm _, noio_imm _, rfl⟩
  rw [he] at l
  exact ⟨t10, t11, t12, n10, n11, n12, for_of (it := itSeq (dVar 9)) rfl l⟩
end
/-- between two turns -/
def Mid (ns : List Int) (k : Nat) (e : Env') : Prop := ∃ d s2 s3 s4 s5 s6 s7 s8 s9 s10 s11 s12, Pen k d ∧ NoIo s2 ∧ NoIo s3 ∧ NoIo s4 ∧ NoIo s5 ∧ NoIo s6 ∧ NoIo s7 ∧ NoIo s8 ∧ NoIo s9 ∧ NoIo s10 ∧ NoIo s11 ∧ NoIo s12 ∧ e = T (.imm (.scr ns)) (.own d) s2 s3 s4 s5 s6 s7 s8 s9 s10 s11 s12
theorem turn_ok {ns : List Int} {k : Nat} {e : Env'} {t : Nat} (hk : k + 200 < 900) (h : Mid ns k e) : ∃ e1 e2, gSet 2 (ni t) e = .ok e1 ∧ b_law_1_b e1 = .ok (.nx, e2) ∧ Mid ns (k + 69) e2 := by
  obtain ⟨d, s2, s3, s4, s5, s6, s7, s8, s9, s10, s11, s12, hp, h2, h3, h4, h5, h6, h7, h8, h9, h10, h11, h12, rfl⟩ := h
  obtain ⟨g, d0, g0, g4, p0, e0⟩ := t0 (s0 := .imm (.scr ns)) (s2 := .imm (ni t)) (s4 := s4) (s5 := s5) (s6 := s6) (s7 := s7) (s8 := s8) (s9 := s9) (s10 := s10) (s11 := s11) (s12 := s12) hp (by omega) h3
  obtain ⟨m0, d1, l1, m1, p1, e1⟩ := t1 (s0 := .imm (.scr ns)) (s2 := .imm (ni t)) (s4 := s4) (s5 := s5) (s6 := s6) (s7 := s7) (s8 := s8) (s9 := s9) (s10 := s10) (s11 := s11) (s12 := s12) p0 g0 g4 (by omega) h4
  obtain ⟨m, d2, t4', hl, hm, p2, o4, e2⟩ := t2 (s0 := .imm (.scr ns)) (s2 := .imm (ni t)) (s5 := s5) (s6 := s6) (s7 := s7) (s8 := s8) (s9 := s9) (s10 := s10) (s11 := s11) (s12 := s12) p1 g0 g4 (by omega) l1 m1
  have e3 := t3 (s0 := .imm (.scr ns)) (s1 := .own d2) (s2 := .imm (ni t)) (s3 := .imm (ni g)) (s6 := s6) (s7 := s7) (s8 := s8) (s9 := s9) (s10 := s10) (s11 := s11) (s12 := s12) g4 hl hm o4 h5
  have e4 := t4 (s0 := .imm (.scr ns)) (s1 := .own d2) (s2 := .imm (ni t)) (s5 := .own (.lst (m.map rowL))) (s7 := s7) (s8 := s8) (s9 := s9) (s10 := s10) (s11 := s11) (s12 := s12) g0 g4 hl hm h6
  have e5 := t5 (s0 := .imm (.scr ns)) (s1 := .own d2) (s2 := .imm (ni t)) (s5 := .own (.lst (m.map rowL))) (s8 := s8) (s9 := s9) (s10 := s10) (s11 := s11) (s12 := s12) g0 g4 hl hm h7
  have e6 := t6 (s0 := .imm (.scr ns)) (s1 := .own d2) (s2 := .imm (ni t)) (s7 := .imm (fr (wi g m))) (s8 := s8) (s9 := s9) (s10 := s10) (s11 := s11) (s12 := s12) g0 g4 hl hm (s4 := .imm (.lst (m.map rowF)))
  obtain ⟨cs, d3, c1, c2, c3, p3, e7⟩ := t7 (s0 := .imm (.scr ns)) (s2 := .imm (ni t)) (s4 := .imm (.lst (m.map rowF))) (s5 := .imm (.lst (m.map rowL))) (s6 := .imm (fr (pu g m))) (s7 := .imm (fr (wi g m))) (s9 := s9) (s10 := s10) (s11 := s11) (s12 := s12) p2 g0 g4 (by omega) h8
  obtain ⟨S, hS, hSl, e8⟩ := t8 (s0 := .imm (.scr ns)) (s1 := .own d3) (s2 := .imm (ni t)) (s5 := .imm (.lst (m.map rowL))) (s6 := .imm (fr (pu g m))) (s7 := .imm (fr (wi g m))) (s10 := s10) (s11 := s11) (s12 := s12) g0 g4 hl hm c1 c2 c3 h9
  obtain ⟨t10, t11, t12, n10, n11, n12, e9⟩ := t9 (s0 := .imm (.scr ns)) (s1 := .own d3) (s2 := .imm (ni t)) (s6 := .imm (fr (pu g m))) (s8 := .imm (.lst ((shr cs).map fr))) g0 g4 hl hm hS h10 h11 h12
  refine ⟨_, _, gset_ok (s := s2) rfl h2, ?_, d3, .imm (ni t), .imm (ni g), .imm (.lst (m.map rowF)), .imm (.lst (m.map rowL)), .imm (fr (pu g m)), .imm (fr (wi g m)), .imm (.lst ((shr cs).map fr)), .imm (.lst (S.map fun s => .lst (s.map fr))), t10, t11, t12, ?_, noio_imm _, noio_imm _, noio_imm _, noio_imm _, noio_imm _, noio_imm _, noio_imm _, noio_imm _, n10, n11, n12, rfl⟩
  · unfold b_law_1_b
    show sSeq b_law_1_0 _ (T (.imm (.scr ns)) (.own d) (.imm (ni t)) s3 s4 s5 s6 s7 s8 s9 s10 s11 s12) = _
    rw [seq_nx e0, seq_nx e1, seq_nx e2, seq_nx e3, seq_nx e4, seq_nx e5, seq_nx e6, seq_nx e7, seq_nx e8]
    exact e9
  · obtain ⟨ns, pl, rest, ep, hpl⟩ := p3
    exact ⟨ns, pl, rest, ep, by omega⟩
end G


set_option maxRecDepth 100000
set_option maxHeartbeats 4000000
set_option exponentiation.threshold 30000
namespace G
open PySem PySem.Spec PyProof.Rows L2
/-! Rs11a: the law price by reckoning. -/
def chkP (g n : Nat) : Bool := match F__law_price [ni g, ni n] with
  | .ok (.imm (.tup [.int a, .int b]), none) => decide (a ≤ (fct g n : Int) * b) && (decide (a < (fct g n : Int) * b) == (decide (1 < g) && decide (1 < n))) && decide (a.natAbs < 2 ^ 60) && decide (b.natAbs < 2 ^ 60) && decide (fct g n < 2 ^ 60)
  | _ => false
theorem chk1 : (chkP 1 0 && chkP 1 1 && chkP 1 2 && chkP 1 3 && chkP 1 4) = true := by kernel_rfl
theorem chk2 : (chkP 2 0 && chkP 2 1 && chkP 2 2 && chkP 2 3 && chkP 2 4) = true := by kernel_rfl
theorem chk3 : (chkP 3 0 && chkP 3 1 && chkP 3 2) = true := by kernel_rfl
theorem chk33 : chkP 3 3 = true := by kernel_rfl
theorem chk34 : chkP 3 4 = true := by kernel_rfl
theorem chk_all {g n : Nat} (hg : g = 1 ∨ g = 2 ∨ g = 3) (hn : n < 5) : chkP g n = true := by
  have h1 := chk1
  have h2 := chk2
  have h3 := chk3
  have h33 := chk33
  have h4 := chk34
  simp only [Bool.and_eq_true] at h1 h2 h3
  obtain ⟨⟨⟨⟨a0, a1⟩, a2⟩, a3⟩, a4⟩ := h1
  obtain ⟨⟨⟨⟨b0, b1⟩, b2⟩, b3⟩, b4⟩ := h2
  obtain ⟨⟨c0, c1⟩, c2⟩ := h3
  obtain rfl | rfl | rfl | rfl | rfl : n = 0 ∨ n = 1 ∨ n = 2 ∨ n = 3 ∨ n = 4 := by omega
  · rcases hg with rfl | rfl | rfl
    · exact a0
    · exact b0
    · exact c0
  · rcases hg with rfl | rfl | rfl
    · exact a1
    · exact b1
    · exact c1
  · rcases hg with rfl | rfl | rfl
    · exact a2
    · exact b2
    · exact c2
  · rcases hg with rfl | rfl | rfl
    · exact a3
    · exact b3
    · exact h33
  · rcases hg with rfl | rfl | rfl
    · exact a4
    · exact b4
    · exact h4
theorem price_ok {g n : Nat} (hg : g = 1 ∨ g = 2 ∨ g = 3) (hn : n < 5) : ∃ a b : Int, F__law_price [ni g, ni n] = .ok (.imm (.tup [.int a, .int b]), none) ∧ a ≤ (fct g n : Int) * b ∧ decide (a < (fct g n : Int) * b) = (decide (1 < g) && decide (1 < n)) ∧ a.natAbs < 2 ^ 60 ∧ b.natAbs < 2 ^ 60 ∧ fct g n < 2 ^ 60 := by
  have h := chk_all hg hn
  unfold chkP at h
  split at h
  · rename_i a b e
    simp only [Bool.and_eq_true, decide_eq_true_eq, beq_iff_eq] at h
    obtain ⟨⟨⟨⟨h1, h2⟩, h3⟩, h4⟩, h5⟩ := h
    exact ⟨a, b, e, h1, h2, h3, h4, h5⟩
  · cases h
end G


set_option maxRecDepth 100000
set_option maxHeartbeats 4000000
set_option exponentiation.threshold 30000
namespace G
open PySem PySem.Spec PyProof.Rows L2
/-! Rs11: k72's end. -/
theorem bl_eq (a b : Bool) : eqS false (.bl a) (.bl b) = .ok (.imm (.bl (a == b))) := by
  cases a <;> cases b <;> rfl
/-- the slots at the law's end -/
abbrev X (s0 s1 s2 s3 s4 s5 s6 s7 s8 s9 s10 s11 s12 s13 s14 s15 s16 s17 s18 : Slot) : Env' := [s0, s1, s2, s3, s4, s5, s6, s7, s8, s9, s10, s11, s12, s13, s14, s15, s16, s17, s18, .un, .un, .un, .un, .un]
theorem gtup3 {a b c : Nat} {env : Env'} {s1 s2 s3 : Slot} {d1 d2 d3 : Dt} (h1 : env[a]? = some s1) (hs1 : NoIo s1) (h2 : (env.set a (.imm d1))[b]? = some s2) (hs2 : NoIo s2) (h3 : ((env.set a (.imm d1)).set b (.imm d2))[c]? = some s3) (hs3 : NoIo s3) :
    gTupD 3 (gsCons (gSet a) (gsCons (gSet b) (gsCons (gSet c) gsNil))) (.tup [d1, d2, d3]) env = .ok (((env.set a (.imm d1)).set b (.imm d2)).set c (.imm d3)) := by
  simp only [gTupD, gsCons, gsNil, List.length_cons, List.length_nil, Nat.zero_add, Nat.reduceAdd, if_true, gset_ok h1 hs1, Res.bind_ok, gset_ok h2 hs2, gset_ok h3 hs3]
abbrev B7 : Nat := 8
def NumQ (d : Dt) : Prop := ∃ q : Rat, d = fr q ∧ Bz 2 B7 q ∧ 0 ≤ q
theorem nums_of : ∀ {ds : List Dt}, (∀ d ∈ ds, NumQ d) → ∃ x : List Rat, ds = x.map fr ∧ ∀ q ∈ x, Bz 2 B7 q ∧ 0 ≤ q
  | [], _ => ⟨[], rfl, fun _ h => (nomatch h)⟩
  | d :: ds, k => by
    obtain ⟨q, rfl, h1, h2⟩ := k d List.mem_cons_self
    obtain ⟨x, rfl, h3⟩ := nums_of fun y hy => k y (List.mem_cons_of_mem _ hy)
    refine ⟨q :: x, rfl, fun y hy => ?_⟩
    rcases List.mem_cons.mp hy with rfl | hy
    · exact ⟨h1, h2⟩
    · exact h3 y hy
theorem numL_q : ∀ d ∈ [Dt.tup [.int 1, .int 1], .tup [.int 7, .int 2], .tup [.int 3, .int 1], .tup [.int 0, .int 1]], NumQ d := fun d hd => by
  have i : ∀ k : Nat, k * 2 ≤ 8 → NumQ (.tup [ni k, .int 1]) := fun k hk => ⟨(k : Rat), rfl, (Bz.nat k (by decide)).mono hk, by
    have : (0 : Rat) = ((0 : Nat) : Rat) := rfl
    rw [this]
    exact_mod_cast Nat.zero_le k⟩
  simp only [List.mem_cons, List.not_mem_nil, or_false] at hd
  rcases hd with rfl | rfl | rfl | rfl
  · exact i 1 (by decide)
  · refine ⟨((7 : Int) : Rat) / ((2 : Nat) : Rat), ?_, (Bz.ofDiv 7 (b := 2) (by decide)).mono (by decide), ?_⟩
    · kernel_rfl
    · decide +kernel
  · exact i 3 (by decide)
  · exact i 0 (by decide)
theorem few5 : ∀ g, g ≤ 5 → ∀ n, n ≤ 8 → ch (n + g - 1) (g - 1) ≤ 5000 := by decide +kernel
theorem fitM5 {g n : Nat} (g0 : 0 < g) (g5 : g ≤ 5) (hn : n ≤ 7) : FitM g 2 B7 n 3 1 := by
  have a1 : g ^ n ≤ 2 ^ 21 := Nat.le_trans (Nat.pow_le_pow_left (show g ≤ 8 by omega) n) (Nat.le_trans (Nat.pow_le_pow_right (by decide) hn) (by decide))
  have a2 : 2 ^ n ≤ 2 ^ 7 := two_pow hn
  have a3 : g ^ n * B7 ≤ 2 ^ 24 := by
    show g ^ n * 8 ≤ 2 ^ 24
    omega
  have a4 : NN g B7 n ≤ 2 ^ 168 := by
    refine Nat.le_trans (NN_le g0 (by decide) n) (Nat.le_trans (Nat.pow_le_pow_left a3 n) ?_)
    rw [← Nat.pow_mul]
    exact two_pow (by omega)
  have a5 : fac (g + n) ≤ 2 ^ 64 := Nat.le_of_lt (fac_sz (by omega))
  have lt : ∀ {x k : Nat}, x ≤ 2 ^ k → k < 6000 → x < 2 ^ 6000 := fun h hk => Nat.lt_of_le_of_lt h (Nat.pow_lt_pow_right (by decide) hk)
  have d2 : 2 ^ n * fac (g + n) < 2 ^ 6000 := by
    have := Nat.mul_le_mul a2 a5
    rw [← Nat.pow_add] at this
    exact lt this (by decide)
  have n2 := Nat.mul_le_mul a1 (Nat.mul_le_mul a4 a5)
  rw [← Nat.pow_add, ← Nat.pow_add] at n2
  refine { f0 := { g0 := g0, g5 := g5, E0 := by decide, B0 := by decide, n1 := by omega, len := Nat.le_trans a1 (by decide), den := lt a2 (by decide), num := lt a4 (by decide), n2 := by omega, den2 := d2, num2 := lt n2 (by decide), few := few5 g g5 n (by omega) }, E1 := by decide, B1 := by decide, kb := by decide, w := ?_, w1 := by decide, p := ⟨by rw [Nat.mul_one]; exact d2, ?_⟩ }
  · have := Nat.mul_le_mul_right (5 * (1 + 3 + 1)) hn
    omega
  · have := Nat.mul_le_mul n2 (show 5000 ≤ 2 ^ 13 by decide)
    rw [← Nat.pow_add] at this
    exact lt this (by decide)
theorem lone_rowB {g i : Nat} {q : Rat} (hq : Bz 2 B7 q ∧ 0 ≤ q) : RowB g 2 B7 (lone g i q) := ⟨by unfold lone; rw [List.length_map, List.length_range], fun r hr => by
  obtain ⟨j, _, rfl⟩ := List.mem_map.mp hr
  split
  · exact hq
  · exact ⟨(Bz.zero (by decide)).mono (Nat.zero_le _), Rat.le_refl⟩⟩
section
variable {s0 s2 s3 s4 s5 s6 s7 s8 s9 s10 s11 s12 : Slot} {k : Nat} {d : Dt}
theorem e2 (hd : Pen k d) (hk : k + 20 < 900) (h3 : NoIo s3) : ∃ (i0 g : Nat) (qs : List Rat) (d' : Dt), i0 < g ∧ g ≤ 5 ∧ qs.length ≤ 7 ∧ (∀ q ∈ qs, Bz 2 B7 q ∧ 0 ≤ q) ∧ Pen (k + 10) d' ∧
    b_law_2 (X s0 (.own d) s2 s3 s4 s5 s6 s7 s8 s9 s10 s11 s12 .un .un .un .un .un .un) = .ok (.nx, X s0 (.own d') s2 (.imm (ni g)) s4 s5 s6 s7 s8 s9 s10 s11 s12 (.imm (ni i0)) (.imm (.lst (qs.map fr))) .un .un .un .un) := by
  obtain ⟨i0, d1, hi, p1, e1⟩ := drawC (i := 1) (k := k) (many := 2) (d := d) (mk := Slot.own) (env := X s0 (.own d) s2 s3 s4 s5 s6 s7 s8 s9 s10 s11 s12 .un .un .un .un .un .un) (e := X s0 (.own d) s2 s3 s4 s5 s6 s7 s8 s9 s10 s11 s12 .un .un .un .un .un .un) (f := dC (.int 2)) (v := .imm (ni 2)) (.inl rfl) rfl rfl rfl rfl hd (by omega) (by decide) (by decide)
  have ls : (dLst (aCons (dC (.int 2)) (aCons (dC (.int 3)) (aCons (dC (.int 5)) aNil)))) (X s0 (.own d1) s2 s3 s4 s5 s6 s7 s8 s9 s10 s11 s12 .un .un .un .un .un .un) = .ok (.fresh (.lst [ni 2, ni 3, ni 5]), X s0 (.own d1) s2 s3 s4 s5 s6 s7 s8 s9 s10 s11 s12 .un .un .un .un .un .un) := by
    simp [dLst, aCons, aNil, dC, Val.d, sizeLine_is]
    exact ⟨rfl, rfl, rfl⟩
  obtain ⟨x, hx, d2, p2, e2⟩ := oneC (i := 1) (k := k + 1) (d := d1) (mk := Slot.own) (.inl rfl) rfl ls rfl rfl p1 (by omega) (by simp) (by simp)
  obtain ⟨g, hg, g5, rfl⟩ : ∃ g, 2 ≤ g ∧ g ≤ 5 ∧ x = ni g := by
    simp only [List.mem_cons, List.not_mem_nil, or_false] at hx
    rcases hx with rfl | rfl | rfl
    · exact ⟨2, by decide, by decide, rfl⟩
    · exact ⟨3, by decide, by decide, rfl⟩
    · exact ⟨5, by decide, by decide, rfl⟩
  obtain ⟨c, d3, hc, p3, e3⟩ := drawC (i := 1) (k := k + 2) (many := 8) (d := d2) (mk := Slot.own) (env := X s0 (.own d2) s2 s3 s4 s5 s6 s7 s8 s9 s10 s11 s12 .un .un .un .un .un .un) (e := X s0 (.own d2) s2 s3 s4 s5 s6 s7 s8 s9 s10 s11 s12 .un .un .un .un .un .un) (f := dC (.int 8)) (v := .imm (ni 8)) (.inl rfl) rfl rfl rfl rfl p2 (by omega) (by decide) (by decide)
  obtain ⟨ds, e', l, h1, h2, d', hp', he⟩ := lc_count (vs := [19]) (g := gSet 19) (t := dYes) (f := dCallIo 1 2 F__law_one_of (aCons (dLst (aCons (dTup (aCons (dC (.int 1)) (aCons (dC (.int 1)) aNil))) (aCons (dTup (aCons (dC (.int 7)) (aCons (dC (.int 2)) aNil))) (aCons (dTup (aCons (dC (.int 3)) (aCons (dC (.int 1)) aNil))) (aCons (dTup (aCons (dC (.int 0)) (aCons (dC (.int 1)) aNil))) aNil))))) aNil)) ni (fun i e => ∃ d, Pen (k + 3 + i) d ∧ e = X s0 (.own d) s2 s3 s4 s5 s6 s7 s8 s9 s10 s11 s12 .un .un .un .un .un .un) NumQ (List.range c) (k := 0) (env := X s0 (.own d3) s2 s3 s4 s5 s6 s7 s8 s9 s10 s11 s12 .un .un .un .un .un .un) ⟨d3, p3, rfl⟩ fun j hj i e hi ⟨d, hd, he⟩ => by
    subst he
    rw [List.length_range, Nat.zero_add] at hi
    let E1 : Env' := [s0, .own d, s2, s3, s4, s5, s6, s7, s8, s9, s10, s11, s12, .un, .un, .un, .un, .un, .un, .imm (ni j), .un, .un, .un, .un]
    have ls : (dLst (aCons (dTup (aCons (dC (.int 1)) (aCons (dC (.int 1)) aNil))) (aCons (dTup (aCons (dC (.int 7)) (aCons (dC (.int 2)) aNil))) (aCons (dTup (aCons (dC (.int 3)) (aCons (dC (.int 1)) aNil))) (aCons (dTup (aCons (dC (.int 0)) (aCons (dC (.int 1)) aNil))) aNil))))) E1 = .ok (.fresh (.lst [.tup [.int 1, .int 1], .tup [.int 7, .int 2], .tup [.int 3, .int 1], .tup [.int 0, .int 1]]), E1) := by
      simp [dLst, dTup, aCons, aNil, dC, Val.d, sizeLine_is]
    obtain ⟨x, hx, d', hp, e4⟩ := oneC (i := 1) (k := k + 3 + i) (d := d) (mk := Slot.own) (env := E1) (.inl rfl) rfl ls rfl rfl hd (by omega) (by simp) (by simp)
    refine ⟨x, X s0 (.own d') s2 s3 s4 s5 s6 s7 s8 s9 s10 s11 s12 .un .un .un .un .un .un, ?_, numL_q x hx, d', hp, rfl⟩
    unfold lcTurn
    rw [gset_ok (s := .un) rfl noio_un]
    generalize (dCallIo 1 2 F__law_one_of (aCons (dLst (aCons (dTup (aCons (dC (.int 1)) (aCons (dC (.int 1)) aNil))) (aCons (dTup (aCons (dC (.int 7)) (aCons (dC (.int 2)) aNil))) (aCons (dTup (aCons (dC (.int 3)) (aCons (dC (.int 1)) aNil))) (aCons (dTup (aCons (dC (.int 0)) (aCons (dC (.int 1)) aNil))) aNil))))) aNil)) = OC at e4 ⊢
    have e4 : OC [s0, .own d, s2, s3, s4, s5, s6, s7, s8, s9, s10, s11, s12, .un, .un, .un, .un, .un, .un, .imm (ni j), .un, .un, .un, .un] = .ok (.imm x, [s0, .own d', s2, s3, s4, s5, s6, s7, s8, s9, s10, s11, s12, .un, .un, .un, .un, .un, .un, .imm (ni j), .un, .un, .un, .un]) := e4
    simp only [List.set_cons_succ, List.set_cons_zero, Res.bind_ok, dYes, Res.hard, if_true, e4, wipeE, Val.d]
  obtain ⟨qs, rfl, hq⟩ := nums_of h2
  rw [List.length_map, List.length_range] at h1
  rw [List.length_range, Nat.zero_add] at hp'
  have it := rng1_of (n := c) e3 rfl (by omega)
  have dl := dlc_of (vs := [19]) (g := gSet 19) (t := dYes) it rfl (by rw [List.length_map, List.length_range, sizeLine_is]; omega) l
  rw [he] at dl
  obtain ⟨ns, pl, rest, ep, hpl⟩ := hp'
  refine ⟨i0, g, qs, d', by omega, g5, by omega, hq, ⟨ns, pl, rest, ep, by omega⟩, ?_⟩
  have gt := gtup3 (a := 13) (b := 3) (c := 14) (env := X s0 (.own d') s2 s3 s4 s5 s6 s7 s8 s9 s10 s11 s12 .un .un .un .un .un .un) (s1 := .un) (s2 := s3) (s3 := .un) (d1 := ni i0) (d2 := ni g) (d3 := .lst (qs.map fr)) rfl noio_un rfl h3 rfl noio_un
  have c1 : dCallIo 1 2 F__law_draw (aCons (dC (.int 2)) aNil) (X s0 (.own d) s2 s3 s4 s5 s6 s7 s8 s9 s10 s11 s12 .un .un .un .un .un .un) = .ok (.imm (ni i0), X s0 (.own d1) s2 s3 s4 s5 s6 s7 s8 s9 s10 s11 s12 .un .un .un .un .un .un) := e1
  have c2 : dCallIo 1 2 F__law_one_of (aCons (dLst (aCons (dC (.int 2)) (aCons (dC (.int 3)) (aCons (dC (.int 5)) aNil)))) aNil) (X s0 (.own d1) s2 s3 s4 s5 s6 s7 s8 s9 s10 s11 s12 .un .un .un .un .un .un) = .ok (.imm (ni g), X s0 (.own d2) s2 s3 s4 s5 s6 s7 s8 s9 s10 s11 s12 .un .un .un .un .un .un) := e2
  have c3 : dLc [19] (itRng1 (aCons (dCallIo 1 2 F__law_draw (aCons (dC (.int 8)) aNil)) aNil)) (gSet 19) dYes (dCallIo 1 2 F__law_one_of (aCons (dLst (aCons (dTup (aCons (dC (.int 1)) (aCons (dC (.int 1)) aNil))) (aCons (dTup (aCons (dC (.int 7)) (aCons (dC (.int 2)) aNil))) (aCons (dTup (aCons (dC (.int 3)) (aCons (dC (.int 1)) aNil))) (aCons (dTup (aCons (dC (.int 0)) (aCons (dC (.int 1)) aNil))) aNil))))) aNil)) (X s0 (.own d2) s2 s3 s4 s5 s6 s7 s8 s9 s10 s11 s12 .un .un .un .un .un .un) = .ok (.fresh (.lst (qs.map fr)), X s0 (.own d') s2 s3 s4 s5 s6 s7 s8 s9 s10 s11 s12 .un .un .un .un .un .un) := dl
  unfold b_law_2
  generalize dLc [19] (itRng1 (aCons (dCallIo 1 2 F__law_draw (aCons (dC (.int 8)) aNil)) aNil)) (gSet 19) dYes (dCallIo 1 2 F__law_one_of (aCons (dLst (aCons (dTup (aCons (dC (.int 1)) (aCons (dC (.int 1)) aNil))) (aCons (dTup (aCons (dC (.int 7)) (aCons (dC (.int 2)) aNil))) (aCons (dTup (aCons (dC (.int 3)) (aCons (dC (.int 1)) aNil))) (aCons (dTup (aCons (dC (.int 0)) (aCons (dC (.int 1)) aNil))) aNil))))) aNil)) = D3 at c3 ⊢
  generalize dCallIo 1 2 F__law_one_of (aCons (dLst (aCons (dC (.int 2)) (aCons (dC (.int 3)) (aCons (dC (.int 5)) aNil)))) aNil) = D2 at c2 ⊢
  generalize dCallIo 1 2 F__law_draw (aCons (dC (.int 2)) aNil) = D1 at c1 ⊢
  simp only [sAsg, dTup, aCons, aNil, c1, c2, c3, Res.bind_ok, Val.d, List.length_cons, List.length_nil, Nat.zero_add, Nat.reduceAdd, sizeLine_is, Nat.reduceLeDiff, if_true, gt, gDone, List.set_cons_succ, List.set_cons_zero]
variable {g i0 : Nat} {qs : List Rat} {s1 : Slot}
theorem loneI (f : Nat → Dt) (x : Dt) (hf : ∀ j, f j = if j = i0 then x else .int 0) {q : Rat} (hq : nm q = x) : rowL (lone g i0 q) = .lst ((List.range g).map f) := by
  unfold rowL lone
  rw [List.map_map]
  congr 1
  refine List.map_congr_left fun j _ => ?_
  rw [hf j]
  show nm (if j = i0 then q else 0) = _
  by_cases h : j = i0
  · rw [if_pos h, if_pos h, hq]
  · rw [if_neg h, if_neg h]
    rfl
theorem e3a (g5 : g ≤ 5) {Q Q' QL : Dt} {s15 : Slot} (n : F__law_number [Q] = .ok (.imm Q', none)) : lcLoop [23] (gSet 23) dYes (dIf (dTest (dBin (eqS false) (dVar 23) (dVar 13))) (dCall F__law_number ⟨1, [], [.pos 0]⟩ (aCons (dVar 20) aNil) aNil) (dC (.int 0))) ((List.range g).map ni)
    [s0, s1, s2, .imm (ni g), s4, s5, s6, s7, s8, s9, s10, s11, s12, .imm (ni i0), .imm QL, s15, .un, .un, .un, .un, .imm Q, .un, .un, .un] = .ok ((List.range g).map fun j => if j = i0 then Q' else .int 0, [s0, s1, s2, .imm (ni g), s4, s5, s6, s7, s8, s9, s10, s11, s12, .imm (ni i0), .imm QL, s15, .un, .un, .un, .un, .imm Q, .un, .un, .un]) := lc_pure ni (fun j => if j = i0 then Q' else .int 0) (List.range g) fun j _ => by
  unfold lcTurn
  rw [gset_ok (s := .un) rfl noio_un]
  by_cases h : j = i0
  · simp [dYes, Res.hard, wipeE, dTest, dBin, dVar, dC, dMove, dUn, dIf, dTru, dAnd, dOr, dNot, tAndD, tOrD, tNotD, dTup, dLst, aCons, aNil, aStar, dCallB, dCall, dIxS, asB, asTru, truD, Val.d, sSeq, seqK, sIf, sRet, sRetN, sExpr, sSet, setVal, sAsg, gDone, sPar, sNext, itRng1, itRng2, itSeq, gSet, gTupD, gsCons, gsNil, canSet, slotD, seqD, Src.d, Src.ok, asRes, runF, env0, outOf, sizeLine, Res.map, ni_eq, h, n]
  · simp [dYes, Res.hard, wipeE, dTest, dBin, dVar, dC, dMove, dUn, dIf, dTru, dAnd, dOr, dNot, tAndD, tOrD, tNotD, dTup, dLst, aCons, aNil, aStar, dCallB, dCall, dIxS, asB, asTru, truD, Val.d, sSeq, seqK, sIf, sRet, sRetN, sExpr, sSet, setVal, sAsg, gDone, sPar, sNext, itRng1, itRng2, itSeq, gSet, gTupD, gsCons, gsNil, canSet, slotD, seqD, Src.d, Src.ok, asRes, runF, env0, outOf, sizeLine, Res.map, ni_eq, h, n]
theorem e4a {Q : Dt} {s14 : Slot} : lcLoop [23] (gSet 23) dYes (dCallB bInt (aCons (dBin (eqS false) (dVar 23) (dVar 13)) aNil)) ((List.range g).map ni)
    [s0, s1, s2, .imm (ni g), s4, s5, s6, s7, s8, s9, s10, s11, s12, .imm (ni i0), s14, .imm Q, .un, .un, .un, .un, .un, .un, .un, .un] = .ok ((List.range g).map fun j => if j = i0 then .int 1 else .int 0, [s0, s1, s2, .imm (ni g), s4, s5, s6, s7, s8, s9, s10, s11, s12, .imm (ni i0), s14, .imm Q, .un, .un, .un, .un, .un, .un, .un, .un]) := lc_pure ni (fun j => if j = i0 then .int 1 else .int 0) (List.range g) fun j _ => by
  have bt : bInt [.bl true] = .ok (.imm (.int 1)) := rfl
  have bf : bInt [.bl false] = .ok (.imm (.int 0)) := rfl
  unfold lcTurn
  rw [gset_ok (s := .un) rfl noio_un]
  by_cases h : j = i0
  · simp [dYes, Res.hard, wipeE, dTest, dBin, dVar, dC, dMove, dUn, dIf, dTru, dAnd, dOr, dNot, tAndD, tOrD, tNotD, dTup, dLst, aCons, aNil, aStar, dCallB, dCall, dIxS, asB, asTru, truD, Val.d, sSeq, seqK, sIf, sRet, sRetN, sExpr, sSet, setVal, sAsg, gDone, sPar, sNext, itRng1, itRng2, itSeq, gSet, gTupD, gsCons, gsNil, canSet, slotD, seqD, Src.d, Src.ok, asRes, runF, env0, outOf, sizeLine, Res.map, ni_eq, h, bt]
  · simp [dYes, Res.hard, wipeE, dTest, dBin, dVar, dC, dMove, dUn, dIf, dTru, dAnd, dOr, dNot, tAndD, tOrD, tNotD, dTup, dLst, aCons, aNil, aStar, dCallB, dCall, dIxS, asB, asTru, truD, Val.d, sSeq, seqK, sIf, sRet, sRetN, sExpr, sSet, setVal, sAsg, gDone, sPar, sNext, itRng1, itRng2, itSeq, gSet, gTupD, gsCons, gsNil, canSet, slotD, seqD, Src.d, Src.ok, asRes, runF, env0, outOf, sizeLine, Res.map, ni_eq, h, bf]
theorem e3 (g5 : g ≤ 5) (hl : qs.length ≤ 7) :
    b_law_3 (X s0 s1 s2 (.imm (ni g)) s4 s5 s6 s7 s8 s9 s10 s11 s12 (.imm (ni i0)) (.imm (.lst (qs.map fr))) .un .un .un .un) = .ok (.nx, X s0 s1 s2 (.imm (ni g)) s4 s5 s6 s7 s8 s9 s10 s11 s12 (.imm (ni i0)) (.imm (.lst (qs.map fr))) (.own (.lst ((qs.map (lone g i0)).map rowL))) .un .un .un) := by
  have lc : lcLoop [20] (gSet 20) dYes (dLc [23] (itRng1 (aCons (dVar 3) aNil)) (gSet 23) dYes (dIf (dTest (dBin (eqS false) (dVar 23) (dVar 13))) (dCall F__law_number ⟨1, [], [.pos 0]⟩ (aCons (dVar 20) aNil) aNil) (dC (.int 0)))) (qs.map fr) (X s0 s1 s2 (.imm (ni g)) s4 s5 s6 s7 s8 s9 s10 s11 s12 (.imm (ni i0)) (.imm (.lst (qs.map fr))) .un .un .un .un) =
      .ok (qs.map fun q => rowL (lone g i0 q), X s0 s1 s2 (.imm (ni g)) s4 s5 s6 s7 s8 s9 s10 s11 s12 (.imm (ni i0)) (.imm (.lst (qs.map fr))) .un .un .un .un) := lc_pure fr (fun q => rowL (lone g i0 q)) qs fun q _ => by
    have n := number_ok q
    let E1 : Env' := [s0, s1, s2, .imm (ni g), s4, s5, s6, s7, s8, s9, s10, s11, s12, .imm (ni i0), .imm (.lst (qs.map fr)), .un, .un, .un, .un, .un, .imm (fr q), .un, .un, .un]
    have l2 := e3a (s0 := s0) (s1 := s1) (s2 := s2) (s4 := s4) (s5 := s5) (s6 := s6) (s7 := s7) (s8 := s8) (s9 := s9) (s10 := s10) (s11 := s11) (s12 := s12) (i0 := i0) (QL := .lst (qs.map fr)) (s15 := .un) g5 n
    have dl := dlc_of (vs := [23]) (g := gSet 23) (t := dYes) (rng1_okR (i := 3) (env := E1) (n := g) rfl (by omega)) rfl (by rw [List.length_map, List.length_range, sizeLine_is]; omega) l2
    have bk : backE E1 E1 [23] = E1 := rfl
    rw [bk, ← loneI (fun j => if j = i0 then nm q else .int 0) (nm q) (fun _ => rfl) rfl] at dl
    unfold lcTurn
    rw [gset_ok (s := .un) rfl noio_un, Res.bind_ok]
    have ee : (X s0 s1 s2 (.imm (ni g)) s4 s5 s6 s7 s8 s9 s10 s11 s12 (.imm (ni i0)) (.imm (.lst (qs.map fr))) .un .un .un .un).set 20 (.imm (fr q)) = E1 := rfl
    rw [ee]
    simp only [dYes, Res.hard, Res.bind_ok, if_true, dl, Val.d]
    rfl
  have dl := dlc_of (vs := [20]) (g := gSet 20) (t := dYes) (it := itSeq (dVar 14)) (env := X s0 s1 s2 (.imm (ni g)) s4 s5 s6 s7 s8 s9 s10 s11 s12 (.imm (ni i0)) (.imm (.lst (qs.map fr))) .un .un .un .un) (e1 := X s0 s1 s2 (.imm (ni g)) s4 s5 s6 s7 s8 s9 s10 s11 s12 (.imm (ni i0)) (.imm (.lst (qs.map fr))) .un .un .un .un) rfl rfl (by rw [List.length_map, sizeLine_is]; omega) lc
  unfold b_law_3
  rw [List.map_map]
  exact set_fresh (e := X s0 s1 s2 (.imm (ni g)) s4 s5 s6 s7 s8 s9 s10 s11 s12 (.imm (ni i0)) (.imm (.lst (qs.map fr))) .un .un .un .un) (s := .un) dl rfl noio_un
theorem e4 (hi : i0 < g) (g5 : g ≤ 5) (hl : qs.length ≤ 7) (hq : ∀ q ∈ qs, Bz 2 B7 q ∧ 0 ≤ q) {s14 : Slot} :
    b_law_4 (X s0 s1 s2 (.imm (ni g)) s4 s5 s6 s7 s8 s9 s10 s11 s12 (.imm (ni i0)) s14 (.own (.lst ((qs.map (lone g i0)).map rowL))) .un .un .un) = .ok (.nx, X s0 s1 s2 (.imm (ni g)) s4 s5 s6 s7 s8 s9 s10 s11 s12 (.imm (ni i0)) s14 (.imm (.lst ((qs.map (lone g i0)).map rowL))) .un .un .un) := by
  have F : FitM g 2 B7 qs.length 3 1 := fitM5 (by omega) g5 hl
  have sp := even_spare_ok F (m := qs.map (lone g i0)) (List.length_map _) (fun x hx => by
    obtain ⟨q, hq', rfl⟩ := List.mem_map.mp hx
    exact lone_rowB (hq q hq')) (lone_mx (k := 1) (by omega) hi) rowL (fun x => .inl rfl) (d := .lst ((qs.map (lone g i0)).map rowL)) (ds := rowL (lone g i0 1)) (.inl rfl) (.inl rfl)
  rw [lone_spare hi] at sp
  have z : nm (worth (lone g i0 1) (qs.map (lone g i0)) - worth (lone g i0 1) (qs.map (lone g i0))) = .int 0 := by
    rw [Rat.sub_self]
    rfl
  rw [z] at sp
  let E1 : Env' := X s0 s1 s2 (.imm (ni g)) s4 s5 s6 s7 s8 s9 s10 s11 s12 (.imm (ni i0)) s14 (.imm (.lst ((qs.map (lone g i0)).map rowL))) .un .un .un
  have l2 := e4a (s0 := s0) (s1 := s1) (s2 := s2) (s4 := s4) (s5 := s5) (s6 := s6) (s7 := s7) (s8 := s8) (s9 := s9) (s10 := s10) (s11 := s11) (s12 := s12) (g := g) (i0 := i0) (Q := .lst ((qs.map (lone g i0)).map rowL)) (s14 := s14)
  have dl := dlc_of (vs := [23]) (g := gSet 23) (t := dYes) (rng1_okR (i := 3) (env := E1) (n := g) rfl (by omega)) rfl (by rw [List.length_map, List.length_range, sizeLine_is]; omega) l2
  have bk : backE E1 E1 [23] = E1 := rfl
  rw [bk, ← loneI (fun j => if j = i0 then .int 1 else .int 0) (.int 1) (fun _ => rfl) (q := 1) rfl] at dl
  have sp : F_even_spare [ni g, .lst ((qs.map (lone g i0)).map rowL), rowL (lone g i0 1)] = .ok (.imm (.int 0), none) := sp
  have ne : eqS true (.int 0) (.int 0) = .ok (.imm (.bl false)) := i_ne 0 0
  unfold b_law_4
  refine if_no ?_
  generalize rowL (lone g i0 1) = R1 at *
  generalize dLc [23] (itRng1 (aCons (dVar 3) aNil)) (gSet 23) dYes (dCallB bInt (aCons (dBin (eqS false) (dVar 23) (dVar 13)) aNil)) = D1 at *
  have dl : D1 [s0, s1, s2, .imm (ni g), s4, s5, s6, s7, s8, s9, s10, s11, s12, .imm (ni i0), s14, .imm (.lst ((qs.map (lone g i0)).map rowL)), .un, .un, .un, .un, .un, .un, .un, .un] = .ok (.fresh R1, [s0, s1, s2, .imm (ni g), s4, s5, s6, s7, s8, s9, s10, s11, s12, .imm (ni i0), s14, .imm (.lst ((qs.map (lone g i0)).map rowL)), .un, .un, .un, .un, .un, .un, .un, .un]) := dl
  generalize Dt.lst ((qs.map (lone g i0)).map rowL) = QL at *
  simp [dTest, dBin, dCall, aCons, aNil, dVar, dC, Val.d, Src.d, Src.ok, dl, sp, asRes, ne, asB]
theorem e5 (hd : Pen k d) (hk : k + 20 < 900) {s3 s13 s14 s15 : Slot} (h3 : NoIo s3) : ∃ (g n : Nat) (d' : Dt), (g = 1 ∨ g = 2 ∨ g = 3) ∧ n < 5 ∧
    b_law_5 (X s0 (.own d) s2 s3 s4 s5 s6 s7 s8 s9 s10 s11 s12 s13 s14 s15 .un .un .un) = .ok (.nx, X s0 (.own d') s2 (.imm (ni g)) s4 s5 s6 s7 s8 s9 s10 s11 s12 s13 s14 s15 (.imm (ni n)) .un .un) := by
  have ls : (dLst (aCons (dC (.int 2)) (aCons (dC (.int 3)) (aCons (dC (.int 1)) aNil)))) (X s0 (.own d) s2 s3 s4 s5 s6 s7 s8 s9 s10 s11 s12 s13 s14 s15 .un .un .un) = .ok (.fresh (.lst [ni 2, ni 3, ni 1]), X s0 (.own d) s2 s3 s4 s5 s6 s7 s8 s9 s10 s11 s12 s13 s14 s15 .un .un .un) := by
    simp [dLst, aCons, aNil, dC, Val.d, sizeLine_is]
    exact ⟨rfl, rfl, rfl⟩
  obtain ⟨x, hx, d1, p1, e1⟩ := oneC (i := 1) (k := k) (d := d) (mk := Slot.own) (.inl rfl) rfl ls rfl rfl hd (by omega) (by simp) (by simp)
  obtain ⟨g, hg, rfl⟩ : ∃ g, (g = 1 ∨ g = 2 ∨ g = 3) ∧ x = ni g := by
    simp only [List.mem_cons, List.not_mem_nil, or_false] at hx
    rcases hx with rfl | rfl | rfl
    · exact ⟨2, by simp, rfl⟩
    · exact ⟨3, by simp, rfl⟩
    · exact ⟨1, by simp, rfl⟩
  obtain ⟨n, d2, hn, p2, e2⟩ := drawC (i := 1) (k := k + 1) (many := 5) (d := d1) (mk := Slot.own) (env := X s0 (.own d1) s2 s3 s4 s5 s6 s7 s8 s9 s10 s11 s12 s13 s14 s15 .un .un .un) (e := X s0 (.own d1) s2 s3 s4 s5 s6 s7 s8 s9 s10 s11 s12 s13 s14 s15 .un .un .un) (f := dC (.int 5)) (v := .imm (ni 5)) (.inl rfl) rfl rfl rfl rfl p1 (by omega) (by decide) (by decide)
  refine ⟨g, n, d2, hg, hn, ?_⟩
  have gt := gtup2 (a := 3) (b := 16) (env := X s0 (.own d2) s2 s3 s4 s5 s6 s7 s8 s9 s10 s11 s12 s13 s14 s15 .un .un .un) (s1 := s3) (s2 := .un) (d1 := ni g) (d2 := ni n) rfl h3 rfl noio_un
  have c1 : dCallIo 1 2 F__law_one_of (aCons (dLst (aCons (dC (.int 2)) (aCons (dC (.int 3)) (aCons (dC (.int 1)) aNil)))) aNil) (X s0 (.own d) s2 s3 s4 s5 s6 s7 s8 s9 s10 s11 s12 s13 s14 s15 .un .un .un) = .ok (.imm (ni g), X s0 (.own d1) s2 s3 s4 s5 s6 s7 s8 s9 s10 s11 s12 s13 s14 s15 .un .un .un) := e1
  have c2 : dCallIo 1 2 F__law_draw (aCons (dC (.int 5)) aNil) (X s0 (.own d1) s2 s3 s4 s5 s6 s7 s8 s9 s10 s11 s12 s13 s14 s15 .un .un .un) = .ok (.imm (ni n), X s0 (.own d2) s2 s3 s4 s5 s6 s7 s8 s9 s10 s11 s12 s13 s14 s15 .un .un .un) := e2
  unfold b_law_5
  generalize dCallIo 1 2 F__law_one_of (aCons (dLst (aCons (dC (.int 2)) (aCons (dC (.int 3)) (aCons (dC (.int 1)) aNil)))) aNil) = D1 at c1 ⊢
  generalize dCallIo 1 2 F__law_draw (aCons (dC (.int 5)) aNil) = D2 at c2 ⊢
  simp only [sAsg, dTup, aCons, aNil, c1, c2, Res.bind_ok, Val.d, List.length_cons, List.length_nil, Nat.zero_add, Nat.reduceAdd, sizeLine_is, Nat.reduceLeDiff, if_true, gt, gDone, List.set_cons_succ, List.set_cons_zero]
theorem e67 (hg : g = 1 ∨ g = 2 ∨ g = 3) {n : Nat} (hn : n < 5) {s13 s14 s15 : Slot} : ∃ e, sSeq b_law_6 b_law_7 (X s0 s1 s2 (.imm (ni g)) s4 s5 s6 s7 s8 s9 s10 s11 s12 s13 s14 s15 (.imm (ni n)) .un .un) = .ok (.rt (.imm (.bl true)), e) := by
  obtain ⟨a, b, p, h1, h2, h3, h4, h5⟩ := price_ok hg hn
  have f := even_factor_ok (g := g) (d := n) (by omega) (by omega) (by omega)
  have up : ∀ {x : Nat}, x < 2 ^ 60 → x < 2 ^ 20000 := fun h => Nat.lt_of_lt_of_le h (Nat.pow_le_pow_right (by decide) (by decide))
  have o1 : (1 : Int).natAbs < 2 ^ 20000 := Nat.one_lt_two_pow (by decide)
  have fi : ((fct g n : Int)).natAbs < 2 ^ 20000 := up (by rw [Int.natAbs_natCast]; exact h5)
  have l1 := less_raw (a := (fct g n : Int)) (b := 1) (c := a) (d := b) (mul_smalli fi (up h4)) (mul_smalli (up h3) o1)
  have l2 := less_raw (a := a) (b := b) (c := (fct g n : Int)) (d := 1) (mul_smalli (up h3) o1) (mul_smalli fi (up h4))
  rw [Int.mul_one, decide_eq_false (by omega)] at l1
  rw [Int.mul_one, h2] at l2
  have g1 : opGt (ni g) (.int 1) = .ok (.imm (.bl (decide (1 < g)))) := ni_gt g 1
  have g2 : opGt (ni n) (.int 1) = .ok (.imm (.bl (decide (1 < n)))) := ni_gt n 1
  have l1 : F__law_less [.tup [ni (fct g n), .int 1], .tup [.int a, .int b]] = .ok (.imm (.bl false), none) := l1
  have l2 : F__law_less [.tup [.int a, .int b], .tup [ni (fct g n), .int 1]] = .ok (.imm (.bl (decide (1 < g) && decide (1 < n))), none) := l2
  have b6 : b_law_6 (X s0 s1 s2 (.imm (ni g)) s4 s5 s6 s7 s8 s9 s10 s11 s12 s13 s14 s15 (.imm (ni n)) .un .un) = .ok (.nx, X s0 s1 s2 (.imm (ni g)) s4 s5 s6 s7 s8 s9 s10 s11 s12 s13 s14 s15 (.imm (ni n)) (.imm (.tup [.int a, .int b])) (.imm (.tup [ni (fct g n), .int 1]))) := by
    unfold b_law_6
    simp [dTest, dBin, dVar, dC, dMove, dUn, dIf, dTru, dAnd, dOr, dNot, tAndD, tOrD, tNotD, dTup, dLst, aCons, aNil, aStar, dCallB, dCall, dIxS, asB, asTru, truD, Val.d, sSeq, seqK, sIf, sRet, sRetN, sExpr, sSet, setVal, sAsg, gDone, sPar, sNext, itRng1, itRng2, itSeq, gSet, gTupD, gsCons, gsNil, canSet, slotD, seqD, Src.d, Src.ok, asRes, runF, env0, outOf, sizeLine, Res.map, p, f]
  refine ⟨X s0 s1 s2 (.imm (ni g)) s4 s5 s6 s7 s8 s9 s10 s11 s12 s13 s14 s15 (.imm (ni n)) (.imm (.tup [.int a, .int b])) (.imm (.tup [ni (fct g n), .int 1])), ?_⟩
  rw [seq_nx b6]
  unfold b_law_7
  generalize Dt.tup [.int a, .int b] = P at *
  generalize Dt.tup [ni (fct g n), .int 1] = Q at *
  by_cases x1 : 1 < g
  · by_cases x2 : 1 < n
    · simp [x1, x2] at l2 g1 g2
      have q : eqS false (.bl true) (.bl true) = .ok (.imm (.bl true)) := bl_eq true true
      simp [sRet, dAnd, dNot, dBin, dCall, aCons, aNil, dVar, dC, Val.d, Src.d, Src.ok, l1, l2, g1, g2, asRes, q, asTru, truD]
    · simp [x1, x2] at l2 g1 g2
      have q : eqS false (.bl false) (.bl false) = .ok (.imm (.bl true)) := bl_eq false false
      simp [sRet, dAnd, dNot, dBin, dCall, aCons, aNil, dVar, dC, Val.d, Src.d, Src.ok, l1, l2, g1, g2, asRes, q, asTru, truD]
  · simp [x1] at l2 g1
    have q : eqS false (.bl false) (.bl false) = .ok (.imm (.bl true)) := bl_eq false false
    simp [sRet, dAnd, dNot, dBin, dCall, aCons, aNil, dVar, dC, Val.d, Src.d, Src.ok, l1, l2, g1, asRes, q, asTru, truD]
end
theorem law_true : LawTrue F_law 63 := fun ns _ => by
  obtain ⟨d, hp, pe⟩ := pen_ok ns
  refine ⟨.imm (.bl true), ?_, rfl⟩
  have b0 : b_law_0 (T (.imm (.scr ns)) .un .un .un .un .un .un .un .un .un .un .un .un) = .ok (.nx, T (.imm (.scr ns)) (.own d) .un .un .un .un .un .un .un .un .un .un .un) := by
    unfold b_law_0
    refine set_fresh (e := T (.imm (.scr ns)) .un .un .un .un .un .un .un .un .un .un .un .un) (s := .un) ?_ rfl noio_un
    unfold T
    simp [dCall, aCons, aNil, dVar, Val.d, Src.d, Src.ok, pe, asRes]
  obtain ⟨e', l, hm⟩ := loop_inv (g := gSet 2) (f := b_law_1_b) (fun i e => Mid ns (69 * i) e) ((List.range 2).map ni) (k := 0) (env := T (.imm (.scr ns)) (.own d) .un .un .un .un .un .un .un .un .un .un .un)
    ⟨d, _, _, _, _, _, _, _, _, _, _, _, hp, noio_un, noio_un, noio_un, noio_un, noio_un, noio_un, noio_un, noio_un, noio_un, noio_un, noio_un, rfl⟩ fun i hi e pe => by
      rw [List.length_map, List.length_range] at hi
      rw [Nat.zero_add] at pe ⊢
      obtain ⟨e1, e2, h1, h2, h3⟩ := turn_ok (t := i) (by omega) pe
      exact ⟨e1, e2, by rw [List.getElem_map, List.getElem_range]; exact h1, h2, by rw [show 69 * (i + 1) = 69 * i + 69 by omega]; exact h3⟩
  rw [List.length_map, List.length_range] at hm
  obtain ⟨d2, s2, s3, s4, s5, s6, s7, s8, s9, s10, s11, s12, hp2, h2, h3, h4, h5, h6, h7, h8, h9, h10, h11, h12, he⟩ := hm
  subst he
  obtain ⟨i0, g, qs, d3, hi, g5, hl, hq, p3, x2⟩ := e2 (s0 := .imm (.scr ns)) (s2 := s2) (s4 := s4) (s5 := s5) (s6 := s6) (s7 := s7) (s8 := s8) (s9 := s9) (s10 := s10) (s11 := s11) (s12 := s12) hp2 (by omega) h3
  have x3 := e3 (s0 := .imm (.scr ns)) (s1 := .own d3) (s2 := s2) (s4 := s4) (s5 := s5) (s6 := s6) (s7 := s7) (s8 := s8) (s9 := s9) (s10 := s10) (s11 := s11) (s12 := s12) (i0 := i0) g5 hl
  have x4 := e4 (s0 := .imm (.scr ns)) (s1 := .own d3) (s2 := s2) (s4 := s4) (s5 := s5) (s6 := s6) (s7 := s7) (s8 := s8) (s9 := s9) (s10 := s10) (s11 := s11) (s12 := s12) hi g5 hl hq (s14 := .imm (.lst (qs.map fr)))
  obtain ⟨g', n, d4, hg', hn, x5⟩ := e5 (s0 := .imm (.scr ns)) (s2 := s2) (s4 := s4) (s5 := s5) (s6 := s6) (s7 := s7) (s8 := s8) (s9 := s9) (s10 := s10) (s11 := s11) (s12 := s12) p3 (by omega) (s3 := .imm (ni g)) (s13 := .imm (ni i0)) (s14 := .imm (.lst (qs.map fr))) (s15 := .imm (.lst ((qs.map (lone g i0)).map rowL))) (noio_imm _)
  obtain ⟨ef, x6⟩ := e67 (s0 := .imm (.scr ns)) (s1 := .own d4) (s2 := s2) (s4 := s4) (s5 := s5) (s6 := s6) (s7 := s7) (s8 := s8) (s9 := s9) (s10 := s10) (s11 := s11) (s12 := s12) hg' hn (s13 := .imm (ni i0)) (s14 := .imm (.lst (qs.map fr))) (s15 := .imm (.lst ((qs.map (lone g i0)).map rowL)))
  refine run_rt (e := T (.imm (.scr ns)) .un .un .un .un .un .un .un .un .un .un .un .un) rfl (e' := ef) ?_
  have b1 : b_law_1 (T (.imm (.scr ns)) (.own d) .un .un .un .un .un .un .un .un .un .un .un) = .ok (.nx, X (.imm (.scr ns)) (.own d2) s2 s3 s4 s5 s6 s7 s8 s9 s10 s11 s12 .un .un .un .un .un .un) := for_of (rng1_of (n := 2) (v := .imm (ni 2)) rfl rfl (by decide)) l
  rw [b_law_eq, seq_nx b0, seq_nx b1, seq_nx x2, seq_nx x3, seq_nx x4, seq_nx x5]
  exact x6
end G


open PySem PySem.W PyProof.Rows
set_option maxHeartbeats 0 in
theorem PySem.Challenge.cw_hindprice_k72_whole_even_purses_keep_a_s_holds : PySem.Challenge.rw_hindprice_k72_whole_even_purses_keep_a_s.Holds := by
  w_on; o_law; k_head; (case hw => w_witness2)
  k_fill
  refine G.walk_G (l := PySem.Challenge.rw_hindprice_k72_whole_even_purses_keep_a_s) (n := 63) (k := 9) (x := "_law_script") (F := G.F_law) rfl (by decide) rfl ⟨rfl, by decide, by decide⟩ (fun w h Y => PySem.W.kIn_of Y) ?F G.law_true
  case F =>
    intro w mg fa h KX Gn hmg
    refine' G.all_mk KX Gn hmg ?p0 ?l0 ?c0 ?q0 ?p1 ?l1 ?c1 ?q1 ?p2 ?l2 ?c2 ?q2 ?p3 ?l3 ?c3 ?q3 ?p4 ?l4 ?c4 ?q4 ?p5 ?l5 ?c5 ?q5 ?p6 ?l6 ?c6 ?q6 ?p7 ?l7 ?c7 ?q7 ?p8 ?l8 ?c8 ?q8 ?p9 ?l9 ?c9 ?q9 ?p10 ?l10 ?c10 ?q10 ?p11 ?l11 ?c11 ?q11 ?p12 ?l12 ?c12 ?q12 ?p13 ?l13 ?c13 ?q13 ?p14 ?l14 ?c14 ?q14 ?p15 ?l15 ?c15 ?q15 ?p16 ?l16 ?c16 ?q16 ?p17 ?l17 ?c17 ?q17 ?p18 ?l18 ?c18 ?q18 ?p19 ?l19 ?c19 ?q19 ?p20 ?l20 ?c20 ?q20 ?p21 ?l21 ?c21 ?q21 ?p22 ?l22 ?c22 ?q22 ?p23 ?l23 ?c23 ?q23 ?r23 ?p24 ?l24 ?c24 ?q24 ?p25 ?l25 ?c25 ?q25 ?p26 ?l26 ?c26 ?q26 ?r26 ?p27 ?l27 ?c27 ?q27 ?p28 ?l28 ?c28 ?q28 ?p29 ?l29 ?c29 ?q29 ?p30 ?l30 ?c30 ?q30 ?p31 ?l31 ?c31 ?q31 ?p32 ?l32 ?c32 ?q32 ?p33 ?l33 ?c33 ?q33 ?p34 ?l34 ?c34 ?q34 ?p35 ?l35 ?c35 ?q35 ?p36 ?l36 ?c36 ?q36 ?p37 ?l37 ?c37 ?q37 ?p38 ?l38 ?c38 ?q38 ?p39 ?l39 ?c39 ?q39 ?p40 ?l40 ?c40 ?q40 ?p41 ?l41 ?c41 ?q41 ?p42 ?l42 ?c42 ?q42 ?p43 ?l43 ?c43 ?q43 ?p44 ?l44 ?c44 ?q44 ?p45 ?l45 ?c45 ?q45 ?p46 ?l46 ?c46 ?q46 ?p47 ?l47 ?c47 ?q47 ?p48 ?l48 ?c48 ?q48 ?p49 ?l49 ?c49 ?q49 ?p50 ?l50 ?c50 ?q50 ?p51 ?l51 ?c51 ?q51 ?p52 ?l52 ?c52 ?q52 ?p53 ?l53 ?c53 ?q53 ?p54 ?l54 ?c54 ?q54 ?p55 ?l55 ?c55 ?q55 ?p56 ?l56 ?c56 ?q56 ?p57 ?l57 ?c57 ?q57 ?b0 ?b1 ?b2 ?b3 ?b4 ?b5 ?b6 ?b7 ?b8 ?b9 ?b10 ?b11 ?b12 ?b13 ?v0 ?v1 ?v2
    (case p0 => k_is); (case l0 => k_is); (case c0 => k_is); (case q0 => k_is); (case p1 => k_is); (case l1 => k_is); (case c1 => k_is); (case q1 => k_is); (case p2 => k_is); (case l2 => k_is); (case c2 => k_is); (case q2 => k_is); (case p3 => k_is); (case l3 => k_is); (case c3 => k_is); (case q3 => k_is); (case p4 => k_is); (case l4 => k_is); (case c4 => k_is); (case q4 => k_is); (case p5 => k_is); (case l5 => k_is); (case c5 => k_is); (case q5 => k_is); (case p6 => k_is); (case l6 => k_is); (case c6 => k_is); (case q6 => k_is); (case p7 => k_is); (case l7 => k_is); (case c7 => k_is); (case q7 => k_is); (case p8 => k_is); (case l8 => k_is); (case c8 => k_is); (case q8 => k_is); (case p9 => k_is); (case l9 => k_is); (case c9 => k_is); (case q9 => k_is); (case p10 => k_is); (case l10 => k_is); (case c10 => k_is); (case q10 => k_is); (case p11 => k_is); (case l11 => k_is); (case c11 => k_is); (case q11 => k_is); (case p12 => k_is); (case l12 => k_is); (case c12 => k_is); (case q12 => k_is); (case p13 => k_is); (case l13 => k_is); (case c13 => k_is); (case q13 => k_is); (case p14 => k_is); (case l14 => k_is); (case c14 => k_is); (case q14 => k_is); (case p15 => k_is); (case l15 => k_is); (case c15 => k_is); (case q15 => k_is); (case p16 => k_is); (case l16 => k_is); (case c16 => k_is); (case q16 => k_is); (case p17 => k_is); (case l17 => k_is); (case c17 => k_is); (case q17 => k_is); (case p18 => k_is); (case l18 => k_is); (case c18 => k_is); (case q18 => k_is); (case p19 => k_is); (case l19 => k_is); (case c19 => k_is); (case q19 => k_is); (case p20 => k_is); (case l20 => k_is); (case c20 => k_is); (case q20 => k_is); (case p21 => k_is); (case l21 => k_is); (case c21 => k_is); (case q21 => k_is); (case p22 => k_is); (case l22 => k_is); (case c22 => k_is); (case q22 => k_is); (case p23 => k_is); (case l23 => k_is); (case c23 => k_is); (case q23 => k_is); (case r23 => k_is); (case p24 => k_is); (case l24 => k_is); (case c24 => k_is); (case q24 => k_is); (case p25 => k_is); (case l25 => k_is); (case c25 => k_is); (case q25 => k_is); (case p26 => k_is); (case l26 => k_is); (case c26 => k_is); (case q26 => k_is); (case r26 => k_is); (case p27 => k_is); (case l27 => k_is); (case c27 => k_is); (case q27 => k_is); (case p28 => k_is); (case l28 => k_is); (case c28 => k_is); (case q28 => k_is); (case p29 => k_is); (case l29 => k_is); (case c29 => k_is); (case q29 => k_is); (case p30 => k_is); (case l30 => k_is); (case c30 => k_is); (case q30 => k_is); (case p31 => k_is); (case l31 => k_is); (case c31 => k_is); (case q31 => k_is); (case p32 => k_is); (case l32 => k_is); (case c32 => k_is); (case q32 => k_is); (case p33 => k_is); (case l33 => k_is); (case c33 => k_is); (case q33 => k_is); (case p34 => k_is); (case l34 => k_is); (case c34 => k_is); (case q34 => k_is); (case p35 => k_is); (case l35 => k_is); (case c35 => k_is); (case q35 => k_is); (case p36 => k_is); (case l36 => k_is); (case c36 => k_is); (case q36 => k_is); (case p37 => k_is); (case l37 => k_is); (case c37 => k_is); (case q37 => k_is); (case p38 => k_is); (case l38 => k_is); (case c38 => k_is); (case q38 => k_is); (case p39 => k_is); (case l39 => k_is); (case c39 => k_is); (case q39 => k_is); (case p40 => k_is); (case l40 => k_is); (case c40 => k_is); (case q40 => k_is); (case p41 => k_is); (case l41 => k_is); (case c41 => k_is); (case q41 => k_is); (case p42 => k_is); (case l42 => k_is); (case c42 => k_is); (case q42 => k_is); (case p43 => k_is); (case l43 => k_is); (case c43 => k_is); (case q43 => k_is); (case p44 => k_is); (case l44 => k_is); (case c44 => k_is); (case q44 => k_is); (case p45 => k_is); (case l45 => k_is); (case c45 => k_is); (case q45 => k_is); (case p46 => k_is); (case l46 => k_is); (case c46 => k_is); (case q46 => k_is); (case p47 => k_is); (case l47 => k_is); (case c47 => k_is); (case q47 => k_is); (case p48 => k_is); (case l48 => k_is); (case c48 => k_is); (case q48 => k_is); (case p49 => k_is); (case l49 => k_is); (case c49 => k_is); (case q49 => k_is); (case p50 => k_is); (case l50 => k_is); (case c50 => k_is); (case q50 => k_is); (case p51 => k_is); (case l51 => k_is); (case c51 => k_is); (case q51 => k_is); (case p52 => k_is); (case l52 => k_is); (case c52 => k_is); (case q52 => k_is); (case p53 => k_is); (case l53 => k_is); (case c53 => k_is); (case q53 => k_is); (case p54 => k_is); (case l54 => k_is); (case c54 => k_is); (case q54 => k_is); (case p55 => k_is); (case l55 => k_is); (case c55 => k_is); (case q55 => k_is); (case p56 => k_is); (case l56 => k_is); (case c56 => k_is); (case q56 => k_is); (case p57 => k_is); (case l57 => k_is); (case c57 => k_is); (case q57 => k_is); (case b0 => k_is); (case b1 => k_is); (case b2 => k_is); (case b3 => k_is); (case b4 => k_is); (case b5 => k_is); (case b6 => k_is); (case b7 => k_is); (case b8 => k_is); (case b9 => k_is); (case b10 => k_is); (case b11 => k_is); (case b12 => k_is); (case b13 => k_is); (case v0 => k_is); (case v1 => k_is); (case v2 => k_is)

