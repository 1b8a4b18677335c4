import PyProof.Rows.All
import HandS.ForMost
import HandS.Flow
import HandS.Style
import HandS.Deep
import HandS.Wide
import HandS.TupAny
import HandS.TupMul
import HandS.IsInst
import HandS.Conv
import HandS.Codes
import KE.SortData
import PyProof.StrOps2
import HandS.SortInts
import HandS.SetKeys
import HandS.WordsExc
import HandS.ExcInit
import HandS.Rev
import HandS.Zip
import HandS.More
import KE.KDictPairs
import HandS.TryMany
import HandS.Words
import HandS.DictTup
import HandS.ReplaceLit
import HandS.ReplaceDef
import PyProof.Rows.StrStrike
import HandS.Ends
import PySem.Challenge.RW_wellbegun_k26_machines_made
set_option Elab.async false
set_option linter.all false
set_option maxRecDepth 100000
set_option maxHeartbeats 4000000
namespace DL
open PySem PySem.Spec PyProof.Rows L2

inductive D where
  | non | bl (b : Bool) | int (i : Int) | str (s : List Nat) | tup (xs : List D) | obj (n : Nat) | ro (xs : List D) | xt (xs : List D)
  deriving Inhabited
inductive W where
  | v (d : D) | l (xs : List D)
  deriving Inhabited
abbrev DK := Int ⊕ List Nat
inductive O where
  | lst (xs : List D) | dK (kvs : List (DK × D)) | dT (kvs : List (List DK × D)) | lkK (kvs : List (DK × D)) | lkT (kvs : List (List DK × D))
  deriving Inhabited
abbrev Hd := List O
abbrev mkS (s : List Nat) : Str := ⟨s.toArray⟩
def DK.key : DK → Key
  | .inl i => .inl i
  | .inr s => .inr (mkS s)
theorem mkS_inj {a b : List Nat} (h : mkS a = mkS b) : a = b := by
  have := congrArg (fun x : Str => x.cps.toList) h
  simpa using this
theorem DK.key_inj {a b : DK} (h : a.key = b.key) : a = b := by
  cases a <;> cases b <;> simp only [DK.key, Sum.inl.injEq, Sum.inr.injEq, reduceCtorEq] at h
  · rw [h]
  · rw [mkS_inj h]
theorem mkS_len (s : List Nat) : (mkS s).length = s.length := by
  show s.toArray.size = s.length
  simp
theorem mkS_of (x : Str) : mkS x.cps.toList = x := by
  cases x; simp [mkS]

variable (K : PySem.W.Frag)
def IsT (H : Hp) (a : Addr) (vs : List V) : Prop := SqT K H a vs
def IsRo (H : Hp) (a : Addr) (vs : List V) : Prop :=
  (∃ o, H a = some (.frz o (.lst vs))) ∨
    ∃ (o : Obj) (its : Array Value) (n : Nat), K.lookup a = some o ∧ o.cls = .type "list" ∧ o.dict = none ∧ o.data = .seq its n ∧ its.size ≤ sizeLine ∧ Vals vs its.toList
def IsXt (H : Hp) (a : Addr) (vs : List V) : Prop := ∃ o : Obj, H a = some (.frz o (.tup vs)) ∧ o.dict = none
theorem IsRo.sq {K : PySem.W.Frag} {H : Hp} {a : Addr} {vs : List V} (h : IsRo K H a vs) : SqL K H a vs := by
  rcases h with h | h
  · exact .inl (.inr h)
  · exact .inr h
mutual
def RelD (α : List Addr) (H : Hp) : D → V → Prop
  | .non, v => v = .non
  | .bl b, v => v = .bl b
  | .int i, v => v = .int i
  | .str s, v => v = .str (mkS s)
  | .tup xs, v => ∃ a vs, v = .ref a ∧ H a = some (.tup vs) ∧ RelDs α H xs vs
  | .obj n, v => ∃ a, α[n]? = some a ∧ v = .ref a
  | .ro xs, v => ∃ a vs, v = .ref a ∧ IsRo K H a vs ∧ RelDs α H xs vs
  | .xt xs, v => ∃ a vs, v = .ref a ∧ IsXt H a vs ∧ RelDs α H xs vs
def RelDs (α : List Addr) (H : Hp) : List D → List V → Prop
  | [], vs => vs = []
  | d :: ds, vs => ∃ v vr, vs = v :: vr ∧ RelD α H d v ∧ RelDs α H ds vr
end
def RelKK (α : List Addr) (H : Hp) : List (DK × D) → List (Key × V) → Prop
  | [], l => l = []
  | (k, d) :: r, l => ∃ v lr, l = (k.key, v) :: lr ∧ RelD K α H d v ∧ RelKK α H r lr
def RelKT (α : List Addr) (H : Hp) : List (List DK × D) → List (List Key × V) → Prop
  | [], l => l = []
  | (k, d) :: r, l => ∃ v lr, l = (k.map DK.key, v) :: lr ∧ RelD K α H d v ∧ RelKT α H r lr
def RelO (α : List Addr) (H : Hp) (a : Addr) : O → Prop
  | .lst xs => ∃ vs, H a = some (.lst vs) ∧ RelDs K α H xs vs
  | .dK kvs => ∃ l, H a = some (.dK l) ∧ RelKK K α H kvs l
  | .dT kvs => ∃ l, H a = some (.dT l) ∧ RelKT K α H kvs l
  | .lkK kvs => ∃ o l, H a = some (.frz o (.dK l)) ∧ RelKK K α H kvs l
  | .lkT kvs => ∃ o l, H a = some (.frz o (.dT l)) ∧ RelKT K α H kvs l
structure Rl (α : List Addr) (hd : Hd) (H : Hp) : Prop where
  len : α.length = hd.length
  nd : α.Nodup
  ob : ∀ (n : Nat) (o : O) (a : Addr), hd[n]? = some o → α[n]? = some a → RelO K α H a o
structure Gr (α : List Addr) (H : Hp) (α' : List Addr) (H' : Hp) : Prop where
  pre : ∃ β, α' = α ++ β ∧ ∀ a ∈ β, H a = none ∧ a ∉ α
  fr : ∀ a o, H a = some o → a ∉ α → H' a = some o
  fz : ∀ a o u, H a = some (.frz o u) → H' a = some (.frz o u)
def noFz : HO → Bool
  | .frz _ _ => false
  | _ => true

variable {K}
variable {α α' α'' : List Addr} {H H' H'' : Hp} {hd hd' : Hd} {a p : Addr}
theorem Gr.refl (α : List Addr) (H : Hp) : Gr α H α H := ⟨⟨[], by simp, by simp⟩, fun _ _ h _ => h, fun _ _ _ h => h⟩
theorem Gr.trans (g : Gr α H α' H') (g' : Gr α' H' α'' H'') : Gr α H α'' H'' := by
  obtain ⟨β, rfl, hβ⟩ := g.pre
  obtain ⟨γ, rfl, hγ⟩ := g'.pre
  refine ⟨⟨β ++ γ, by simp, fun a ha => ?_⟩, fun a o h n => ?_, fun a o u h => g'.fz a o u (g.fz a o u h)⟩
  · rcases List.mem_append.mp ha with h | h
    · exact hβ a h
    · obtain ⟨h1, h2⟩ := hγ a h
      have h3 : a ∉ α := fun z => h2 (List.mem_append_left _ z)
      refine ⟨?_, h3⟩
      cases e : H a with
      | none => rfl
      | some o =>
        rw [g.fr a o e h3] at h1
        cases h1
  · refine g'.fr a o (g.fr a o h n) fun hm => ?_
    rcases List.mem_append.mp hm with z | z
    · exact n z
    · rw [(hβ a z).1] at h; cases h
theorem Gr.get (g : Gr α H α' H') {n : Nat} (h : α[n]? = some a) : α'[n]? = some a := by
  obtain ⟨β, rfl, _⟩ := g.pre
  rw [List.getElem?_append_left (List.getElem?_eq_some_iff.mp h).1]
  exact h
theorem Gr.notin (g : Gr α H α' H') {o : HO} (h : H a = some o) (n : a ∉ α) : a ∉ α' := by
  obtain ⟨β, rfl, hβ⟩ := g.pre
  intro z
  rcases List.mem_append.mp z with z | z
  · exact n z
  · rw [(hβ a z).1] at h; cases h
theorem Rl.at (R : Rl K α hd H) (h : a ∈ α) : ∃ (n : Nat) (o : O), hd[n]? = some o ∧ α[n]? = some a ∧ RelO K α H a o := by
  obtain ⟨n, hn, e⟩ := List.getElem_of_mem h
  have h2 : n < hd.length := by rw [← R.len]; exact hn
  have e1 : α[n]? = some a := by rw [List.getElem?_eq_getElem hn, e]
  exact ⟨n, hd[n], List.getElem?_eq_getElem h2, e1, R.ob n _ a (List.getElem?_eq_getElem h2) e1⟩
def MutH : HO → Prop
  | .lst _ => True
  | .dK _ => True
  | .dT _ => True
  | .frz _ (.dK _) => True
  | .frz _ (.dT _) => True
  | _ => False
theorem RelO.mut {o : O} (h : RelO K α H a o) : ∃ u, H a = some u ∧ MutH u := by
  cases o with
  | lst xs => obtain ⟨vs, e, _⟩ := h; exact ⟨_, e, trivial⟩
  | dK kvs => obtain ⟨vs, e, _⟩ := h; exact ⟨_, e, trivial⟩
  | dT kvs => obtain ⟨vs, e, _⟩ := h; exact ⟨_, e, trivial⟩
  | lkK kvs => obtain ⟨o, vs, e, _⟩ := h; exact ⟨_, e, trivial⟩
  | lkT kvs => obtain ⟨o, vs, e, _⟩ := h; exact ⟨_, e, trivial⟩
theorem Rl.out (R : Rl K α hd H) {u : HO} (h : H a = some u) (n : ¬ MutH u) : a ∉ α := fun z => by
  obtain ⟨_, o, _, _, r⟩ := R.at z
  obtain ⟨v, e, m⟩ := r.mut
  rw [h] at e
  cases e
  exact n m
theorem sqT_gr (R : Rl K α hd H) (g : Gr α H α' H') {vs : List V} (h : H a = some (.tup vs)) : H' a = some (.tup vs) := g.fr a _ h (R.out h fun z => z)
theorem xt_gr (g : Gr α H α' H') {vs : List V} (h : IsXt H a vs) : IsXt H' a vs := let ⟨o, e, d⟩ := h; ⟨o, g.fz a o _ e, d⟩
theorem ro_gr (R : Rl K α hd H) (g : Gr α H α' H') {vs : List V} (h : IsRo K H a vs) : IsRo K H' a vs := by
  rcases h with ⟨o, h⟩ | h
  · exact .inl ⟨o, g.fr a _ h (R.out h fun z => z)⟩
  · exact .inr h
mutual
theorem RelD.mono (hp : ∀ (n : Nat) a, α[n]? = some a → α'[n]? = some a) (ht : ∀ a vs, H a = some (.tup vs) → H' a = some (.tup vs)) (hr : (∀ a vs, IsRo K H a vs → IsRo K H' a vs) ∧ ∀ a vs, IsXt H a vs → IsXt H' a vs) : ∀ (d : D) (v : V), RelD K α H d v → RelD K α' H' d v
  | .non, v, h => h
  | .bl b, v, h => h
  | .int i, v, h => h
  | .str s, v, h => h
  | .tup xs, v, h => by
    obtain ⟨a, vs, e, q, hx⟩ := h
    exact ⟨a, vs, e, ht _ _ q, RelDs.mono hp ht hr xs vs hx⟩
  | .obj n, v, h => by
    obtain ⟨a, e, ev⟩ := h
    exact ⟨a, hp _ _ e, ev⟩
  | .ro xs, v, h => by
    obtain ⟨a, vs, e, q, hx⟩ := h
    exact ⟨a, vs, e, hr.1 _ _ q, RelDs.mono hp ht hr xs vs hx⟩
  | .xt xs, v, h => by
    obtain ⟨a, vs, e, q, hx⟩ := h
    exact ⟨a, vs, e, hr.2 _ _ q, RelDs.mono hp ht hr xs vs hx⟩
theorem RelDs.mono (hp : ∀ (n : Nat) a, α[n]? = some a → α'[n]? = some a) (ht : ∀ a vs, H a = some (.tup vs) → H' a = some (.tup vs)) (hr : (∀ a vs, IsRo K H a vs → IsRo K H' a vs) ∧ ∀ a vs, IsXt H a vs → IsXt H' a vs) : ∀ (ds : List D) (vs : List V), RelDs K α H ds vs → RelDs K α' H' ds vs
  | [], vs, h => h
  | d :: ds, vs, h => by
    obtain ⟨v, vr, e, h1, h2⟩ := h
    exact ⟨v, vr, e, RelD.mono hp ht hr d v h1, RelDs.mono hp ht hr ds vr h2⟩
end
theorem RelKK.mono (hp : ∀ (n : Nat) a, α[n]? = some a → α'[n]? = some a) (ht : ∀ a vs, H a = some (.tup vs) → H' a = some (.tup vs)) (hr : (∀ a vs, IsRo K H a vs → IsRo K H' a vs) ∧ ∀ a vs, IsXt H a vs → IsXt H' a vs) : ∀ (l : List (DK × D)) (l' : List (Key × V)), RelKK K α H l l' → RelKK K α' H' l l'
  | [], _, h => h
  | (k, d) :: r, _, h => by
    obtain ⟨v, lr, e, h1, h2⟩ := h
    exact ⟨v, lr, e, RelD.mono hp ht hr d v h1, RelKK.mono hp ht hr r lr h2⟩
theorem RelKT.mono (hp : ∀ (n : Nat) a, α[n]? = some a → α'[n]? = some a) (ht : ∀ a vs, H a = some (.tup vs) → H' a = some (.tup vs)) (hr : (∀ a vs, IsRo K H a vs → IsRo K H' a vs) ∧ ∀ a vs, IsXt H a vs → IsXt H' a vs) : ∀ (l : List (List DK × D)) (l' : List (List Key × V)), RelKT K α H l l' → RelKT K α' H' l l'
  | [], _, h => h
  | (k, d) :: r, _, h => by
    obtain ⟨v, lr, e, h1, h2⟩ := h
    exact ⟨v, lr, e, RelD.mono hp ht hr d v h1, RelKT.mono hp ht hr r lr h2⟩
theorem RelO.mono (hp : ∀ (n : Nat) a, α[n]? = some a → α'[n]? = some a) (ht : ∀ a vs, H a = some (.tup vs) → H' a = some (.tup vs)) (hr : (∀ a vs, IsRo K H a vs → IsRo K H' a vs) ∧ ∀ a vs, IsXt H a vs → IsXt H' a vs) {o : O} (same : H' a = H a) (h : RelO K α H a o) : RelO K α' H' a o := by
  cases o with
  | lst xs => obtain ⟨vs, e, r⟩ := h; exact ⟨vs, same.trans e, RelDs.mono hp ht hr _ _ r⟩
  | dK kvs => obtain ⟨vs, e, r⟩ := h; exact ⟨vs, same.trans e, RelKK.mono hp ht hr _ _ r⟩
  | dT kvs => obtain ⟨vs, e, r⟩ := h; exact ⟨vs, same.trans e, RelKT.mono hp ht hr _ _ r⟩
  | lkK kvs => obtain ⟨o, vs, e, r⟩ := h; exact ⟨o, vs, same.trans e, RelKK.mono hp ht hr _ _ r⟩
  | lkT kvs => obtain ⟨o, vs, e, r⟩ := h; exact ⟨o, vs, same.trans e, RelKT.mono hp ht hr _ _ r⟩
theorem RelD.gr (R : Rl K α hd H) (g : Gr α H α' H') {d : D} {v : V} (h : RelD K α H d v) : RelD K α' H' d v := RelD.mono (fun _ _ e => g.get e) (fun _ _ q => sqT_gr R g q) ⟨fun _ _ q => ro_gr R g q, fun _ _ q => xt_gr g q⟩ d v h
theorem RelDs.gr (R : Rl K α hd H) (g : Gr α H α' H') {d : List D} {v : List V} (h : RelDs K α H d v) : RelDs K α' H' d v := RelDs.mono (fun _ _ e => g.get e) (fun _ _ q => sqT_gr R g q) ⟨fun _ _ q => ro_gr R g q, fun _ _ q => xt_gr g q⟩ d v h
theorem RelKK.gr (R : Rl K α hd H) (g : Gr α H α' H') {d : List (DK × D)} {v : List (Key × V)} (h : RelKK K α H d v) : RelKK K α' H' d v := RelKK.mono (fun _ _ e => g.get e) (fun _ _ q => sqT_gr R g q) ⟨fun _ _ q => ro_gr R g q, fun _ _ q => xt_gr g q⟩ d v h
theorem RelKT.gr (R : Rl K α hd H) (g : Gr α H α' H') {d : List (List DK × D)} {v : List (List Key × V)} (h : RelKT K α H d v) : RelKT K α' H' d v := RelKT.mono (fun _ _ e => g.get e) (fun _ _ q => sqT_gr R g q) ⟨fun _ _ q => ro_gr R g q, fun _ _ q => xt_gr g q⟩ d v h
theorem RelO.gr (R : Rl K α hd H) (g : Gr α H α' H') {o : O} (same : H' a = H a) (h : RelO K α H a o) : RelO K α' H' a o := RelO.mono (fun _ _ e => g.get e) (fun _ _ q => sqT_gr R g q) ⟨fun _ _ q => ro_gr R g q, fun _ _ q => xt_gr g q⟩ same h
def RelW (K : PySem.W.Frag) (α : List Addr) (H : Hp) : W → V → Prop
  | .v d, v => RelD K α H d v
  | .l xs, v => ∃ a vs, v = .ref a ∧ H a = some (.lst vs) ∧ a ∉ α ∧ RelDs K α H xs vs
theorem RelW.gr (R : Rl K α hd H) (g : Gr α H α' H') {d : W} {v : V} (h : RelW K α H d v) : RelW K α' H' d v := by
  cases d with
  | v d => exact RelD.gr R g h
  | l xs =>
    obtain ⟨a, vs, e, ht, hn, hx⟩ := h
    exact ⟨a, vs, e, g.fr a _ ht hn, g.notin ht hn, RelDs.gr R g hx⟩
def NewW (H : Hp) : W → V → Prop
  | .v _, _ => True
  | .l _, v => ∀ a, v = .ref a → H a = none
theorem Rl.ext (R : Rl K α hd H) (g : Gr α H α H') (same : ∀ a ∈ α, H' a = H a) : Rl K α hd H' :=
  ⟨R.len, R.nd, fun n o a h1 h2 => (R.ob n o a h1 h2).gr R g (same a (List.mem_of_getElem? h2))⟩
theorem Gr.upd (R : Rl K α hd H) (hp : H p = none) (o : HO) : Gr α H α (upd H p o) :=
  ⟨⟨[], by simp, by simp⟩, fun a u h _ => by rw [upd_ne (ne_of_none h hp)]; exact h, fun a _ u h => by rw [upd_ne (ne_of_none h hp)]; exact h⟩
theorem Rl.none_out (R : Rl K α hd H) (hp : H p = none) : p ∉ α := fun z => by
  obtain ⟨_, o, _, _, r⟩ := R.at z
  obtain ⟨v, e, _⟩ := r.mut
  rw [hp] at e
  cases e
theorem Rl.upd (R : Rl K α hd H) (hp : H p = none) (o : HO) : Rl K α hd (upd H p o) :=
  R.ext (Gr.upd R hp o) fun a ha => upd_ne fun e => R.none_out hp (e ▸ ha)
theorem pre_get {n : Nat} (h : α[n]? = some a) : (α ++ [p])[n]? = some a := by
  rw [List.getElem?_append_left (List.getElem?_eq_some_iff.mp h).1]
  exact h
theorem Rl.join (R : Rl K α hd H) (hn : p ∉ α) {o : O} (h : RelO K α H p o) : Rl K (α ++ [p]) (hd ++ [o]) H := by
  have mono : ∀ {b : Addr} {u : O}, RelO K α H b u → RelO K (α ++ [p]) H b u := fun r => r.mono (fun _ _ e => pre_get e) (fun _ _ q => q) ⟨fun _ _ q => q, fun _ _ q => q⟩ rfl
  refine ⟨by simp [R.len], ?_, fun n u b h1 h2 => ?_⟩
  · rw [List.nodup_append]
    exact ⟨R.nd, by simp, fun x hx y hy => by
      have : y = p := by simpa using hy
      rintro rfl
      exact hn (this ▸ hx)⟩
  · by_cases hlt : n < hd.length
    · rw [List.getElem?_append_left hlt] at h1
      rw [List.getElem?_append_left (by rw [R.len]; exact hlt)] at h2
      exact mono (R.ob n u b h1 h2)
    · have hle : hd.length ≤ n := Nat.le_of_not_lt hlt
      rw [List.getElem?_append_right hle] at h1
      rw [List.getElem?_append_right (by rw [R.len]; exact hle)] at h2
      rw [R.len] at h2
      have hz : n - hd.length = 0 := by
        cases e : n - hd.length with
        | zero => rfl
        | succ k => rw [e] at h1; simp at h1
      rw [hz] at h1 h2
      simp only [List.getElem?_cons_zero, Option.some.injEq] at h1 h2
      subst h1 h2
      exact mono h
theorem Rl.new (R : Rl K α hd H) (hp : H p = none) {o : O} {u : HO} (h : RelO K α (L2.upd H p u) p o) : Rl K (α ++ [p]) (hd ++ [o]) (L2.upd H p u) := (R.upd hp u).join (R.none_out hp) h
theorem Gr.new (R : Rl K α hd H) (hp : H p = none) (u : HO) : Gr α H (α ++ [p]) (L2.upd H p u) :=
  ⟨⟨[p], rfl, fun a ha => by
    have : a = p := by simpa using ha
    subst this
    exact ⟨hp, R.none_out hp⟩⟩, fun a v h _ => by rw [upd_ne (ne_of_none h hp)]; exact h, fun a _ u h => by rw [upd_ne (ne_of_none h hp)]; exact h⟩
theorem Gr.join (g : Gr α H α' H') (hp : H p = none) (hn : p ∉ α') : Gr α H (α' ++ [p]) H' := by
  obtain ⟨β, rfl, hβ⟩ := g.pre
  refine ⟨⟨β ++ [p], by simp, fun a ha => ?_⟩, g.fr, g.fz⟩
  rcases List.mem_append.mp ha with z | z
  · exact hβ a z
  · have : a = p := by simpa using z
    subst this
    exact ⟨hp, fun z => hn (List.mem_append_left _ z)⟩
theorem Gr.set {n : Nat} (hp : α[n]? = some p) {u0 : HO} (h0 : H p = some u0) (hf : noFz u0 = true) (u : HO) : Gr α H α (L2.upd H p u) :=
  ⟨⟨[], by simp, by simp⟩, fun a v h hn => by
    rw [upd_ne fun e => by subst e; exact hn (List.mem_of_getElem? hp)]
    exact h, fun a o w h => by
    rw [upd_ne fun e => by subst e; rw [h0] at h; cases h; cases hf]
    exact h⟩
theorem Rl.set (R : Rl K α hd H) {n : Nat} (hp : α[n]? = some p) {u0 : HO} (h0 : H p = some u0) (hf : noFz u0 = true) {o : O} {u : HO} (h : RelO K α (L2.upd H p u) p o) : Rl K α (hd.set n o) (L2.upd H p u) := by
  refine ⟨by rw [List.length_set]; exact R.len, R.nd, fun m w b h1 h2 => ?_⟩
  by_cases hm : m = n
  · subst hm
    rw [hp] at h2; cases h2
    have hl : m < hd.length := by rw [← R.len]; exact (List.getElem?_eq_some_iff.mp hp).1
    rw [List.getElem?_set_self hl] at h1
    cases h1
    exact h
  · rw [List.getElem?_set_ne (Ne.symm hm)] at h1
    have hb : b ≠ p := fun e => by
      subst e
      obtain ⟨l1, e1⟩ := List.getElem?_eq_some_iff.mp h2
      obtain ⟨l2, e2⟩ := List.getElem?_eq_some_iff.mp hp
      exact hm ((List.getElem_inj R.nd).mp (e1.trans e2.symm))
    exact (R.ob m w b h1 h2).gr R (Gr.set hp h0 hf u) (upd_ne hb)
theorem Rl.obj (R : Rl K α hd H) {n : Nat} {o : O} (h : hd[n]? = some o) : ∃ a, α[n]? = some a ∧ RelO K α H a o := by
  have hl : n < α.length := by rw [R.len]; exact (List.getElem?_eq_some_iff.mp h).1
  exact ⟨α[n], List.getElem?_eq_getElem hl, R.ob n o _ h (List.getElem?_eq_getElem hl)⟩
theorem cut_get {β : List Addr} {n : Nat} {b : Addr} (h0 : α[n]? = some b) (h : (α ++ β)[n]? = some a) : α[n]? = some a := by
  rw [List.getElem?_append_left (List.getElem?_eq_some_iff.mp h0).1] at h
  exact h
mutual
theorem RelD.cut {β : List Addr} : ∀ (d : D) (v0 v : V), RelD K α H d v0 → RelD K (α ++ β) H' d v → RelD K α H' d v
  | .non, v0, v, _, h => h
  | .bl b, v0, v, _, h => h
  | .int i, v0, v, _, h => h
  | .str s, v0, v, _, h => h
  | .tup xs, v0, v, h0, h => by
    obtain ⟨a, vs, e, q, hx⟩ := h
    obtain ⟨a0, vs0, e0, q0, hx0⟩ := h0
    exact ⟨a, vs, e, q, RelDs.cut xs vs0 vs hx0 hx⟩
  | .obj n, v0, v, h0, h => by
    obtain ⟨a, e, ev⟩ := h
    obtain ⟨a0, e0, ev0⟩ := h0
    exact ⟨a, cut_get e0 e, ev⟩
  | .ro xs, v0, v, h0, h => by
    obtain ⟨a, vs, e, q, hx⟩ := h
    obtain ⟨a0, vs0, e0, q0, hx0⟩ := h0
    exact ⟨a, vs, e, q, RelDs.cut xs vs0 vs hx0 hx⟩
  | .xt xs, v0, v, h0, h => by
    obtain ⟨a, vs, e, q, hx⟩ := h
    obtain ⟨a0, vs0, e0, q0, hx0⟩ := h0
    exact ⟨a, vs, e, q, RelDs.cut xs vs0 vs hx0 hx⟩
theorem RelDs.cut {β : List Addr} : ∀ (ds : List D) (vs0 vs : List V), RelDs K α H ds vs0 → RelDs K (α ++ β) H' ds vs → RelDs K α H' ds vs
  | [], _, vs, _, h => h
  | d :: ds, vs0, vs, h0, h => by
    obtain ⟨v, vr, e, h1, h2⟩ := h
    obtain ⟨v0, vr0, e0, h10, h20⟩ := h0
    exact ⟨v, vr, e, RelD.cut d v0 v h10 h1, RelDs.cut ds vr0 vr h20 h2⟩
end
theorem RelKK.cut {β : List Addr} : ∀ (l : List (DK × D)) (l0 l' : List (Key × V)), RelKK K α H l l0 → RelKK K (α ++ β) H' l l' → RelKK K α H' l l'
  | [], _, _, _, h => h
  | (k, d) :: r, _, _, h0, h => by
    obtain ⟨v, lr, e, h1, h2⟩ := h
    obtain ⟨v0, lr0, e0, h10, h20⟩ := h0
    exact ⟨v, lr, e, RelD.cut d v0 v h10 h1, RelKK.cut r lr0 lr h20 h2⟩
theorem RelKT.cut {β : List Addr} : ∀ (l : List (List DK × D)) (l0 l' : List (List Key × V)), RelKT K α H l l0 → RelKT K (α ++ β) H' l l' → RelKT K α H' l l'
  | [], _, _, _, h => h
  | (k, d) :: r, _, _, h0, h => by
    obtain ⟨v, lr, e, h1, h2⟩ := h
    obtain ⟨v0, lr0, e0, h10, h20⟩ := h0
    exact ⟨v, lr, e, RelD.cut d v0 v h10 h1, RelKT.cut r lr0 lr h20 h2⟩
theorem RelO.cut {β : List Addr} {b : Addr} {o : O} (h0 : RelO K α H b o) (h : RelO K (α ++ β) H' a o) : RelO K α H' a o := by
  cases o with
  | lst xs => obtain ⟨vs, e, r⟩ := h; obtain ⟨vs0, e0, r0⟩ := h0; exact ⟨vs, e, RelDs.cut _ _ _ r0 r⟩
  | dK kvs => obtain ⟨vs, e, r⟩ := h; obtain ⟨vs0, e0, r0⟩ := h0; exact ⟨vs, e, RelKK.cut _ _ _ r0 r⟩
  | dT kvs => obtain ⟨vs, e, r⟩ := h; obtain ⟨vs0, e0, r0⟩ := h0; exact ⟨vs, e, RelKT.cut _ _ _ r0 r⟩
  | lkK kvs => obtain ⟨o, vs, e, r⟩ := h; obtain ⟨_, vs0, e0, r0⟩ := h0; exact ⟨o, vs, e, RelKK.cut _ _ _ r0 r⟩
  | lkT kvs => obtain ⟨o, vs, e, r⟩ := h; obtain ⟨_, vs0, e0, r0⟩ := h0; exact ⟨o, vs, e, RelKT.cut _ _ _ r0 r⟩
theorem Rl.take (R : Rl K α hd H) {β : List Addr} (R' : Rl K (α ++ β) hd' H') (e : hd'.take hd.length = hd) : Rl K α hd H' := by
  refine ⟨R.len, R.nd, fun n o a h1 h2 => ?_⟩
  refine (R.ob n o a h1 h2).cut (R'.ob n o a ?_ ?_)
  · rw [← e] at h1
    have hn : n < hd.length := by
      have := (List.getElem?_eq_some_iff.mp h2).1
      rw [R.len] at this
      exact this
    rw [List.getElem?_take_of_lt hn] at h1
    exact h1
  · exact List.getElem?_append_left (List.getElem?_eq_some_iff.mp h2).1 ▸ h2
mutual
def D.noObj : D → Bool
  | .tup xs => D.noObjs xs
  | .ro xs => D.noObjs xs
  | .xt xs => D.noObjs xs
  | .obj _ => false
  | _ => true
def D.noObjs : List D → Bool
  | [] => true
  | d :: ds => d.noObj && D.noObjs ds
end
mutual
theorem RelD.any : ∀ (d : D) (v : V), d.noObj = true → RelD K α H d v → RelD K α' H d v
  | .non, v, _, h => h
  | .bl b, v, _, h => h
  | .int i, v, _, h => h
  | .str s, v, _, h => h
  | .tup xs, v, hn, h => by
    obtain ⟨a, vs, e, q, hx⟩ := h
    exact ⟨a, vs, e, q, RelDs.any xs vs hn hx⟩
  | .obj n, v, hn, h => by cases hn
  | .ro xs, v, hn, h => by
    obtain ⟨a, vs, e, q, hx⟩ := h
    exact ⟨a, vs, e, q, RelDs.any xs vs hn hx⟩
  | .xt xs, v, hn, h => by
    obtain ⟨a, vs, e, q, hx⟩ := h
    exact ⟨a, vs, e, q, RelDs.any xs vs hn hx⟩
theorem RelDs.any : ∀ (ds : List D) (vs : List V), D.noObjs ds = true → RelDs K α H ds vs → RelDs K α' H ds vs
  | [], vs, _, h => h
  | d :: ds, vs, hn, h => by
    obtain ⟨v, vr, e, h1, h2⟩ := h
    have hn' : (d.noObj && D.noObjs ds) = true := hn
    rw [Bool.and_eq_true] at hn'
    exact ⟨v, vr, e, RelD.any d v hn'.1 h1, RelDs.any ds vr hn'.2 h2⟩
end
end DL
namespace DL
open PySem PySem.Spec PyProof.Rows L2

inductive R (A : Type) where
  | ok (a : A) (h : Hd) | ex (c : Nat) (fs : List D) (h : Hd) | no
namespace R
def bind {A B : Type} (r : R A) (f : A → Hd → R B) : R B := match r with
  | ok a h => f a h
  | ex c fs h => ex c fs h
  | no => no
@[simp] theorem bind_ok {A B : Type} (a : A) (h : Hd) (f : A → Hd → R B) : (ok a h).bind f = f a h := rfl
@[simp] theorem bind_ex {A B : Type} (c : Nat) (fs : List D) (h : Hd) (f : A → Hd → R B) : (ex c fs h : R A).bind f = ex c fs h := rfl
@[simp] theorem bind_no {A B : Type} (f : A → Hd → R B) : (no : R A).bind f = no := rfl
def ofO {A : Type} (o : Option A) (h : Hd) : R A := match o with
  | some a => ok a h
  | none => no
@[simp] theorem ofO_some {A : Type} (a : A) (h : Hd) : ofO (some a) h = ok a h := rfl
@[simp] theorem ofO_none {A : Type} (h : Hd) : (ofO none h : R A) = no := rfl
end R
abbrev Sd := List (Option D)
abbrev FV := Sd → Hd → R W
abbrev FD := Sd → Hd → R D
abbrev FL := Sd → Hd → R (List D)
abbrev FB := Sd → Hd → R Bool

def D.items (h : Hd) : D → Option (List D)
  | .obj n => match h[n]? with
    | some (.lst xs) => some xs
    | _ => none
  | .ro xs => some xs
  | _ => none
def W.items (h : Hd) : W → Option (List D)
  | .l xs => some xs
  | .v d => d.items h
def W.lst (h : Hd) : W → Option (List D)
  | .l xs => some xs
  | .v (.obj n) => match h[n]? with
    | some (.lst xs) => some xs
    | _ => none
  | _ => none
def W.ext (h : Hd) : W → Option (List D)
  | .v (.tup xs) => some xs
  | x => x.lst h
def W.seq (h : Hd) : W → Option (List D)
  | .l xs => some xs
  | .v (.tup xs) => some xs
  | .v d => d.items h
def W.settle (w : W) (h : Hd) : R D := match w with
  | .v d => .ok d h
  | .l xs => .ok (.obj h.length) (h ++ [.lst xs])
@[simp] theorem settle_v (d : D) (h : Hd) : (W.v d).settle h = .ok d h := rfl
@[simp] theorem settle_l (xs : List D) (h : Hd) : (W.l xs).settle h = .ok (.obj h.length) (h ++ [.lst xs]) := rfl
def D.fl : D → Option V
  | .non => some .non
  | .bl b => some (.bl b)
  | .int i => some (.int i)
  | .str s => some (.str (mkS s))
  | _ => none
def D.key? : D → Option DK
  | .int i => some (.inl i)
  | .str s => some (.inr s)
  | _ => none
def D.keys? : List D → Option (List DK)
  | [] => some []
  | d :: ds => match d.key?, D.keys? ds with
    | some k, some ks => some (k :: ks)
    | _, _ => none
mutual
def D.py : D → Option PyData
  | .non => some .none
  | .bl b => some (.bool b)
  | .int i => some (.int i)
  | .str s => some (.str (mkS s))
  | .tup xs => (D.pys xs).map .tuple
  | .ro xs => (D.pys xs).map .list
  | .obj _ => none
  | .xt _ => none
def D.pys : List D → Option (List PyData)
  | [] => some []
  | d :: ds => match d.py, D.pys ds with
    | some p, some ps => some (p :: ps)
    | _, _ => none
end
def W.py (h : Hd) : W → Option PyData
  | .l xs => (D.pys xs).map .list
  | .v (.obj n) => match h[n]? with
    | some (.lst xs) => (D.pys xs).map .list
    | _ => none
  | .v d => d.py
def W.truth (h : Hd) : W → Option Bool
  | .l xs => some !xs.isEmpty
  | .v .non => some false
  | .v (.bl b) => some b
  | .v (.int i) => some (i != 0)
  | .v (.str s) => if s.length ≤ sizeLine then some (!s.isEmpty) else none
  | .v (.tup xs) => some !xs.isEmpty
  | .v (.ro xs) => some !xs.isEmpty
  | .v (.xt _) => none
  | .v (.obj n) => match h[n]? with
    | some (.lst xs) => some !xs.isEmpty
    | some (.dK kvs) => some !kvs.isEmpty
    | _ => none

def wide (i : Int) : Bool := decide (-(2 ^ 64) < i) && decide (i < 2 ^ 64)
def addW (x y : W) (h : Hd) : Option W :=
  match x, y with
  | .v (.int i), .v (.int j) => some (.v (.int (i + j)))
  | .v (.str s), .v (.str t) => if s.length + t.length ≤ sizeLine then some (.v (.str (s ++ t))) else none
  | .v (.tup s), .v (.tup t) => if s.length + t.length ≤ sizeLine then some (.v (.tup (s ++ t))) else none
  | x, y => match x.lst h, y.lst h with
    | some s, some t => if s.length + t.length ≤ sizeLine then some (.l (s ++ t)) else none
    | _, _ => none
def mulW (x y : W) (h : Hd) : Option W :=
  match x, y with
  | .v (.int i), .v (.int j) => if wide i || wide j then some (.v (.int (i * j))) else none
  | .v (.tup xs), .v (.int k) => if -(2 ^ 63) ≤ k ∧ k ≤ 1000 ∧ xs.length ≤ 1000 then some (.v (.tup (List.replicate k.toNat xs).flatten)) else none
  | .v (.str xs), .v (.int k) => if -(2 ^ 63) ≤ k ∧ k ≤ 4096 ∧ xs.length ≤ 4096 then some (.v (.str (List.replicate k.toNat xs).flatten)) else none
  | x, .v (.int k) => match x.lst h with
    | some xs => if -(2 ^ 63) ≤ k ∧ k < 2 ^ 63 ∧ xs.length * k.toNat ≤ sizeLine then some (.l (List.replicate k.toNat xs).flatten) else none
    | none => none
  | _, _ => none
def intOp (op : Operator) (i j : Int) : Option Int :=
  match op with
  | .Sub => some (i - j)
  | .FloorDiv => if 0 < j ∧ j < 2 ^ 64 then some (i / j) else none
  | .Mod => if 0 < j then some (i % j) else none
  | .Pow => if 0 ≤ j ∧ j ≤ 1000000 ∧ i.natAbs < 2 ^ 64 then some (i ^ j.toNat) else none
  | .RShift => if 0 ≤ j then some (i / 2 ^ j.toNat) else none
  | .LShift => if 0 ≤ j ∧ j ≤ 1000000 ∧ i.natAbs < 2 ^ 64 then some (i * 2 ^ j.toNat) else none
  | .BitXor => some (Builtin.bitXor i j)
  | .BitAnd => some (Builtin.bitAnd i j)
  | .BitOr => some (Builtin.bitOr i j)
  | _ => none
def binop (op : Operator) (x y : W) (h : Hd) : Option W :=
  match op with
  | .Add => addW x y h
  | .Mult => mulW x y h
  | op => match x, y with
    | .v (.int i), .v (.int j) => (intOp op i j).map fun k => .v (.int k)
    | _, _ => none
def unop (op : UnaryOp) (x : W) : Option W := match op, x with
  | .USub, .v (.int i) => some (.v (.int (-i)))
  | _, _ => none
def eqW (x y : W) (h : Hd) : Option Bool :=
  match x, y with
  | .v (.int i), .v (.int j) => some (decide (i = j))
  | .v (.str s), .v (.str t) => some (decide (s = t))
  | .v (.bl a), .v (.bl b) => some (decide (a = b))
  | x, y => match x.py h, y.py h with
    | some p, some q => if p.canLay0 = true ∧ q.canLay0 = true ∧ p.depth ≤ 128 then some (PyData.eqv p q) else none
    | _, _ => none
def memF (x : V) : List D → Option Bool
  | [] => some false
  | d :: ds => match d.fl, memF x ds with
    | some y, some b => some (eqV y x || b)
    | _, _ => none
def valK {κ : Type} [DecidableEq κ] (kvs : List (κ × D)) (k : κ) : Option D := (kvs.find? fun kv => decide (kv.1 = k)).map (·.2)
def putK {κ : Type} [DecidableEq κ] (kvs : List (κ × D)) (k : κ) (v : D) : List (κ × D) :=
  if (kvs.any fun kv => decide (kv.1 = k)) then kvs.map (fun kv => if kv.1 = k then (kv.1, v) else kv) else kvs ++ [(k, v)]
def O.look (o : O) (d : D) : Option (Option D) := match o with
  | .dK kvs => (d.key?).map fun k => valK kvs k
  | .lkK kvs => (d.key?).map fun k => valK kvs k
  | .dT kvs => match d with
    | .tup ds => (D.keys? ds).map fun k => valK kvs k
    | _ => none
  | .lkT kvs => match d with
    | .tup ds => (D.keys? ds).map fun k => valK kvs k
    | _ => none
  | .lst _ => none
def D.pyo (h : Hd) : D → Option PyData
  | .obj n => match h[n]? with
    | some (.lst xs) => (D.pys xs).map .list
    | _ => none
  | d => d.py
def D.pyos (h : Hd) : List D → Option (List PyData)
  | [] => some []
  | d :: ds => match d.pyo h, D.pyos h ds with
    | some q, some qs => some (q :: qs)
    | _, _ => none
def inD (x y : W) (h : Hd) : Option Bool := match x with
  | .v d => match d.pyo h, y.items h with
    | some p, some ys => match D.pyos h ys with
      | some ps => if SeqAt.shaped p = true ∧ SeqAt.shaped (.list ps) = true then some (ps.any fun z => PyData.eqv z p) else none
      | none => none
    | _, _ => none
  | .l _ => none
def inW (x y : W) (h : Hd) : Option Bool :=
  match x, y with
  | .v (.str s), .v (.str t) => match s with
    | [c] => some (decide (c ∈ t))
    | _ => some (!(Builtin.Str.occurrences (mkS t) (mkS s) 0 t.length 1).isEmpty)
  | .v d, .v (.obj n) => match h[n]? with
    | some (.lst xs) => match d.fl with
      | some x => memF x xs
      | none => none
    | some o => (o.look d).map (·.isSome)
    | none => none
  | .v d, y => match d.fl, y.seq h with
    | some x, some xs => memF x xs
    | _, _ => none
  | _, _ => none
def inA (x y : W) (h : Hd) : Option Bool := match inW x y h with
  | some b => some b
  | none => inD x y h
def ordW (f : Int → Int → Bool) (g : List Nat → List Nat → Bool) (x y : W) : Option Bool := match x, y with
  | .v (.int i), .v (.int j) => some (f i j)
  | .v (.str s), .v (.str t) => some (g s t)
  | _, _ => none
def D.isN : D → Bool
  | .non => true
  | _ => false
def cmpW (op : CmpOp) (x y : W) (h : Hd) : Option Bool :=
  match op with
  | .Eq => eqW x y h
  | .NotEq => (eqW x y h).map (!·)
  | .Lt => ordW (fun i j => decide (i < j)) (fun s t => decide (s < t)) x y
  | .LtE => ordW (fun i j => decide (i ≤ j)) (fun s t => !decide (t < s)) x y
  | .Gt => ordW (fun i j => decide (j < i)) (fun s t => decide (t < s)) x y
  | .GtE => ordW (fun i j => decide (j ≤ i)) (fun s t => !decide (s < t)) x y
  | .Is => match x, y with
    | .v d, .v .non => some d.isN
    | .v (.bl a), .v (.bl b) => some (decide (a = b))
    | .l _, .v .non => some false
    | _, _ => none
  | .IsNot => match x, y with
    | .v d, .v .non => some (!d.isN)
    | .v (.bl a), .v (.bl b) => some (!decide (a = b))
    | .l _, .v .non => some true
    | _, _ => none
  | .In => inA x y h
  | .NotIn => (inA x y h).map (!·)

def getIx (x y : W) (h : Hd) : Option W :=
  match x, y with
  | .v (.str s), .v (.int i) => if s.length ≤ sizeLine then (atI s i).map fun c => .v (.str [c]) else none
  | .v (.tup xs), .v (.int i) => (atI xs i).map .v
  | .v (.obj n), .v d => match h[n]? with
    | some (.lst xs) => match d with
      | .int i => (atI xs i).map .v
      | _ => none
    | some o => match o.look d with
      | some (some v) => some (.v v)
      | _ => none
    | none => none
  | x, .v (.int i) => match x.items h with
    | some xs => (atI xs i).map .v
    | none => none
  | _, _ => none
def cutL {α : Type} (xs : List α) (lo hi : Option Int) : List α := (xs.drop (HT.sIx xs.length 0 lo)).take (HT.sIx xs.length xs.length hi - HT.sIx xs.length 0 lo)
def getSl (x : W) (lo hi : Option Int) (h : Hd) : Option W :=
  match x with
  | .v (.str s) => if s.length ≤ sizeLine then some (.v (.str (cutL s lo hi))) else none
  | .v (.tup xs) => some (.v (.tup (cutL xs lo hi)))
  | x => (x.items h).map fun xs => .l (cutL xs lo hi)
def revSl (x : W) (h : Hd) : Option W := (x.items h).map fun xs => .l xs.reverse

inductive B1 where
  | len | abs | int | str | tuple | list | sum | sorted | bool | ord | chr | any | all
  deriving DecidableEq
def intsOf : List D → Option (List Int)
  | [] => some []
  | .int i :: r => (intsOf r).map (i :: ·)
  | _ :: _ => none
def strsOf : List D → Option (List (List Nat))
  | [] => some []
  | .str s :: r => (strsOf r).map (s :: ·)
  | _ :: _ => none
def blsOf : List D → Option (List Bool)
  | [] => some []
  | .bl s :: r => (blsOf r).map (s :: ·)
  | _ :: _ => none
def ltDs : List D → List D → Bool
  | [], [] => false
  | [], _ :: _ => true
  | _ :: _, [] => false
  | .int i :: xs, .int j :: ys => if i = j then ltDs xs ys else decide (i < j)
  | .str s :: xs, .str t :: ys => if s = t then ltDs xs ys else decide (s < t)
  | _ :: _, _ :: _ => false
def ltD : D → D → Bool
  | .int i, .int j => decide (i < j)
  | .str s, .str t => decide (s < t)
  | .tup xs, .tup ys => ltDs xs ys
  | _, _ => false
def shapeDs : List D → Option (List Bool)
  | [] => some []
  | .int _ :: r => (shapeDs r).map (true :: ·)
  | .str _ :: r => (shapeDs r).map (false :: ·)
  | _ :: _ => none
def shapeD : D → Option (Option (List Bool))
  | .int _ => some (some [])
  | .str _ => some none
  | .tup xs => if xs = [] then none else (shapeDs xs).map fun s => some (true :: s)
  | _ => none
def insD (x : D) : List D → List D
  | [] => [x]
  | y :: ys => if ltD x y then x :: y :: ys else y :: insD x ys
def sortD (xs : List D) : List D := xs.foldl (fun acc x => insD x acc) []
def oneShape (xs : List D) : Bool := match xs with
  | [] => true
  | x :: r => match shapeD x with
    | none => false
    | some s => r.all fun y => decide (shapeD y = some s)
def sortI (ns : List Int) : List Int := ns.mergeSort fun a b => decide (a ≤ b)
def sortS (ns : List (List Nat)) : List (List Nat) := ns.mergeSort fun a b => !decide (b < a)
def pyE (d : D) : PyData := d.py.getD .none
def leD (x y : D) : Bool := !PySem.W.dataLt (pyE y) (pyE x)
def sortPy (xs : List D) : List D := xs.mergeSort leD
def isTupC : PyData → Bool
  | .tuple (_ :: _) => true
  | _ => false
def notTN : PyData → Bool
  | .tuple _ => false
  | .none => false
  | _ => true
def srtOk (ps : List PyData) : Bool := (ps.all fun p => ps.all fun q => PySem.W.alike p q) && (ps.all isTupC || ps.all notTN) && (ps.all fun p => decide (p.depth ≤ 100))
def blS (w : W) (h : Hd) : Option W := match w.items h with
  | some xs => match D.pys xs with
    | some ps => if srtOk ps = true then some (.l (sortPy xs)) else none
    | none => none
  | none => none
def srt0 (x : W) (h : Hd) : Option W := match x.items h with
  | some xs => match intsOf xs with
    | some ns => some (.l ((sortI ns).map .int))
    | none => match strsOf xs with
      | some ss => if ss.length < 64 then some (.l ((sortS ss).map .str)) else none
      | none => none
  | none => none
def bl1 (b : B1) (x : W) (h : Hd) : Option W :=
  match b with
  | .len => match x with
    | .v (.str s) => if s.length ≤ sizeLine then some (.v (.int s.length)) else none
    | .v (.obj n) => match h[n]? with
      | some (.lst xs) => some (.v (.int xs.length))
      | some (.dK kvs) => some (.v (.int kvs.length))
      | _ => none
    | x => (x.seq h).map fun xs => .v (.int xs.length)
  | .abs => match x with
    | .v (.int i) => some (.v (.int i.natAbs))
    | _ => none
  | .int => match x with
    | .v (.int i) => some (.v (.int i))
    | .v (.bl b) => some (.v (.int (if b then 1 else 0)))
    | _ => none
  | .str => match x with
    | .v (.int i) => if i.natAbs.log2 < 1920 then some (.v (.str (Str.ofString (toString i)).cps.toList)) else none
    | _ => none
  | .tuple => (x.seq h).map fun xs => .v (.tup xs)
  | .list => (x.seq h).map fun xs => .l xs
  | .sum => match x.items h with
    | some xs => (intsOf xs).map fun ns => .v (.int ns.sum)
    | none => none
  | .sorted => match srt0 x h with
    | some w => some w
    | none => blS x h
  | .any => match x.items h with
    | some xs => (blsOf xs).map fun ns => .v (.bl (ns.any id))
    | none => none
  | .all => match x.items h with
    | some xs => (blsOf xs).map fun ns => .v (.bl (ns.all id))
    | none => none
  | _ => none
inductive B2 where
  | max | min
  deriving DecidableEq
def bl2 (b : B2) (x y : W) : Option W :=
  match b, x, y with
  | .max, .v (.int i), .v (.int j) => some (.v (.int (if j > i then j else i)))
  | .min, .v (.int i), .v (.int j) => some (.v (.int (if j < i then j else i)))
  | _, _, _ => none
inductive Ty where
  | int | str | tuple | list | bool | dict
  deriving DecidableEq
def Ty.nm : Ty → String
  | .int => "int" | .str => "str" | .tuple => "tuple" | .list => "list" | .bool => "bool" | .dict => "dict"
def isTy (t : Ty) (x : W) (h : Hd) : Option Bool :=
  match x with
  | .l _ => some (t == .list)
  | .v .non => some false
  | .v (.bl _) => some (t == .bool || t == .int)
  | .v (.int _) => some (t == .int)
  | .v (.str _) => some (t == .str)
  | .v (.tup _) => some (t == .tuple)
  | .v (.ro _) => some (t == .list)
  | .v (.xt _) => none
  | .v (.obj n) => match h[n]? with
    | some (.lst _) => some (t == .list)
    | some (.dK _) => some (t == .dict)
    | some (.dT _) => some (t == .dict)
    | _ => none

inductive M0 where
  | pop | reverse | clear
  deriving DecidableEq
inductive M1 where
  | append | extend | pop | get | join | count | index
  deriving DecidableEq
inductive M2 where
  | get | setdefault | replace
  deriving DecidableEq
def mt0 (m : M0) (o : W) (h : Hd) : R W :=
  match m, o with
  | .pop, .v (.obj n) => match h[n]? with
    | some (.lst xs) => match xs[xs.length - 1]? with
      | some y => .ok (.v y) (h.set n (.lst xs.dropLast))
      | none => .no
    | _ => .no
  | .reverse, .v (.obj n) => match h[n]? with
    | some (.lst xs) => .ok (.v .non) (h.set n (.lst xs.reverse))
    | _ => .no
  | .clear, .v (.obj n) => match h[n]? with
    | some (.lst _) => .ok (.v .non) (h.set n (.lst []))
    | _ => .no
  | _, _ => .no
def joinD (sep : List Nat) : List (List Nat) → List Nat
  | [] => []
  | [x] => x
  | x :: y :: r => x ++ sep ++ joinD sep (y :: r)
def cntW (x : W) (xs : List D) (h : Hd) : Option Int := match D.pys xs, x.py h with
  | some ps, some p => if PyData.canLayAll0 ps = true ∧ p.canLay0 = true ∧ p.depth ≤ 128 then some ((ps.countP fun z => PyData.eqv z p : Nat) : Int) else none
  | _, _ => none
def idxW (x : W) (xs : List D) (h : Hd) : Option Int := match D.pys xs, x.py h with
  | some ps, some p => if PyData.canLayAll0 ps = true ∧ p.canLay0 = true ∧ p.depth ≤ 128 ∧ (ps.any fun z => PyData.eqv z p) = true then some ((ps.findIdx fun z => PyData.eqv z p : Nat) : Int) else none
  | _, _ => none
def mt1 (m : M1) (o : W) (x : W) (h : Hd) : R W :=
  match m, o with
  | .append, .v (.obj n) => match h[n]? with
    | some (.lst xs) => match x with
      | .v d => if xs.length < sizeLine then .ok (.v .non) (h.set n (.lst (xs ++ [d]))) else .no
      | .l _ => .no
    | _ => .no
  | .extend, .v (.obj n) => match h[n]? with
    | some (.lst xs) => match x.ext h with
      | some ys => if xs.length + ys.length ≤ sizeLine then .ok (.v .non) (h.set n (.lst (xs ++ ys))) else .no
      | none => .no
    | _ => .no
  | .pop, .v (.obj n) => match h[n]? with
    | some (.lst xs) => match x with
      | .v (.int i) => if -(2 ^ 63) ≤ i ∧ i < 2 ^ 63 then (match seqIndex? i xs.length with
        | some k => match xs[k]? with
          | some y => .ok (.v y) (h.set n (.lst (xs.eraseIdx k)))
          | none => .no
        | none => .no) else .no
      | _ => .no
    | _ => .no
  | .get, .v (.obj n) => match h[n]?, x with
    | some o, .v d => match o.look d with
      | some r => .ok (.v (r.getD .non)) h
      | none => .no
    | _, _ => .no
  | .count, .v (.obj n) => match h[n]? with
    | some (.lst xs) => R.ofO ((cntW x xs h).map fun i => .v (.int i)) h
    | _ => .no
  | .index, .v (.obj n) => match h[n]? with
    | some (.lst xs) => R.ofO ((idxW x xs h).map fun i => .v (.int i)) h
    | _ => .no
  | .join, .v (.str sep) => match x.seq h with
    | some xs => match strsOf xs with
      | some ys => if (ys.map (·.length)).sum + ys.length * sep.length ≤ 16777216 then .ok (.v (.str (joinD sep ys))) h else .no
      | none => .no
    | none => .no
  | _, _ => .no
end DL
namespace DL
open PySem PySem.Spec PyProof.Rows L2

variable {K : PySem.W.Frag}
variable {α α' α'' α1 : List Addr} {H H' H'' H1 : Hp} {hd hd' hd1 : Hd} {a p : Addr}
structure RelS (K : PySem.W.Frag) (α : List Addr) (H : Hp) (σd : Sd) (σ : L2.St) : Prop where
  len : σd.length = σ.length
  ix : ∀ (i : Nat) (d : D), σd[i]? = some (some d) → ∃ v, σ[i]? = some (some v) ∧ RelD K α H d v
theorem RelS.gr {σd : Sd} {σ : L2.St} (S : RelS K α H σd σ) (R : Rl K α hd H) (g : Gr α H α' H') : RelS K α' H' σd σ :=
  ⟨S.len, fun i d e => let ⟨v, h1, h2⟩ := S.ix i d e; ⟨v, h1, h2.gr R g⟩⟩
theorem RelS.set {σd : Sd} {σ : L2.St} (S : RelS K α H σd σ) {d : D} {v : V} (h : RelD K α H d v) (i : Nat) : RelS K α H (σd.set i (some d)) (σ.set i (some v)) := by
  refine ⟨by simp [S.len], fun j e he => ?_⟩
  by_cases hj : j = i
  · subst hj
    by_cases hl : j < σd.length
    · rw [List.getElem?_set_self hl] at he
      cases he
      exact ⟨v, List.getElem?_set_self (by rw [← S.len]; exact hl), h⟩
    · rw [List.getElem?_eq_none (by simpa using hl)] at he
      cases he
  · rw [List.getElem?_set_ne (Ne.symm hj)] at he
    rw [List.getElem?_set_ne (Ne.symm hj)]
    exact S.ix j e he
theorem Gr.none (g : Gr α H α' H') (R' : Rl K α' hd' H') (h : H' a = none) : H a = none := by
  cases e : H a with
  | none => rfl
  | some o =>
    by_cases hm : a ∈ α
    · obtain ⟨β, rfl, _⟩ := g.pre
      exact absurd h (by
        obtain ⟨_, o', _, _, r⟩ := R'.at (List.mem_append_left β hm)
        obtain ⟨u, e', _⟩ := r.mut
        rw [e']
        exact fun z => nomatch z)
    · rw [g.fr a o e hm] at h
      cases h

def PoW (K : PySem.W.Frag) (α : List Addr) (H : Hp) (r : R W) (Q : V → Hp → Prop) : Prop := match r with
  | .ok w hd' => ∀ α' H' v, Gr α H α' H' → Rl K α' hd' H' → RelW K α' H' w v → NewW H w v → Q v H'
  | _ => False
def PoD (K : PySem.W.Frag) (α : List Addr) (H : Hp) (r : R D) (Q : V → Hp → Prop) : Prop := match r with
  | .ok w hd' => ∀ α' H' v, Gr α H α' H' → Rl K α' hd' H' → RelD K α' H' w v → Q v H'
  | _ => False
def PoL (K : PySem.W.Frag) (α : List Addr) (H : Hp) (r : R (List D)) (Q : List V → Hp → Prop) : Prop := match r with
  | .ok w hd' => ∀ α' H' v, Gr α H α' H' → Rl K α' hd' H' → RelDs K α' H' w v → Q v H'
  | _ => False
def PoB (K : PySem.W.Frag) (α : List Addr) (H : Hp) (r : R Bool) (Q : Bool → Hp → Prop) : Prop := match r with
  | .ok b hd' => ∀ α' H', Gr α H α' H' → Rl K α' hd' H' → Q b H'
  | _ => False
theorem NewW.back (g : Gr α H α1 H1) (R1 : Rl K α1 hd1 H1) {w : W} {v : V} (n : NewW H1 w v) : NewW H w v := by
  cases w with
  | v d => trivial
  | l xs => exact fun a e => g.none R1 (n a e)
theorem PoW.from {r : R W} {Q : V → Hp → Prop} (g : Gr α H α1 H1) (R1 : Rl K α1 hd1 H1) (h : PoW K α H r Q) : PoW K α1 H1 r Q := by
  cases r with
  | ok w hd' => exact fun α' H' v g' R' rw n => h α' H' v (g.trans g') R' rw (n.back g R1)
  | ex => exact h
  | no => exact h
theorem PoD.from {r : R D} {Q : V → Hp → Prop} (g : Gr α H α1 H1) (h : PoD K α H r Q) : PoD K α1 H1 r Q := by
  cases r with
  | ok w hd' => exact fun α' H' v g' R' rw => h α' H' v (g.trans g') R' rw
  | ex => exact h
  | no => exact h
theorem PoL.from {r : R (List D)} {Q : List V → Hp → Prop} (g : Gr α H α1 H1) (h : PoL K α H r Q) : PoL K α1 H1 r Q := by
  cases r with
  | ok w hd' => exact fun α' H' v g' R' rw => h α' H' v (g.trans g') R' rw
  | ex => exact h
  | no => exact h
theorem PoB.from {r : R Bool} {Q : Bool → Hp → Prop} (g : Gr α H α1 H1) (h : PoB K α H r Q) : PoB K α1 H1 r Q := by
  cases r with
  | ok w hd' => exact fun α' H' g' R' => h α' H' (g.trans g') R'
  | ex => exact h
  | no => exact h
theorem PoW.settled {w : W} {v : V} {Q : V → Hp → Prop} (g : Gr α H α' H') (R' : Rl K α' hd' H') (rw : RelW K α' H' w v) (n : NewW H w v)
    (h : PoD K α H (w.settle hd') Q) : Q v H' := by
  cases w with
  | v d => exact h α' H' v g R' rw
  | l xs =>
    obtain ⟨a, vs, e, ha, hn, hx⟩ := rw
    subst e
    refine h (α' ++ [a]) H' _ (g.join (n a rfl) hn) (R'.join hn ⟨vs, ha, hx⟩) ⟨a, ?_, rfl⟩
    rw [← R'.len]
    simp
def TV (K : PySem.W.Frag) (f : FV) : TE := fun σ H Q => ∃ α σd hd, Rl K α hd H ∧ RelS K α H σd σ ∧ PoW K α H (f σd hd) Q
def TD (K : PySem.W.Frag) (f : FD) : TE := fun σ H Q => ∃ α σd hd, Rl K α hd H ∧ RelS K α H σd σ ∧ PoD K α H (f σd hd) Q
def TL (K : PySem.W.Frag) (f : FL) : TA := fun σ H Q => ∃ α σd hd, Rl K α hd H ∧ RelS K α H σd σ ∧ PoL K α H (f σd hd) Q
def TB (K : PySem.W.Frag) (f : FB) : TT := fun σ H Q => ∃ α σd hd, Rl K α hd H ∧ RelS K α H σd σ ∧ PoB K α H (f σd hd) Q
theorem TV.seq {B : Type} {f : FV} {k : W → Hd → R B} {σd : Sd} {σ : L2.St} {C : V → Hp → Prop} (R : Rl K α hd H) (S : RelS K α H σd σ)
    (ok : ∃ b h, (f σd hd).bind k = .ok b h)
    (cont : ∀ x hd1 α1 H1 v1, (f σd hd).bind k = k x hd1 → Gr α H α1 H1 → Rl K α1 hd1 H1 → RelS K α1 H1 σd σ → RelW K α1 H1 x v1 → NewW H x v1 → C v1 H1) : TV K f σ H C := by
  refine ⟨α, σd, hd, R, S, ?_⟩
  cases e : f σd hd with
  | ok x hd1 => exact fun α1 H1 v1 g R1 r n => cont x hd1 α1 H1 v1 (by rw [e]; rfl) g R1 (S.gr R g) r n
  | ex c fs h => rw [e] at ok; obtain ⟨_, _, z⟩ := ok; cases z
  | no => rw [e] at ok; obtain ⟨_, _, z⟩ := ok; cases z
theorem PoW.ok {r : R W} {Q : V → Hp → Prop} (h : PoW K α H r Q) : ∃ b h, r = .ok b h := by
  cases r with
  | ok b h' => exact ⟨b, h', rfl⟩
  | _ => exact h.elim
theorem PoD.ok {r : R D} {Q : V → Hp → Prop} (h : PoD K α H r Q) : ∃ b h, r = .ok b h := by
  cases r with
  | ok b h' => exact ⟨b, h', rfl⟩
  | _ => exact h.elim
theorem PoL.ok {r : R (List D)} {Q : List V → Hp → Prop} (h : PoL K α H r Q) : ∃ b h, r = .ok b h := by
  cases r with
  | ok b h' => exact ⟨b, h', rfl⟩
  | _ => exact h.elim
theorem PoB.ok {r : R Bool} {Q : Bool → Hp → Prop} (h : PoB K α H r Q) : ∃ b h, r = .ok b h := by
  cases r with
  | ok b h' => exact ⟨b, h', rfl⟩
  | _ => exact h.elim
theorem TB.seq {B : Type} {f : FB} {k : Bool → Hd → R B} {σd : Sd} {σ : L2.St} {C : Bool → Hp → Prop} (R : Rl K α hd H) (S : RelS K α H σd σ)
    (ok : ∃ b h, (f σd hd).bind k = .ok b h)
    (cont : ∀ x hd1 α1 H1, (f σd hd).bind k = k x hd1 → Gr α H α1 H1 → Rl K α1 hd1 H1 → RelS K α1 H1 σd σ → C x H1) : TB K f σ H C := by
  refine ⟨α, σd, hd, R, S, ?_⟩
  cases e : f σd hd with
  | ok x hd1 => exact fun α1 H1 g R1 => cont x hd1 α1 H1 (by rw [e]; rfl) g R1 (S.gr R g)
  | ex c fs h => rw [e] at ok; obtain ⟨_, _, z⟩ := ok; cases z
  | no => rw [e] at ok; obtain ⟨_, _, z⟩ := ok; cases z
theorem TL.seq {B : Type} {f : FL} {k : List D → Hd → R B} {σd : Sd} {σ : L2.St} {C : List V → Hp → Prop} (R : Rl K α hd H) (S : RelS K α H σd σ)
    (ok : ∃ b h, (f σd hd).bind k = .ok b h)
    (cont : ∀ x hd1 α1 H1 v1, (f σd hd).bind k = k x hd1 → Gr α H α1 H1 → Rl K α1 hd1 H1 → RelS K α1 H1 σd σ → RelDs K α1 H1 x v1 → C v1 H1) : TL K f σ H C := by
  refine ⟨α, σd, hd, R, S, ?_⟩
  cases e : f σd hd with
  | ok x hd1 => exact fun α1 H1 v1 g R1 r => cont x hd1 α1 H1 v1 (by rw [e]; rfl) g R1 (S.gr R g) r
  | ex c fs h => rw [e] at ok; obtain ⟨_, _, z⟩ := ok; cases z
  | no => rw [e] at ok; obtain ⟨_, _, z⟩ := ok; cases z

theorem RelDs.length : ∀ {ds : List D} {vs : List V}, RelDs K α H ds vs → vs.length = ds.length
  | [], vs, h => by
    have e : vs = [] := h
    rw [e]; rfl
  | d :: ds, vs, h => by
    obtain ⟨v, vr, e, _, h2⟩ := h
    rw [e, List.length_cons, List.length_cons, RelDs.length h2]
theorem RelDs.get : ∀ {ds : List D} {vs : List V} {i : Nat} {d : D}, RelDs K α H ds vs → ds[i]? = some d → ∃ v, vs[i]? = some v ∧ RelD K α H d v
  | [], _, _, _, _, e => by simp at e
  | d :: ds, vs, 0, x, h, e => by
    obtain ⟨v, vr, rfl, h1, h2⟩ := h
    simp only [List.getElem?_cons_zero, Option.some.injEq] at e
    subst e
    exact ⟨v, rfl, h1⟩
  | d :: ds, vs, i + 1, x, h, e => by
    obtain ⟨v, vr, rfl, h1, h2⟩ := h
    simp only [List.getElem?_cons_succ] at e ⊢
    exact RelDs.get h2 e
theorem RelDs.append : ∀ {ds es : List D} {vs ws : List V}, RelDs K α H ds vs → RelDs K α H es ws → RelDs K α H (ds ++ es) (vs ++ ws)
  | [], es, vs, ws, h, h' => by
    have e : vs = [] := h
    rw [e]; exact h'
  | d :: ds, es, vs, ws, h, h' => by
    obtain ⟨v, vr, rfl, h1, h2⟩ := h
    exact ⟨v, vr ++ ws, rfl, h1, RelDs.append h2 h'⟩
theorem RelDs.take : ∀ {ds : List D} {vs : List V} (n : Nat), RelDs K α H ds vs → RelDs K α H (ds.take n) (vs.take n)
  | [], vs, n, h => by
    have e : vs = [] := h
    rw [e]; simp [RelDs]
  | d :: ds, vs, 0, h => by simp [RelDs]
  | d :: ds, vs, n + 1, h => by
    obtain ⟨v, vr, rfl, h1, h2⟩ := h
    exact ⟨v, vr.take n, rfl, h1, RelDs.take n h2⟩
theorem RelDs.drop : ∀ {ds : List D} {vs : List V} (n : Nat), RelDs K α H ds vs → RelDs K α H (ds.drop n) (vs.drop n)
  | [], vs, n, h => by
    have e : vs = [] := h
    rw [e]; simp [RelDs]
  | d :: ds, vs, 0, h => h
  | d :: ds, vs, n + 1, h => by
    obtain ⟨v, vr, rfl, h1, h2⟩ := h
    exact RelDs.drop n h2
theorem RelDs.reverse : ∀ {ds : List D} {vs : List V}, RelDs K α H ds vs → RelDs K α H ds.reverse vs.reverse
  | [], vs, h => by
    have e : vs = [] := h
    rw [e]; simp [RelDs]
  | d :: ds, vs, h => by
    obtain ⟨v, vr, rfl, h1, h2⟩ := h
    rw [List.reverse_cons, List.reverse_cons]
    exact (RelDs.reverse h2).append ⟨v, [], rfl, h1, rfl⟩
theorem RelDs.set {d : D} {v : V} (hr : RelD K α H d v) : ∀ {ds : List D} {vs : List V} (i : Nat), RelDs K α H ds vs → RelDs K α H (ds.set i d) (vs.set i v)
  | [], vs, i, h => by
    have e : vs = [] := h
    rw [e]; simp [RelDs]
  | d' :: ds, vs, 0, h => by
    obtain ⟨v', vr, rfl, h1, h2⟩ := h
    exact ⟨v, vr, rfl, hr, h2⟩
  | d' :: ds, vs, i + 1, h => by
    obtain ⟨v', vr, rfl, h1, h2⟩ := h
    exact ⟨v', vr.set i v, rfl, h1, RelDs.set hr i h2⟩
theorem RelDs.erase : ∀ {ds : List D} {vs : List V} (i : Nat), RelDs K α H ds vs → RelDs K α H (ds.eraseIdx i) (vs.eraseIdx i)
  | [], vs, i, h => by
    have e : vs = [] := h
    rw [e]; simp [RelDs]
  | d' :: ds, vs, 0, h => by
    obtain ⟨v', vr, rfl, h1, h2⟩ := h
    exact h2
  | d' :: ds, vs, i + 1, h => by
    obtain ⟨v', vr, rfl, h1, h2⟩ := h
    exact ⟨v', vr.eraseIdx i, rfl, h1, RelDs.erase i h2⟩
theorem RelDs.dropLast {ds : List D} {vs : List V} (h : RelDs K α H ds vs) : RelDs K α H ds.dropLast vs.dropLast := by
  rw [List.dropLast_eq_take, List.dropLast_eq_take, h.length]
  exact h.take _
theorem RelDs.rep {ds : List D} {vs : List V} (h : RelDs K α H ds vs) : ∀ k : Nat, RelDs K α H (List.replicate k ds).flatten (List.replicate k vs).flatten
  | 0 => by simp [RelDs]
  | k + 1 => by
    rw [List.replicate_succ, List.replicate_succ, List.flatten_cons, List.flatten_cons]
    exact h.append (RelDs.rep h k)
theorem RelDs.isEmpty {ds : List D} {vs : List V} (h : RelDs K α H ds vs) : vs.isEmpty = ds.isEmpty := by
  cases ds with
  | nil =>
    have e : vs = [] := h
    rw [e]; rfl
  | cons d ds =>
    obtain ⟨v, vr, rfl, h1, h2⟩ := h
    rfl
theorem items_at {x : W} {v : V} {xs : List D} (R : Rl K α hd H) (r : RelW K α H x v) (h : x.items hd = some xs) : ∃ a vs, v = .ref a ∧ SqL K H a vs ∧ RelDs K α H xs vs := by
  cases x with
  | l ys =>
    obtain ⟨a, vs, e, ha, _, hx⟩ := r
    simp only [W.items, Option.some.injEq] at h
    subst h
    exact ⟨a, vs, e, SqL.of ha, hx⟩
  | v d =>
    cases d with
    | obj n =>
      simp only [W.items, D.items] at h
      obtain ⟨a, e, ev⟩ := r
      split at h
      · rename_i ys ho
        cases h
        obtain ⟨vs, e2, hx⟩ := R.ob n _ a ho e
        exact ⟨a, vs, ev, SqL.of e2, hx⟩
      · cases h
    | ro ys =>
      simp only [W.items, D.items, Option.some.injEq] at h
      subst h
      obtain ⟨a, vs, e, hr, hx⟩ := r
      exact ⟨a, vs, e, hr.sq, hx⟩
    | _ => simp [W.items, D.items] at h
theorem lst_at {x : W} {v : V} {xs : List D} (R : Rl K α hd H) (r : RelW K α H x v) (h : x.lst hd = some xs) : ∃ a vs, v = .ref a ∧ H a = some (.lst vs) ∧ RelDs K α H xs vs := by
  cases x with
  | l ys =>
    obtain ⟨a, vs, e, ha, _, hx⟩ := r
    simp only [W.lst, Option.some.injEq] at h
    subst h
    exact ⟨a, vs, e, ha, hx⟩
  | v d =>
    cases d with
    | obj n =>
      simp only [W.lst] at h
      obtain ⟨a, e, ev⟩ := r
      split at h
      · rename_i ys ho
        cases h
        obtain ⟨vs, e2, hx⟩ := R.ob n _ a ho e
        exact ⟨a, vs, ev, e2, hx⟩
      · cases h
    | _ => simp [W.lst] at h
theorem seq_at {x : W} {v : V} {xs : List D} (R : Rl K α hd H) (r : RelW K α H x v) (h : x.seq hd = some xs) : ∃ a vs, v = .ref a ∧ (SqL K H a vs ∨ SqT K H a vs) ∧ RelDs K α H xs vs := by
  cases x with
  | l ys =>
    obtain ⟨a, vs, e, h1, h2⟩ := items_at R r (xs := xs) (by simpa [W.items, W.seq] using h)
    exact ⟨a, vs, e, .inl h1, h2⟩
  | v d =>
    cases d with
    | tup ys =>
      simp only [W.seq, Option.some.injEq] at h
      subst h
      obtain ⟨a, vs, e, ht, hx⟩ := r
      exact ⟨a, vs, e, .inr (SqT.of ht), hx⟩
    | obj n =>
      obtain ⟨a, vs, e, h1, h2⟩ := items_at R r (xs := xs) h
      exact ⟨a, vs, e, .inl h1, h2⟩
    | ro ys =>
      obtain ⟨a, vs, e, h1, h2⟩ := items_at R r (xs := xs) h
      exact ⟨a, vs, e, .inl h1, h2⟩
    | _ => simp [W.seq, D.items] at h
theorem PoW.newL {xs : List D} {vs : List V} {Q : V → Hp → Prop} (R : Rl K α hd H) (hx : RelDs K α H xs vs) (h : PoW K α H (.ok (.l xs) hd) Q) (hp : H p = none) : Q (.ref p) (upd H p (.lst vs)) :=
  h α _ _ (Gr.upd R hp _) (R.upd hp _) ⟨p, vs, rfl, upd_same, R.none_out hp, hx.gr R (Gr.upd R hp _)⟩ fun a e => by
    cases e
    exact hp
theorem PoW.newT {xs : List D} {vs : List V} {Q : V → Hp → Prop} (R : Rl K α hd H) (hx : RelDs K α H xs vs) (h : PoW K α H (.ok (.v (.tup xs)) hd) Q) (hp : H p = none) : Q (.ref p) (upd H p (.tup vs)) :=
  h α _ _ (Gr.upd R hp _) (R.upd hp _) ⟨p, vs, rfl, upd_same, hx.gr R (Gr.upd R hp _)⟩ trivial
theorem PoW.old {d : D} {v : V} {Q : V → Hp → Prop} (R : Rl K α hd H) (r : RelD K α H d v) (h : PoW K α H (.ok (.v d) hd) Q) : Q v H :=
  h α H v (Gr.refl α H) R r trivial
end DL
namespace DL
open PySem PySem.Spec PyProof.Rows L2

variable {K : PySem.W.Frag}
variable {α α' α'' α1 : List Addr} {H H' H'' H1 : Hp} {hd hd' hd1 : Hd} {a p : Addr}
variable {X : Cx}
def rB (K : PySem.W.Frag) (f : W → W → Hd → Option W) : R2 := fun x y H Q => ∃ α hd wx wy, Rl K α hd H ∧ RelW K α H wx x ∧ RelW K α H wy y ∧ PoW K α H (R.ofO (f wx wy hd) hd) Q
theorem mkS_app (s t : List Nat) : mkS s ++ mkS t = mkS (s ++ t) := by
  exact @SX.S_cat s t
theorem add_lists {x y : W} {v u : V} {Q : V → Hp → Prop} (R : Rl K α hd H) (rx : RelW K α H x v) (ry : RelW K α H y u)
    (h : PoW K α H (DL.R.ofO (match x.lst hd, y.lst hd with
      | some s, some t => if s.length + t.length ≤ sizeLine then some (.l (s ++ t)) else none
      | _, _ => none) hd) Q) : rCat v u H Q := by
  split at h
  · rename_i s t hs ht
    split at h
    · rename_i hz
      obtain ⟨a, vs, e1, h1, hx1⟩ := lst_at R rx hs
      obtain ⟨b, ws, e2, h2, hx2⟩ := lst_at R ry ht
      exact ⟨a, b, vs, ws, e1, e2, h1, h2, by rw [hx1.length, hx2.length]; exact hz, fun p hp => h.newL R (hx1.append hx2) hp⟩
    · exact h.elim
  · exact h.elim
theorem op_addW : OpR X (binaryOp .Add) (rB X.K addW) := by
  intro pins s σ H x y v u Q I rx ry h
  obtain ⟨α, hd, wx, wy, R, rwx, rwy, h⟩ := h
  have go : rCat x y H Q → wpAny (model X.prog X.w) X.A (binaryOp .Add v u) (EP X pins σ Q) X.xe s := fun q => op_cat pins s σ H x y v u Q I rx ry q
  cases wx with
  | l xs => exact go (add_lists (y := wy) R rwx rwy (by cases wy with | l ys => exact h | v d => cases d <;> exact h))
  | v dx =>
    cases wy with
    | l ys => exact go (add_lists R rwx rwy (by cases dx <;> exact h))
    | v dy =>
      cases dx with
      | int i =>
        cases dy with
        | int j =>
          cases (show x = V.int i from rwx)
          cases (show y = V.int j from rwy)
          exact op_add pins s σ H _ _ v u Q I rx ry ⟨i, j, rfl, rfl, h.old (d := .int (i + j)) R rfl⟩
        | _ => exact go (add_lists R rwx rwy h)
      | str i =>
        cases dy with
        | str j =>
          cases (show x = V.str (mkS i) from rwx)
          cases (show y = V.str (mkS j) from rwy)
          simp only [addW] at h
          split at h
          · rename_i hz
            refine op_add_str pins s σ H _ _ v u Q I rx ry ⟨_, _, rfl, rfl, by rw [mkS_len, mkS_len]; exact hz, ?_⟩
            rw [mkS_app]
            exact h.old (d := .str (i ++ j)) R rfl
          · exact h.elim
        | _ => exact go (add_lists R rwx rwy h)
      | tup i =>
        cases dy with
        | tup j =>
          obtain ⟨a, vs, rfl, ha, hx⟩ := rwx
          obtain ⟨b, ws, rfl, hb, hy⟩ := rwy
          simp only [addW] at h
          split at h
          · rename_i hz
            refine op_catA pins s σ H _ _ v u Q I rx ry ⟨a, b, vs, ws, rfl, rfl, SqT.of ha, SqT.of hb, by rw [hx.length, hy.length]; exact hz, fun e => ?_, fun e e' => ?_, fun _ _ p hp => h.newT R (hx.append hy) hp⟩
            · have e0 : i = [] := by
                have := hx.length
                rw [e] at this
                exact List.length_eq_zero_iff.mp this.symm
              subst e0
              exact h.old (d := .tup j) R ⟨b, ws, rfl, hb, hy⟩
            · have e0 : j = [] := by
                have := hy.length
                rw [e'] at this
                exact List.length_eq_zero_iff.mp this.symm
              subst e0
              rw [List.append_nil] at h
              exact h.old (d := .tup i) R ⟨a, vs, rfl, ha, hx⟩
          · exact h.elim
        | _ => exact go (add_lists R rwx rwy h)
      | _ => exact go (add_lists R rwx rwy h)
theorem rep_list {x : W} {v : V} {k : Int} {Q : V → Hp → Prop} (R : Rl K α hd H) (rx : RelW K α H x v)
    (h : PoW K α H (DL.R.ofO (match x.lst hd with
      | some xs => if -(2 ^ 63) ≤ k ∧ k < 2 ^ 63 ∧ xs.length * k.toNat ≤ sizeLine then some (.l (List.replicate k.toNat xs).flatten) else none
      | none => none) hd) Q) : rRep v (.int k) H Q := by
  split at h
  · rename_i xs hs
    split at h
    · rename_i hz
      obtain ⟨a, vs, e1, h1, hx1⟩ := lst_at R rx hs
      exact ⟨a, k, vs, e1, rfl, h1, hz.1, hz.2.1, by rw [hx1.length]; exact hz.2.2, fun p hp => h.newL R (hx1.rep _) hp⟩
    · exact h.elim
  · exact h.elim
theorem tup_same (l : Addr) (its : Array Value) (n : Nat) (dd : Option Addr) (sl : Array (Option Value)) (k : Int) (u : Tok) (b0 : (decide (k < -(2 ^ 63)) || decide (k ≥ 2 ^ 63)) = false) (b1 : (its.isEmpty || k == 1) = true) :
    Meets (Builtin.«tuple.__mul__» ⟨[.ref l, .int k u], []⟩) fun _ R s => s.heap.get? l = some { cls := .type "tuple", dict := dd, data := .seq its n, slots := sl } ∧ R (.ok (.ret (.ref l))) s :=
  .of_wp fun prog w A R s h => by
    obtain ⟨hp, g, d, tk, os⟩ := s
    obtain ⟨hl, h⟩ := h
    have f1 := AutoSeq1.idx_int
    wp_walk using AutoSeq1.wpAny_loadPart' hl
    repeat (first
      | (refine wpAny_ite_false (decide_eq_false (by rw [b0]; simp)) ?_; wp_walk using AutoSeq1.wpAny_loadPart' hl)
      | (refine wpAny_ite_true (decide_eq_true b1) ?_; wp_walk using AutoSeq1.wpAny_loadPart' hl))
    exact ⟨_, rfl, h⟩
theorem tup_none (l : Addr) (its : Array Value) (n : Nat) (dd : Option Addr) (sl : Array (Option Value)) (k : Int) (u : Tok) (b0 : (decide (k < -(2 ^ 63)) || decide (k ≥ 2 ^ 63)) = false) (b1 : (its.isEmpty || k == 1) = false) (b2 : (decide (k ≤ 0) || its.isEmpty) = true) :
    Meets (Builtin.«tuple.__mul__» ⟨[.ref l, .int k u], []⟩) fun _ R s => s.heap.get? l = some { cls := .type "tuple", dict := dd, data := .seq its n, slots := sl } ∧
      R (.ok (.ret (Value.ref s.heap.objs.size))) { s with heap := s.heap.push { cls := Value.type "tuple", data := Data.seq #[] }, toks := s.toks } :=
  .of_wp fun prog w A R s h => by
    obtain ⟨hp, g, d, tk, os⟩ := s
    obtain ⟨hl, h⟩ := h
    have f1 := AutoSeq1.idx_int
    wp_walk using AutoSeq1.wpAny_loadPart' hl
    repeat (first
      | (refine wpAny_ite_false (decide_eq_false (by rw [b0]; simp)) ?_; wp_walk using AutoSeq1.wpAny_loadPart' hl)
      | (refine wpAny_ite_false (decide_eq_false (by rw [b1]; simp)) ?_; wp_walk using AutoSeq1.wpAny_loadPart' hl)
      | (refine wpAny_ite_true (decide_eq_true b2) ?_; wp_walk using AutoSeq1.wpAny_loadPart' hl))
    exact ⟨_, rfl, h⟩
theorem mul_tup {xs : List D} {k : Int} {a : Addr} {vs : List V} {pins : List (Addr × Obj)} {s : Shared} {σ : L2.St} {u : Value} {Q : VK} (I : Inv X pins σ H s) (R : Rl X.K α hd H) (ha : H a = some (.tup vs)) (hx : RelDs X.K α H xs vs) (ru : RelV (.int k) u)
    (hz : -(2 ^ 63) ≤ k ∧ k ≤ 1000 ∧ xs.length ≤ 1000) (q : PoW X.K α H (.ok (.v (.tup (List.replicate k.toNat xs).flatten)) hd) Q) : wpAny (model X.prog X.w) X.A (binaryOp .Mult (.ref a) u) (EP X pins σ Q) X.xe s := by
  have hl := hx.length
  by_cases big : vs ≠ [] ∧ 2 ≤ k
  · exact op_repT pins s σ H (.ref a) (.int k) _ u Q I (show L2.RelV (.ref a) (Value.ref a) from rfl) ru ⟨a, k, vs, rfl, rfl, SqT.of ha, big.1, big.2, hz.2.1, by rw [hl]; exact hz.2.2, fun p hp => q.newT R (hx.rep _) hp⟩
  · obtain ⟨t, rfl⟩ := ru
    obtain ⟨its, r, ⟨⟨cls, dd, data, sl⟩, ho, hc, n, hd'⟩, hs⟩ := I.tuple (SqT.of ha)
    simp only at hc hd'
    subst hc hd'
    have hil : its.length = vs.length := r.length.symm
    have b0 : (decide (k < -(2 ^ 63)) || decide (k ≥ 2 ^ 63)) = false := by
      rw [decide_eq_false (by omega), decide_eq_false (by omega)]
      rfl
    have go : ∀ {Rr : Result → Shared → Prop}, codeAny (model X.prog X.w) X.A (.builtin "tuple.__mul__" ⟨[.ref a, .int k t], []⟩) Rr s → True := fun _ => trivial
    have run : wpAny (model X.prog X.w) X.A (call (.builtin "tuple.__mul__") [.ref a, .int k t]) (EP X pins σ Q) X.xe s := by
      rcases Bool.eq_false_or_eq_true (its.toArray.isEmpty || k == 1) with b1 | b1
      · refine call_meets F.slot_tuple_mul ⟨_, ho, rfl⟩ F.entry_tuple_mul (F.args_tuple_mul_2 _ _) (tup_same a its.toArray n dd sl k t b0 b1) ⟨ho, ?_⟩
        have e : (List.replicate k.toNat xs).flatten = xs := by
          rw [Bool.or_eq_true] at b1
          rcases b1 with b1 | b1
          · have : its = [] := by simpa using b1
            rw [this] at hil
            have : xs = [] := List.eq_nil_of_length_eq_zero (by rw [← hl, ← hil]; rfl)
            rw [this]
            simp
          · rw [eq_of_beq b1]
            simp
        rw [e] at q
        exact ⟨.ref a, H, I, rfl, q.old (d := .tup xs) R ⟨a, vs, rfl, ha, hx⟩⟩
      · rw [Bool.or_eq_false_iff] at b1
        have k0 : k ≤ 0 := by
          have n1 : k ≠ 1 := by simpa using b1.2
          have ne : vs ≠ [] := fun z => by
            rw [z] at hil
            have : its = [] := List.eq_nil_of_length_eq_zero hil
            rw [this] at b1
            cases b1.1
          have : ¬ 2 ≤ k := fun z => big ⟨ne, z⟩
          omega
        refine call_meets F.slot_tuple_mul ⟨_, ho, rfl⟩ F.entry_tuple_mul (F.args_tuple_mul_2 _ _) (tup_none a its.toArray n dd sl k t b0 (by rw [b1.1, b1.2]; rfl) (by rw [decide_eq_true k0]; rfl)) ⟨ho, ?_⟩
        have e : (List.replicate k.toNat xs).flatten = [] := by
          rw [Int.toNat_of_nonpos k0]
          rfl
        rw [e] at q
        refine ⟨.ref s.heap.objs.size, _, I.laid (t' := s.toks) (o := .tup []) (fun b ob q => Heap.get?_push_of_some _ q) (Nat.le_refl _) ?_, rfl, q.newT R (show RelDs X.K α H [] [] from rfl) (I.hok.fresh (Nat.le_refl _))⟩
        exact ⟨Nat.zero_le _, [], .nil, IsTup.new _ _⟩
    exact wpAny_binaryOp_repeat_ref (T := "tuple") (U := "int") (by decide) ⟨_, ho, rfl⟩ (fun s' => typeIs_int s' k t) noFill_tuple_mul F.fills_int_mul F.slot_int_rmul repeat_tuple F.slot_int_index.lookup
      (call_meets F.slot_int_rmul (typeIs_int s k t) F.entry_int_rmul (F.args_int_rmul_2 _ _) (int_rmul_tuple k t a its.toArray n dd sl) ⟨ho, rfl, ⟨_, ho, rfl⟩, run⟩)
theorem rep_cps (xs : List Nat) : ∀ (m : Nat) (acc : List Nat), (List.replicate m xs.toArray).foldl (fun a b => a ++ b) acc.toArray = (acc ++ (List.replicate m xs).flatten).toArray
  | 0, acc => by simp
  | m + 1, acc => by
    rw [List.replicate_succ, List.foldl_cons, List.append_toArray, rep_cps xs m (acc ++ xs), List.replicate_succ, List.flatten_cons, List.append_assoc]
theorem mul_strD {xs : List Nat} {k : Int} {pins : List (Addr × Obj)} {s : Shared} {σ : L2.St} {v u : Value} {Q : VK} (I : Inv X pins σ H s) (R : Rl X.K α hd H) (rv : RelV (.str (mkS xs)) v) (ru : RelV (.int k) u)
    (hz : -(2 ^ 63) ≤ k ∧ k ≤ 4096 ∧ xs.length ≤ 4096) (q : PoW X.K α H (.ok (.v (.str (List.replicate k.toNat xs).flatten)) hd) Q) : wpAny (model X.prog X.w) X.A (binaryOp .Mult v u) (EP X pins σ Q) X.xe s := by
  obtain ⟨t, rfl⟩ := rv
  obtain ⟨t', rfl⟩ := ru
  have q := q.old (d := .str (List.replicate k.toNat xs).flatten) R rfl
  have hl : (mkS xs).length = xs.length := mkS_len xs
  have small : (mkS xs).length * k.toNat ≤ 4096 * 4096 := by
    rw [hl]
    exact Nat.mul_le_mul hz.2.2 (by omega)
  refine PySem.P.mul_str (by
    rw [decide_eq_false (by omega), decide_eq_false (by omega)]
    rfl) (fun h1 _ h3 => ?_) (fun h1 _ => ?_) ?_
  · have e1 : (1024 : Int) * 1024 ≤ (2 ^ 63 - 1) / k := by
      apply Int.le_ediv_of_mul_le (by omega)
      have : (1024 : Int) * 1024 * k ≤ 1024 * 1024 * 4096 := Int.mul_le_mul_of_nonneg_left (by omega) (by omega)
      omega
    rw [hl] at h3
    omega
  · unfold Builtin.Str.tooLong
    rw [sizeLine_eq]
    exact decide_eq_false (by omega)
  · by_cases h1 : k < 1
    · rw [if_pos h1]
      have e : (List.replicate k.toNat xs).flatten = [] := by
        rw [Int.toNat_of_nonpos (by omega)]
        rfl
      rw [e] at q
      exact ⟨by decide, .str (mkS []), H, I.tok _, ⟨_, rfl⟩, q⟩
    · rw [if_neg h1]
      by_cases h2 : (k == 1 || (mkS xs).length == 0) = true
      · rw [if_pos h2]
        have e : (List.replicate k.toNat xs).flatten = xs := by
          rw [Bool.or_eq_true] at h2
          rcases h2 with h2 | h2
          · rw [eq_of_beq h2]
            simp
          · rw [hl] at h2
            have : xs = [] := List.eq_nil_of_length_eq_zero (eq_of_beq h2)
            rw [this]
            simp
        rw [e] at q
        exact ⟨.str (mkS xs), H, I, ⟨_, rfl⟩, q⟩
      · rw [if_neg h2]
        have e : (⟨(List.replicate k.toNat (mkS xs).cps).foldl (· ++ ·) #[]⟩ : Str) = mkS (List.replicate k.toNat xs).flatten := by
          exact congrArg Str.mk (rep_cps xs k.toNat [])
        rw [e]
        exact ⟨by rw [mkS_len, List.length_flatten, List.map_replicate, List.sum_replicate_nat, sizeLine_eq]; rw [hl] at small; rw [Nat.mul_comm] at small; omega, .str _, H, I.tok _, ⟨_, rfl⟩, q⟩
theorem op_mulW' : OpR X (binaryOp .Mult) (rB X.K mulW) := by
  intro pins s σ H x y v u Q I rx ry h
  obtain ⟨α, hd, wx, wy, R, rwx, rwy, h⟩ := h
  cases wy with
  | l ys => cases wx with
    | l xs => exact h.elim
    | v d => cases d <;> exact h.elim
  | v dy =>
    cases dy with
    | int k =>
      cases (show y = V.int k from rwy)
      cases wx with
      | l xs => exact op_rep pins s σ H x _ v u Q I rx ry (rep_list R rwx h)
      | v dx =>
        cases dx with
        | int i =>
          cases (show x = V.int i from rwx)
          simp only [mulW] at h
          split at h
          · rename_i hz
            refine op_mul pins s σ H _ _ v u Q I rx ry ⟨i, k, rfl, rfl, ?_, h.old (d := .int (i * k)) R rfl⟩
            simp only [wide, Bool.or_eq_true, Bool.and_eq_true, decide_eq_true_eq] at hz
            exact hz
          · exact h.elim
        | tup xs =>
          obtain ⟨a, vs, rfl, ha, hx⟩ := rwx
          cases rx
          simp only [mulW] at h
          split at h
          · rename_i hz
            exact mul_tup I R ha hx ry hz h
          · exact h.elim
        | str xs =>
          cases (show x = V.str (mkS xs) from rwx)
          simp only [mulW] at h
          split at h
          · rename_i hz
            exact mul_strD I R rx ry hz h
          · exact h.elim
        | _ => exact op_rep pins s σ H x _ v u Q I rx ry (rep_list R rwx h)
    | _ => cases wx with
      | l xs => exact h.elim
      | v d => cases d <;> exact h.elim
theorem op_intW {op : Operator} {f : Value → Value → Sem Value} (rule : ∀ i j k, intOp op i j = some k → ∀ (pins : List (Addr × Obj)) (s : Shared) (σ : L2.St) (H : Hp) (v u : Value) (Q : VK), Inv X pins σ H s → RelV (.int i) v → RelV (.int j) u → Q (.int k) H →
      wpAny (model X.prog X.w) X.A (f v u) (EP X pins σ Q) X.xe s) : OpR X f (rB X.K fun x y _ => match x, y with
    | .v (.int i), .v (.int j) => (intOp op i j).map fun k => .v (.int k)
    | _, _ => none) := by
  intro pins s σ H x y v u Q I rx ry h
  obtain ⟨α, hd, wx, wy, R, rwx, rwy, h⟩ := h
  cases wx with
  | l xs => exact h.elim
  | v dx =>
    cases wy with
    | l ys => cases dx <;> exact h.elim
    | v dy =>
      cases dx with
      | int i =>
        cases dy with
        | int j =>
          cases (show x = V.int i from rwx)
          cases (show y = V.int j from rwy)
          simp only at h
          cases e : intOp op i j with
          | none => rw [e] at h; exact h.elim
          | some k =>
            rw [e] at h
            exact rule i j k e pins s σ H v u Q I rx ry (h.old (d := .int k) R rfl)
        | _ => exact h.elim
      | _ => exact h.elim
theorem pow64 {j : Int} (h : 0 < j) (h2 : j < 2 ^ 64) : CDivW 0 j := wide_div (b := 64) h (by omega) (by decide) (by decide)
theorem op_bin (op : Operator) : OpR X (binaryOp op) (rB X.K (binop op)) := by
  cases op with
  | Add => exact op_addW
  | Mult => exact op_mulW'
  | Sub =>
    refine op_intW (op := .Sub) fun i j k e pins s σ H v u Q I rx ry q => ?_
    cases e
    exact op_sub pins s σ H _ _ v u Q I rx ry ⟨i, j, rfl, rfl, q⟩
  | FloorDiv =>
    refine op_intW (op := .FloorDiv) fun i j k e pins s σ H v u Q I rx ry q => ?_
    simp only [intOp] at e
    split at e
    · rename_i hz
      cases e
      exact op_fdivW pins s σ H _ _ v u Q I rx ry ⟨i, j, rfl, rfl, pow64 hz.1 hz.2, q⟩
    · cases e
  | Mod =>
    refine op_intW (op := .Mod) fun i j k e pins s σ H v u Q I rx ry q => ?_
    simp only [intOp] at e
    split at e
    · rename_i hz
      cases e
      exact op_mod pins s σ H _ _ v u Q I rx ry ⟨i, j, rfl, rfl, hz, q⟩
    · cases e
  | Pow =>
    refine op_intW (op := .Pow) fun i j k e pins s σ H v u Q I rx ry q => ?_
    simp only [intOp] at e
    split at e
    · rename_i hz
      cases e
      exact op_pow pins s σ H _ _ v u Q I rx ry ⟨i, j, rfl, rfl, hz, q⟩
    · cases e
  | RShift =>
    refine op_intW (op := .RShift) fun i j k e pins s σ H v u Q I rx ry q => ?_
    simp only [intOp] at e
    split at e
    · rename_i hz
      cases e
      exact op_shr pins s σ H _ _ v u Q I rx ry ⟨i, j, rfl, rfl, hz, q⟩
    · cases e
  | LShift =>
    refine op_intW (op := .LShift) fun i j k e pins s σ H v u Q I rx ry q => ?_
    simp only [intOp] at e
    split at e
    · rename_i hz
      cases e
      exact op_shl pins s σ H _ _ v u Q I rx ry ⟨i, j, rfl, rfl, hz, q⟩
    · cases e
  | BitXor =>
    refine op_intW (op := .BitXor) fun i j k e pins s σ H v u Q I rx ry q => ?_
    cases e
    exact op_xor pins s σ H _ _ v u Q I rx ry ⟨i, j, rfl, rfl, q⟩
  | BitAnd =>
    refine op_intW (op := .BitAnd) fun i j k e pins s σ H v u Q I rx ry q => ?_
    cases e
    exact op_and pins s σ H _ _ v u Q I rx ry ⟨i, j, rfl, rfl, q⟩
  | BitOr =>
    refine op_intW (op := .BitOr) fun i j k e pins s σ H v u Q I rx ry q => ?_
    cases e
    exact op_or pins s σ H _ _ v u Q I rx ry ⟨i, j, rfl, rfl, q⟩
  | MatMult => exact op_intW (op := .MatMult) fun i j k e => nomatch e
  | Div => exact op_intW (op := .Div) fun i j k e => nomatch e
def rU1 (K : PySem.W.Frag) (f : W → Option W) : V → Hp → VK → Prop := fun x H Q => ∃ α hd wx, Rl K α hd H ∧ RelW K α H wx x ∧ PoW K α H (R.ofO (f wx) hd) Q
theorem un_neg' : UnR X (unaryOp .USub) (rU1 X.K (unop .USub)) := by
  intro pins s σ H x v Q I rx h
  obtain ⟨α, hd, wx, R, rwx, h⟩ := h
  cases wx with
  | l xs => exact h.elim
  | v dx =>
    cases dx with
    | int i =>
      cases (show x = V.int i from rwx)
      exact un_neg pins s σ H _ v Q I rx ⟨i, rfl, h.old (d := .int (-i)) R rfl⟩
    | _ => exact h.elim
end DL
namespace DL
open PySem PySem.Spec PyProof.Rows L2

variable {K : PySem.W.Frag}
variable {α α' α'' α1 : List Addr} {H H' H'' H1 : Hp} {hd hd' hd1 : Hd} {a p : Addr}
variable {X : Cx}
theorem key_at {d : D} {k : DK} {v : V} (h : d.key? = some k) (r : RelD K α H d v) : v = kV k.key := by
  cases d with
  | int i => cases h; exact r
  | str i => cases h; exact r
  | _ => cases h
theorem keys_at : ∀ {ds : List D} {ks : List DK} {vs : List V}, D.keys? ds = some ks → RelDs K α H ds vs → vs = (ks.map DK.key).map kV
  | [], ks, vs, h, r => by
    cases h
    exact r
  | d :: ds, ks, vs, h, r => by
    obtain ⟨v, vr, rfl, h1, h2⟩ := r
    simp only [D.keys?] at h
    split at h
    · rename_i k ks' e1 e2
      cases h
      rw [key_at e1 h1, keys_at e2 h2]
      rfl
    · cases h
def RelOpt (K : PySem.W.Frag) (α : List Addr) (H : Hp) (d : Option D) (v : Option V) : Prop :=
  match d with
  | none => v = none
  | some d => ∃ x, v = some x ∧ RelD K α H d x
theorem val_at : ∀ {kvs : List (DK × D)} {l : List (Key × V)} (k : DK), RelKK K α H kvs l → RelOpt K α H (valK kvs k) (valV l k.key)
  | [], l, k, r => by
    have e : l = [] := r
    subst e
    rfl
  | (k', d) :: kvs, l, k, r => by
    obtain ⟨v, lr, rfl, h1, h2⟩ := r
    by_cases e : k' = k
    · subst e
      rw [valV_pos rfl, show valK ((k', d) :: kvs) k' = some d by simp [valK]]
      exact ⟨v, rfl, h1⟩
    · rw [valV_neg (fun z => e (DK.key_inj z)), show valK ((k', d) :: kvs) k = valK kvs k by simp [valK, List.find?_cons, e]]
      exact val_at k h2
theorem keyL_inj {a b : List DK} (h : a.map DK.key = b.map DK.key) : a = b :=
  (List.map_inj_right (fun _ _ e => DK.key_inj e)).mp h
theorem valT_at : ∀ {kvs : List (List DK × D)} {l : List (List Key × V)} (k : List DK), RelKT K α H kvs l → RelOpt K α H (valK kvs k) (valV l (k.map DK.key))
  | [], l, k, r => by
    have e : l = [] := r
    subst e
    rfl
  | (k', d) :: kvs, l, k, r => by
    obtain ⟨v, lr, rfl, h1, h2⟩ := r
    by_cases e : k' = k
    · subst e
      rw [valV_pos rfl, show valK ((k', d) :: kvs) k' = some d by simp [valK]]
      exact ⟨v, rfl, h1⟩
    · rw [valV_neg (fun z => e (keyL_inj z)), show valK ((k', d) :: kvs) k = valK kvs k by simp [valK, List.find?_cons, e]]
      exact valT_at k h2
theorem look_at {o : O} {d : D} {r : Option D} {v : V} (h : o.look d = some r) (ro : RelO K α H a o) (rd : RelD K α H d v) : ∃ u, DGet H a v u ∧ RelOpt K α H r u := by
  cases o with
  | lst xs => cases h
  | dK kvs =>
    obtain ⟨l, e, rk⟩ := ro
    simp only [O.look] at h
    cases ek : d.key? with
    | none => rw [ek] at h; cases h
    | some k =>
      rw [ek] at h
      cases h
      rw [key_at ek rd]
      exact ⟨_, .inl ⟨l, k.key, .inl e, rfl, rfl⟩, val_at k rk⟩
  | lkK kvs =>
    obtain ⟨_, l, e, rk⟩ := ro
    simp only [O.look] at h
    cases ek : d.key? with
    | none => rw [ek] at h; cases h
    | some k =>
      rw [ek] at h
      cases h
      rw [key_at ek rd]
      exact ⟨_, .inl ⟨l, k.key, .inr ⟨_, e⟩, rfl, rfl⟩, val_at k rk⟩
  | dT kvs =>
    obtain ⟨l, e, rk⟩ := ro
    simp only [O.look] at h
    cases d with
    | tup ds =>
      cases ek : D.keys? ds with
      | none => simp [ek] at h
      | some k =>
        simp only [ek, Option.map_some, Option.some.injEq] at h
        subst h
        obtain ⟨b, vs, rfl, hb, hx⟩ := rd
        rw [keys_at ek hx] at hb
        exact ⟨_, .inr ⟨l, k.map DK.key, b, .inl e, rfl, hb, rfl⟩, valT_at k rk⟩
    | _ => cases h
  | lkT kvs =>
    obtain ⟨_, l, e, rk⟩ := ro
    simp only [O.look] at h
    cases d with
    | tup ds =>
      cases ek : D.keys? ds with
      | none => simp [ek] at h
      | some k =>
        simp only [ek, Option.map_some, Option.some.injEq] at h
        subst h
        obtain ⟨b, vs, rfl, hb, hx⟩ := rd
        rw [keys_at ek hx] at hb
        exact ⟨_, .inr ⟨l, k.map DK.key, b, .inr ⟨_, e⟩, rfl, hb, rfl⟩, valT_at k rk⟩
    | _ => cases h
theorem RelOpt.some_iff {d : Option D} {v : Option V} (h : RelOpt K α H d v) : v.isSome = d.isSome := by
  cases d with
  | none =>
    have e : v = none := h
    rw [e]; rfl
  | some d =>
    obtain ⟨x, rfl, _⟩ := h
    rfl
theorem fl_at {d : D} {x v : V} (h : d.fl = some x) (r : RelD K α H d v) : v = x := by
  cases d with
  | non => cases h; exact r
  | bl b => cases h; exact r
  | int i => cases h; exact r
  | str i => cases h; exact r
  | _ => cases h
theorem fl_flat {d : D} {x : V} (h : d.fl = some x) : flatV x = true := by
  cases d with
  | non => cases h; rfl
  | bl b => cases h; rfl
  | int i => cases h; rfl
  | str i => cases h; rfl
  | _ => cases h
theorem memF_at {x : V} : ∀ {ds : List D} {vs : List V} {b : Bool}, memF x ds = some b → RelDs K α H ds vs → vs.all flatV = true ∧ inV x vs = b
  | [], vs, b, h, r => by
    have e : vs = [] := r
    subst e
    cases h
    exact ⟨rfl, rfl⟩
  | d :: ds, vs, b, h, r => by
    obtain ⟨v, vr, rfl, h1, h2⟩ := r
    simp only [memF] at h
    split at h
    · rename_i y b' e1 e2
      cases h
      obtain ⟨q1, q2⟩ := memF_at e2 h2
      rw [fl_at e1 h1]
      refine ⟨by rw [List.all_cons, fl_flat e1, q1]; rfl, ?_⟩
      show (eqV y x || inV x vr) = (eqV y x || b')
      rw [q2]
    · cases h
mutual
theorem py_at : ∀ {d : D} {v : V} {q : PyData}, d.py = some q → RelD K α H d v → Dp K H v q
  | .non, v, q, h, r => by cases h; cases (show v = V.non from r); exact .non
  | .bl b, v, q, h, r => by cases h; cases (show v = V.bl b from r); exact .bl b
  | .int i, v, q, h, r => by cases h; cases (show v = V.int i from r); exact .int i
  | .str i, v, q, h, r => by cases h; cases (show v = V.str (mkS i) from r); exact .str _
  | .obj n, v, q, h, r => by cases h
  | .tup xs, v, q, h, r => by
    obtain ⟨a, vs, rfl, ha, hx⟩ := r
    simp only [D.py] at h
    cases e : D.pys xs with
    | none => rw [e] at h; cases h
    | some ps =>
      rw [e] at h
      cases h
      exact .tup (SqT.of ha) (pys_at e hx)
  | .ro xs, v, q, h, r => by
    obtain ⟨a, vs, rfl, ha, hx⟩ := r
    simp only [D.py] at h
    cases e : D.pys xs with
    | none => rw [e] at h; cases h
    | some ps =>
      rw [e] at h
      cases h
      exact .lst ha.sq (pys_at e hx)
theorem pys_at : ∀ {ds : List D} {vs : List V} {qs : List PyData}, D.pys ds = some qs → RelDs K α H ds vs → DpAll K H vs qs
  | [], vs, qs, h, r => by
    have e : vs = [] := r
    subst e
    cases h
    exact .nil
  | d :: ds, vs, qs, h, r => by
    obtain ⟨v, vr, rfl, h1, h2⟩ := r
    simp only [D.pys] at h
    split at h
    · rename_i p ps e1 e2
      cases h
      exact .cons (py_at e1 h1) (pys_at e2 h2)
    · cases h
end
theorem wpy_at {w : W} {v : V} {q : PyData} (R : Rl K α hd H) (h : w.py hd = some q) (r : RelW K α H w v) : Dp K H v q := by
  have lists : ∀ {xs : List D} {a : Addr} {vs : List V}, (D.pys xs).map PyData.list = some q → H a = some (.lst vs) → RelDs K α H xs vs → Dp K H (.ref a) q := by
    intro xs a vs h ha hx
    cases e : D.pys xs with
    | none => rw [e] at h; cases h
    | some ps =>
      rw [e] at h
      cases h
      exact .lst (SqL.of ha) (pys_at e hx)
  cases w with
  | l xs =>
    obtain ⟨a, vs, rfl, ha, hn, hx⟩ := r
    exact lists h ha hx
  | v d =>
    cases d with
    | obj n =>
      obtain ⟨a, e, rfl⟩ := r
      simp only [W.py] at h
      split at h
      · rename_i xs ho
        obtain ⟨vs, e2, hx⟩ := R.ob n _ a ho e
        exact lists h e2 hx
      · cases h
    | _ => exact py_at (α := α) h r

abbrev Deep (X : Cx) : Prop := X.A.units + 200 < cLine
theorem canEq {da db : PyData} {A : Around} (h : A.units + 200 < cLine) (d : da.depth ≤ 128) : A.units + min da.depth db.depth < cLine := by
  have : min da.depth db.depth ≤ da.depth := Nat.min_le_left _ _
  omega
theorem eqW_cases {wx wy : W} {x y : V} {b : Bool} (R : Rl K α hd H) (rx : RelW K α H wx x) (ry : RelW K α H wy y) (h : eqW wx wy hd = some b) :
    (scal x y = true ∧ decide (x = y) = b) ∨ ∃ q r, Dp K H x q ∧ Dp K H y r ∧ q.canLay0 = true ∧ r.canLay0 = true ∧ q.depth ≤ 128 ∧ PyData.eqv q r = b := by
  have data : ∀ {wx wy : W}, RelW K α H wx x → RelW K α H wy y → (match wx.py hd, wy.py hd with
    | some p, some q => if p.canLay0 = true ∧ q.canLay0 = true ∧ p.depth ≤ 128 then some (PyData.eqv p q) else none
    | _, _ => none) = some b → ∃ q r, Dp K H x q ∧ Dp K H y r ∧ q.canLay0 = true ∧ r.canLay0 = true ∧ q.depth ≤ 128 ∧ PyData.eqv q r = b := by
    intro wx wy rx ry h
    split at h
    · rename_i q r e1 e2
      split at h
      · rename_i c
        cases h
        exact ⟨q, r, wpy_at R e1 rx, wpy_at R e2 ry, c.1, c.2.1, c.2.2, rfl⟩
      · cases h
    · cases h
  cases wx with
  | l xs => exact .inr (data rx ry (by cases wy with | l ys => exact h | v d => cases d <;> exact h))
  | v dx =>
    cases wy with
    | l ys => exact .inr (data rx ry (by cases dx <;> exact h))
    | v dy =>
      cases dx with
      | int i =>
        cases dy with
        | int j =>
          cases (show x = V.int i from rx)
          cases (show y = V.int j from ry)
          cases h
          exact .inl ⟨rfl, by simp⟩
        | _ => exact .inr (data rx ry h)
      | str i =>
        cases dy with
        | str j =>
          cases (show x = V.str (mkS i) from rx)
          cases (show y = V.str (mkS j) from ry)
          cases h
          exact .inl ⟨rfl, by simp⟩
        | _ => exact .inr (data rx ry h)
      | bl i =>
        cases dy with
        | bl j =>
          cases (show x = V.bl i from rx)
          cases (show y = V.bl j from ry)
          cases h
          exact .inl ⟨rfl, by simp⟩
        | _ => exact .inr (data rx ry h)
      | _ => exact .inr (data rx ry h)
def rC (K : PySem.W.Frag) (op : CmpOp) : R2 := fun x y H Q => ∃ α hd wx wy, Rl K α hd H ∧ RelW K α H wx x ∧ RelW K α H wy y ∧ PoB K α H (R.ofO (cmpW op wx wy hd) hd) fun b H' => Q (.bl b) H'
theorem PoB.old {b : Bool} {Q : Bool → Hp → Prop} (R : Rl K α hd H) (h : PoB K α H (.ok b hd) Q) : Q b H := h α H (Gr.refl α H) R
theorem ofO_B {o : Option Bool} {Q : Bool → Hp → Prop} (R : Rl K α hd H) (h : PoB K α H (DL.R.ofO o hd) Q) : ∃ b, o = some b ∧ Q b H := by
  cases o with
  | none => exact h.elim
  | some b => exact ⟨b, rfl, h.old R⟩
theorem op_eqW (hu : Deep X) : OpR X (compareOp .Eq) (rC X.K .Eq) := by
  intro pins s σ H x y v u Q I rx ry h
  obtain ⟨α, hd, wx, wy, R, rwx, rwy, h⟩ := h
  obtain ⟨b, e, q⟩ := ofO_B R h
  rcases eqW_cases R rwx rwy e with ⟨h1, h2⟩ | ⟨d, r, h1, h2, h3, h4, h5, h6⟩
  · exact op_eq pins s σ H x y v u Q I rx ry ⟨h1, by rw [h2]; exact q⟩
  · obtain ⟨as, ra⟩ := Dp.reads I d x v h1 rx
    obtain ⟨bs, rb⟩ := Dp.reads I r y u h2 ry
    exact SeqAt.compareEq_reads ra rb h3 h4 (canEq hu h5) ⟨.bl _, H, I, rfl, by rw [h6]; exact q⟩
theorem op_neW (hu : Deep X) : OpR X (compareOp .NotEq) (rC X.K .NotEq) := by
  intro pins s σ H x y v u Q I rx ry h
  obtain ⟨α, hd, wx, wy, R, rwx, rwy, h⟩ := h
  obtain ⟨b, e, q⟩ := ofO_B R h
  simp only [cmpW, Option.map_eq_some_iff] at e
  obtain ⟨b', e, rfl⟩ := e
  rcases eqW_cases R rwx rwy e with ⟨h1, h2⟩ | ⟨d, r, h1, h2, h3, h4, h5, h6⟩
  · exact op_ne pins s σ H x y v u Q I rx ry ⟨h1, by rw [h2]; exact q⟩
  · obtain ⟨as, ra⟩ := Dp.reads I d x v h1 rx
    obtain ⟨bs, rb⟩ := Dp.reads I r y u h2 ry
    exact SeqAt.compareNe_reads ra rb h3 h4 (canEq hu h5) ⟨.bl _, H, I, rfl, by rw [h6]; exact q⟩
theorem ord_cases {wx wy : W} {x y : V} {b : Bool} {f : Int → Int → Bool} {g : List Nat → List Nat → Bool} (rx : RelW K α H wx x) (ry : RelW K α H wy y)
    (h : ordW f g wx wy = some b) : (∃ i j, x = .int i ∧ y = .int j ∧ f i j = b) ∨ ∃ s t, x = .str (mkS s) ∧ y = .str (mkS t) ∧ g s t = b := by
  cases wx with
  | l xs => cases h
  | v dx =>
    cases wy with
    | l ys => cases dx <;> cases h
    | v dy =>
      cases dx with
      | int i =>
        cases dy with
        | int j => cases h; exact .inl ⟨i, j, rx, ry, rfl⟩
        | _ => cases h
      | str i =>
        cases dy with
        | str j => cases h; exact .inr ⟨i, j, rx, ry, rfl⟩
        | _ => cases h
      | _ => cases h
theorem op_ltW : OpR X (compareOp .Lt) (rC X.K .Lt) := by
  intro pins s σ H x y v u Q I rx ry h
  obtain ⟨α, hd, wx, wy, R, rwx, rwy, h⟩ := h
  obtain ⟨b, e, q⟩ := ofO_B R h
  rcases ord_cases (f := fun i j => decide (i < j)) (g := fun s t => decide (s < t)) rwx rwy e with ⟨i, j, rfl, rfl, rfl⟩ | ⟨i, j, rfl, rfl, rfl⟩
  · exact op_lt pins s σ H _ _ v u Q I rx ry ⟨i, j, rfl, rfl, q⟩
  · exact op_lt_str pins s σ H _ _ v u Q I rx ry ⟨_, _, rfl, rfl, q⟩
theorem op_leW : OpR X (compareOp .LtE) (rC X.K .LtE) := by
  intro pins s σ H x y v u Q I rx ry h
  obtain ⟨α, hd, wx, wy, R, rwx, rwy, h⟩ := h
  obtain ⟨b, e, q⟩ := ofO_B R h
  rcases ord_cases (f := fun i j => decide (i ≤ j)) (g := fun s t => !decide (t < s)) rwx rwy e with ⟨i, j, rfl, rfl, rfl⟩ | ⟨i, j, rfl, rfl, rfl⟩
  · exact op_le pins s σ H _ _ v u Q I rx ry ⟨i, j, rfl, rfl, q⟩
  · exact op_le_str pins s σ H _ _ v u Q I rx ry ⟨_, _, rfl, rfl, q⟩
theorem op_gtW : OpR X (compareOp .Gt) (rC X.K .Gt) := by
  intro pins s σ H x y v u Q I rx ry h
  obtain ⟨α, hd, wx, wy, R, rwx, rwy, h⟩ := h
  obtain ⟨b, e, q⟩ := ofO_B R h
  rcases ord_cases (f := fun i j => decide (j < i)) (g := fun s t => decide (t < s)) rwx rwy e with ⟨i, j, rfl, rfl, rfl⟩ | ⟨i, j, rfl, rfl, rfl⟩
  · exact op_gt pins s σ H _ _ v u Q I rx ry ⟨i, j, rfl, rfl, q⟩
  · exact op_gt_str pins s σ H _ _ v u Q I rx ry ⟨_, _, rfl, rfl, q⟩
theorem op_geW : OpR X (compareOp .GtE) (rC X.K .GtE) := by
  intro pins s σ H x y v u Q I rx ry h
  obtain ⟨α, hd, wx, wy, R, rwx, rwy, h⟩ := h
  obtain ⟨b, e, q⟩ := ofO_B R h
  rcases ord_cases (f := fun i j => decide (j ≤ i)) (g := fun s t => !decide (s < t)) rwx rwy e with ⟨i, j, rfl, rfl, rfl⟩ | ⟨i, j, rfl, rfl, rfl⟩
  · exact op_ge pins s σ H _ _ v u Q I rx ry ⟨i, j, rfl, rfl, q⟩
  · exact op_ge_str pins s σ H _ _ v u Q I rx ry ⟨_, _, rfl, rfl, q⟩
theorem non_at {d : D} {v : V} (r : RelD K α H d v) : decide (v = .non) = d.isN := by
  cases d with
  | non => rw [show v = V.non from r]; rfl
  | bl b => rw [show v = V.bl b from r]; rfl
  | int b => rw [show v = V.int b from r]; rfl
  | str b => rw [show v = V.str (mkS b) from r]; rfl
  | tup xs => obtain ⟨a, vs, rfl, _⟩ := r; rfl
  | ro xs => obtain ⟨a, vs, rfl, _⟩ := r; rfl
  | xt xs => obtain ⟨a, vs, rfl, _⟩ := r; rfl
  | obj xs => obtain ⟨a, _, rfl⟩ := r; rfl
theorem is_cases {wx wy : W} {x y : V} {b : Bool} (R : Rl K α hd H) (rx : RelW K α H wx x) (ry : RelW K α H wy y) (h : cmpW .Is wx wy hd = some b) :
    (y = .non ∧ decide (x = .non) = b) ∨ ∃ c e : Bool, x = .bl c ∧ y = .bl e ∧ decide (c = e) = b := by
  cases wx with
  | l xs =>
    obtain ⟨a, vs, rfl, _⟩ := rx
    cases wy with
    | l ys => cases h
    | v dy => cases dy with
      | non => cases h; exact .inl ⟨ry, rfl⟩
      | _ => cases h
  | v dx =>
    cases wy with
    | l ys => cases dx <;> cases h
    | v dy =>
      cases dy with
      | non =>
        have e : some dx.isN = some b := by cases dx <;> exact h
        cases e
        exact .inl ⟨ry, non_at rx⟩
      | bl j =>
        cases dx with
        | bl i => cases h; exact .inr ⟨i, j, rx, ry, rfl⟩
        | _ => cases h
      | _ => cases dx <;> cases h
theorem op_isW : OpR X (compareOp .Is) (rC X.K .Is) := by
  intro pins s σ H x y v u Q I rx ry h
  obtain ⟨α, hd, wx, wy, R, rwx, rwy, h⟩ := h
  obtain ⟨b, e, q⟩ := ofO_B R h
  rcases is_cases R rwx rwy e with ⟨rfl, rfl⟩ | ⟨i, j, rfl, rfl, rfl⟩
  · exact op_isN pins s σ H _ _ v u Q I rx ry ⟨rfl, q⟩
  · exact op_isBl pins s σ H _ _ v u Q I rx ry ⟨_, _, rfl, rfl, q⟩
theorem isnot_of {wx wy : W} {b : Bool} (h : cmpW .IsNot wx wy hd = some b) : cmpW .Is wx wy hd = some (!b) := by
  cases wx with
  | l xs =>
    cases wy with
    | l ys => cases h
    | v dy => cases dy <;> cases h <;> rfl
  | v dx =>
    cases wy with
    | l ys => cases dx <;> cases h
    | v dy => cases dx <;> cases dy <;> cases h <;> first | rfl | (simp [cmpW, D.isN])
theorem op_isnotW : OpR X (compareOp .IsNot) (rC X.K .IsNot) := by
  intro pins s σ H x y v u Q I rx ry h
  obtain ⟨α, hd, wx, wy, R, rwx, rwy, h⟩ := h
  obtain ⟨b, e, q⟩ := ofO_B R h
  have nb : ∀ {c : Bool}, c = !b → b = !c := fun {c} e => by rw [e, Bool.not_not]
  rcases is_cases R rwx rwy (isnot_of e) with ⟨rfl, e2⟩ | ⟨i, j, rfl, rfl, e2⟩
  · exact op_notN pins s σ H _ _ v u Q I rx ry ⟨rfl, by rw [← nb e2]; exact q⟩
  · exact op_notBl pins s σ H _ _ v u Q I rx ry ⟨_, _, rfl, rfl, by rw [← nb e2]; exact q⟩
theorem in_cases {wx wy : W} {x y : V} {b : Bool} (R : Rl K α hd H) (rx : RelW K α H wx x) (ry : RelW K α H wy y) (h : inW wx wy hd = some b) :
    (∃ c t, x = .str (mkS [c]) ∧ y = .str (mkS t) ∧ decide (c ∈ t) = b) ∨ (∃ s t, x = .str (mkS s) ∧ y = .str (mkS t) ∧ (!(Builtin.Str.occurrences (mkS t) (mkS s) 0 (mkS t).length 1).isEmpty) = b) ∨
    (∃ a vs, y = .ref a ∧ (SqL K H a vs ∨ SqT K H a vs) ∧ flatV x = true ∧ vs.all flatV = true ∧ inV x vs = b) ∨ ∃ a u, y = .ref a ∧ DGet H a x u ∧ u.isSome = b := by
  cases wx with
  | l xs => cases h
  | v d =>
    have flat : ∀ {wy : W}, RelW K α H wy y → (match d.fl, wy.seq hd with
      | some x, some xs => memF x xs
      | _, _ => none) = some b → ∃ a vs, y = .ref a ∧ (SqL K H a vs ∨ SqT K H a vs) ∧ flatV x = true ∧ vs.all flatV = true ∧ inV x vs = b := by
      intro wy ry h
      split at h
      · rename_i x' xs e1 e2
        obtain ⟨a, vs, e, hq, hx⟩ := seq_at R ry e2
        obtain ⟨q1, q2⟩ := memF_at h hx
        rw [fl_at e1 rx]
        exact ⟨a, vs, e, hq, fl_flat e1, q1, q2⟩
      · cases h
    have objs : ∀ {n : Nat}, RelW K α H (.v (.obj n)) y → (match hd[n]? with
      | some (.lst xs) => match d.fl with
        | some x => memF x xs
        | none => none
      | some o => (o.look d).map (·.isSome)
      | none => none) = some b → (∃ a vs, y = .ref a ∧ (SqL K H a vs ∨ SqT K H a vs) ∧ flatV x = true ∧ vs.all flatV = true ∧ inV x vs = b) ∨ ∃ a u, y = .ref a ∧ DGet H a x u ∧ u.isSome = b := by
      intro n ry h
      obtain ⟨a, e, rfl⟩ := ry
      split at h
      · rename_i xs ho
        obtain ⟨vs, e2, hx⟩ := R.ob n _ a ho e
        split at h
        · rename_i x' e1
          obtain ⟨q1, q2⟩ := memF_at h hx
          rw [fl_at e1 rx]
          exact .inl ⟨a, vs, rfl, .inl (SqL.of e2), fl_flat e1, q1, q2⟩
        · cases h
      · rename_i o nl ho
        simp only [Option.map_eq_some_iff] at h
        obtain ⟨r, e1, rfl⟩ := h
        obtain ⟨u, g, ru⟩ := look_at e1 (R.ob n _ a ho e) rx
        exact .inr ⟨a, u, rfl, g, ru.some_iff⟩
      · cases h
    cases wy with
    | l ys => exact .inr (.inr (.inl (flat (wy := .l ys) ry (by cases d <;> exact h))))
    | v dy =>
      cases dy with
      | str t =>
        cases d with
        | str s =>
          have e1 : x = V.str (mkS s) := rx
          have e2 : y = V.str (mkS t) := ry
          simp only [inW] at h
          split at h
          · rename_i c
            cases h
            exact .inl ⟨c, t, e1, e2, rfl⟩
          · cases h
            refine .inr (.inl ⟨s, t, e1, e2, ?_⟩)
            rw [mkS_len]
        | _ => exact .inr (.inr (.inl (flat (wy := .v (.str t)) ry h)))
      | obj n => exact .inr (.inr (objs ry (by cases d <;> exact h)))
      | _ => exact .inr (.inr (.inl (flat (wy := .v _) ry (by cases d <;> exact h))))
theorem deep1 (hu : Deep X) : X.A.units + 1 < cLine := Nat.lt_of_le_of_lt (Nat.add_le_add_left (by decide) _) hu
theorem pyo_at {d : D} {v : V} {q : PyData} (R : Rl K α hd H) (h : d.pyo hd = some q) (r : RelD K α H d v) : Dp K H v q := by
  cases d with
  | obj n =>
    obtain ⟨a, e, rfl⟩ := r
    simp only [D.pyo] at h
    split at h
    · rename_i xs ho
      obtain ⟨vs, e2, hx⟩ := R.ob n _ a ho e
      cases ep : D.pys xs with
      | none => rw [ep] at h; cases h
      | some ps =>
        rw [ep] at h
        cases h
        exact .lst (SqL.of e2) (pys_at ep hx)
    · cases h
  | _ => exact py_at (by simpa [D.pyo] using h) r
theorem pyos_at : ∀ {ds : List D} {vs : List V} {qs : List PyData}, Rl K α hd H → D.pyos hd ds = some qs → RelDs K α H ds vs → DpAll K H vs qs
  | [], vs, qs, R, h, r => by
    rw [show vs = [] from r]
    cases h
    exact .nil
  | d :: ds, vs, qs, R, h, r => by
    obtain ⟨v, vr, rfl, h1, h2⟩ := r
    simp only [D.pyos] at h
    split at h
    · rename_i p ps e1 e2
      cases h
      exact .cons (pyo_at R e1 h1) (pyos_at R e2 h2)
    · cases h
theorem inD_at {wx wy : W} {x y : V} {b : Bool} (R : Rl K α hd H) (rx : RelW K α H wx x) (ry : RelW K α H wy y) (h : inD wx wy hd = some b) :
    ∃ d ds, Dp K H x d ∧ Dp K H y (.list ds) ∧ SeqAt.shaped d = true ∧ SeqAt.shaped (.list ds) = true ∧ (ds.any fun z => PyData.eqv z d) = b := by
  cases wx with
  | l xs => cases h
  | v d =>
    simp only [inD] at h
    split at h
    · rename_i p ys e1 e2
      split at h
      · rename_i ps e3
        split at h
        · rename_i hs
          cases h
          obtain ⟨a, vs, rfl, hq, hx⟩ := items_at R ry e2
          exact ⟨p, ps, pyo_at R e1 rx, .lst hq (pyos_at R e3 hx), hs.1, hs.2, rfl⟩
        · cases h
      · cases h
    · cases h
theorem op_inW (hu : Deep X) : OpR X (compareOp .In) (rC X.K .In) := by
  intro pins s σ H x y v u Q I rx ry h
  obtain ⟨α, hd, wx, wy, R, rwx, rwy, h⟩ := h
  obtain ⟨b, e, q⟩ := ofO_B R h
  have e : inA wx wy hd = some b := e
  unfold inA at e
  split at e
  · rename_i b2 e1
    cases e
    rcases in_cases R rwx rwy e1 with ⟨c, t, rfl, rfl, rfl⟩ | ⟨c, t, rfl, rfl, rfl⟩ | ⟨a, vs, rfl, h1, h2, h3, rfl⟩ | ⟨a, o, rfl, g, rfl⟩
    · exact op_in_sign pins s σ H _ _ v u Q I rx ry ⟨c, mkS t, rfl, rfl, q⟩
    · exact op_in_str pins s σ H _ _ v u Q I rx ry ⟨_, _, rfl, rfl, q⟩
    · exact op_in_seq pins s σ H _ _ v u Q I rx ry ⟨a, vs, rfl, h1, h2, h3, q⟩
    · cases ry
      exact d_in (deep1 hu) I g rx fun s' I' => ⟨.bl _, H, I', rfl, q⟩
  · obtain ⟨d, ds, h1, h2, h3, h4, rfl⟩ := inD_at R rwx rwy e
    have hu : X.A.units + 200 < cLine := hu
    exact op_inD (by omega) pins s σ H x y v u Q I rx ry ⟨d, ds, h1, h2, h3, h4, q⟩
theorem op_notinW (hu : Deep X) : OpR X (compareOp .NotIn) (rC X.K .NotIn) := by
  intro pins s σ H x y v u Q I rx ry h
  obtain ⟨α, hd, wx, wy, R, rwx, rwy, h⟩ := h
  obtain ⟨b, e, q⟩ := ofO_B R h
  simp only [cmpW, Option.map_eq_some_iff] at e
  obtain ⟨b', e, rfl⟩ := e
  unfold inA at e
  split at e
  · rename_i b2 e1
    cases e
    rcases in_cases R rwx rwy e1 with ⟨c, t, rfl, rfl, rfl⟩ | ⟨c, t, rfl, rfl, rfl⟩ | ⟨a, vs, rfl, h1, h2, h3, rfl⟩ | ⟨a, o, rfl, g, rfl⟩
    · exact op_notIn_sign pins s σ H _ _ v u Q I rx ry ⟨c, mkS t, rfl, rfl, q⟩
    · exact op_notIn_str pins s σ H _ _ v u Q I rx ry ⟨_, _, rfl, rfl, q⟩
    · exact op_notIn_seq pins s σ H _ _ v u Q I rx ry ⟨a, vs, rfl, h1, h2, h3, q⟩
    · cases ry
      exact d_notIn (deep1 hu) I g rx fun s' I' => ⟨.bl _, H, I', rfl, q⟩
  · obtain ⟨d, ds, h1, h2, h3, h4, rfl⟩ := inD_at R rwx rwy e
    have hu : X.A.units + 200 < cLine := hu
    exact op_notInD (by omega) pins s σ H x y v u Q I rx ry ⟨d, ds, h1, h2, h3, h4, q⟩
theorem op_cmpW (hu : Deep X) (op : CmpOp) : OpR X (compareOp op) (rC X.K op) := by
  cases op with
  | Eq => exact op_eqW hu
  | NotEq => exact op_neW hu
  | Lt => exact op_ltW
  | LtE => exact op_leW
  | Gt => exact op_gtW
  | GtE => exact op_geW
  | Is => exact op_isW
  | IsNot => exact op_isnotW
  | In => exact op_inW hu
  | NotIn => exact op_notinW hu
end DL
namespace DL
open PySem PySem.Spec PyProof.Rows L2

variable {K : PySem.W.Frag}
variable {α α' α'' α1 : List Addr} {H H' H'' H1 : Hp} {hd hd' hd1 : Hd} {a p : Addr}
variable {X : Cx}
theorem ofO_W {o : Option W} {Q : V → Hp → Prop} (h : PoW K α H (DL.R.ofO o hd) Q) : ∃ w, o = some w ∧ PoW K α H (.ok w hd) Q := by
  cases o with
  | none => exact h.elim
  | some w => exact ⟨w, rfl, h⟩
theorem atI_map {f : D → W} {xs : List D} {vs : List V} {i : Int} {w : W} (hx : RelDs K α H xs vs) (h : (atI xs i).map f = some w) : ∃ d v, w = f d ∧ atI vs i = some v ∧ RelD K α H d v := by
  obtain ⟨d, e, rfl⟩ := Option.map_eq_some_iff.mp h
  unfold atI at e ⊢
  rw [hx.length]
  cases ej : ixN xs.length i with
  | none => rw [ej] at e; cases e
  | some j =>
    rw [ej] at e
    obtain ⟨v, e2, r⟩ := hx.get e
    exact ⟨d, v, rfl, e2, r⟩
theorem getIx_cases {wx wy w : W} {x y : V} (R : Rl K α hd H) (rx : RelW K α H wx x) (ry : RelW K α H wy y) (h : getIx wx wy hd = some w) :
    (∃ s i c, x = .str (mkS s) ∧ y = .int i ∧ s.length ≤ sizeLine ∧ atI s i = some c ∧ w = .v (.str [c])) ∨
    (∃ a vs i v d, x = .ref a ∧ y = .int i ∧ (SqL K H a vs ∨ SqT K H a vs) ∧ atI vs i = some v ∧ w = .v d ∧ RelD K α H d v) ∨
    ∃ a v d, x = .ref a ∧ DGet H a y (some v) ∧ w = .v d ∧ RelD K α H d v := by
  have lists : ∀ {wx : W} {i : Int}, RelW K α H wx x → y = .int i → (match wx.items hd with
    | some xs => (atI xs i).map W.v
    | none => none) = some w → ∃ a vs i v d, x = .ref a ∧ y = .int i ∧ (SqL K H a vs ∨ SqT K H a vs) ∧ atI vs i = some v ∧ w = .v d ∧ RelD K α H d v := by
    intro wx i rx ey h
    split at h
    · rename_i xs e
      obtain ⟨a, vs, e1, hq, hx⟩ := items_at R rx e
      obtain ⟨d, v, e2, e3, r⟩ := atI_map hx h
      exact ⟨a, vs, i, v, d, e1, ey, .inl hq, e3, e2, r⟩
    · cases h
  cases wx with
  | l xs =>
    cases wy with
    | l ys => cases h
    | v dy => cases dy with
      | int i => exact .inr (.inl (lists rx ry h))
      | _ => cases h
  | v dx =>
    cases dx with
    | str s =>
      cases wy with
      | l ys => cases h
      | v dy => cases dy with
        | int i =>
          simp only [getIx] at h
          split at h
          · rename_i hz
            obtain ⟨c, e, rfl⟩ := Option.map_eq_some_iff.mp h
            exact .inl ⟨s, i, c, rx, ry, hz, e, rfl⟩
          · cases h
        | _ => cases h
    | tup xs =>
      cases wy with
      | l ys => cases h
      | v dy => cases dy with
        | int i =>
          obtain ⟨a, vs, e1, ha, hx⟩ := rx
          obtain ⟨d, v, e2, e3, r⟩ := atI_map hx h
          exact .inr (.inl ⟨a, vs, i, v, d, e1, ry, .inr (SqT.of ha), e3, e2, r⟩)
        | _ => cases h
    | obj n =>
      cases wy with
      | l ys => cases h
      | v dy =>
        simp only [getIx] at h
        obtain ⟨a, e, ex⟩ := rx
        split at h
        · rename_i xs ho
          obtain ⟨vs, e2, hx⟩ := R.ob n _ a ho e
          cases dy with
          | int i =>
            obtain ⟨d, v, e3, e4, r⟩ := atI_map hx h
            exact .inr (.inl ⟨a, vs, i, v, d, ex, ry, .inl (SqL.of e2), e4, e3, r⟩)
          | _ => cases h
        · rename_i o nl ho
          split at h
          · rename_i d e1
            cases h
            obtain ⟨u, g, ru⟩ := look_at e1 (R.ob n _ a ho e) ry
            obtain ⟨v, rfl, rd⟩ := ru
            exact .inr (.inr ⟨a, v, d, ex, g, rfl, rd⟩)
          · cases h
        · cases h
    | ro xs =>
      cases wy with
      | l ys => cases h
      | v dy => cases dy with
        | int i => exact .inr (.inl (lists rx ry h))
        | _ => cases h
    | _ =>
      cases wy with
      | l ys => cases h
      | v dy => cases dy <;> cases h
theorem ix_dict (hu : Deep X) : IxR X fun x y H Q => ∃ a v, x = .ref a ∧ DGet H a y (some v) ∧ Q v H := by
  intro value slice pins s σ H x y v u Q I rx ry h hs
  obtain ⟨a, z, rfl, g, q⟩ := h
  cases rx
  have hT := dict_typeIs I g
  unfold subscriptTail
  refine wpAny_bind ?_
  rw [getitemInPython_of_ne hT.not_modules]
  refine wpAny_bind (wpAny_specialOf hT PySem.F.slot_dict_getitem.lookup ?_)
  have fin : wpAny (model X.prog X.w) X.A (subscripted slice false (.ref a) u) (fun r s₃ => wpAny (model X.prog X.w) X.A (letTemporaryGo value (.ref a) r >>= fun _ => pure r) (EP X pins σ Q) X.xe s₃) X.xe s := by
    rw [hs]
    refine wpAny_operating (d_getItem (deep1 hu) I g ry fun w' s' I' r' => ?_)
    exact wpAny_bind (wpAny_letTemporaryGo (wpAny_pure ⟨z, H, I', r', q⟩))
  first
    | exact wpAny_pure (wpAny_bind fin)
    | exact wpAny_bind (wpAny_pure (wpAny_bind fin))
    | exact wpAny_bind fin
theorem ixW (hu : Deep X) : IxR X (rB X.K getIx) := by
  intro value slice pins s σ H x y v u Q I rx ry h hs
  obtain ⟨α, hd, wx, wy, R, rwx, rwy, h⟩ := h
  obtain ⟨w, e, h⟩ := ofO_W h
  rcases getIx_cases R rwx rwy e with ⟨t, i, c, rfl, rfl, hz, e2, rfl⟩ | ⟨a, vs, i, z, d, rfl, rfl, hq, e2, rfl, r⟩ | ⟨a, z, d, rfl, g, rfl, r⟩
  · exact ix_str value slice pins s σ H _ _ v u Q I rx ry ⟨mkS t, i, c, rfl, rfl, by rw [mkS_len]; exact hz, e2, h.old (d := .str [c]) R rfl⟩ hs
  · rcases hq with hq | hq
    · exact ix_list value slice pins s σ H _ _ v u Q I rx ry ⟨a, vs, i, z, rfl, rfl, hq, e2, h.old R r⟩ hs
    · exact ix_tup value slice pins s σ H _ _ v u Q I rx ry ⟨a, vs, i, z, rfl, rfl, hq, e2, h.old R r⟩ hs
  · exact ix_dict hu value slice pins s σ H _ _ v u Q I rx ry ⟨a, z, rfl, g, h.old R r⟩ hs

theorem cut_rel {xs : List D} {vs : List V} (lo hi : Option Int) (hx : RelDs K α H xs vs) : RelDs K α H (cutL xs lo hi) (cutV vs lo hi) := by
  unfold cutL cutV
  rw [hx.length]
  exact (hx.drop _).take _
theorem cutL_whole {α : Type} {xs : List α} {lo hi : Option Int} (h : HT.sIx xs.length 0 lo = 0 ∧ HT.sIx xs.length xs.length hi = xs.length) : cutL xs lo hi = xs := by
  unfold cutL
  rw [h.1, h.2]
  simp
def rSl' (K : PySem.W.Frag) : V → Option Int → Option Int → Hp → VK → Prop := fun x lo hi H Q => ∃ α hd wx, Rl K α hd H ∧ RelW K α H wx x ∧ PoW K α H (R.ofO (getSl wx lo hi hd) hd) Q
theorem slW : SlR X (rSl' X.K) := by
  intro pins s σ H x v vl vu lo hi sl Q I rx hs pl pu h
  obtain ⟨α, hd, wx, R, rwx, h⟩ := h
  obtain ⟨w, e, h⟩ := ofO_W h
  have lists : ∀ {wx : W}, RelW X.K α H wx x → (wx.items hd).map (fun xs => W.l (cutL xs lo hi)) = some w → rSlL X.K x lo hi H Q := by
    intro wx r e
    obtain ⟨xs, e1, rfl⟩ := Option.map_eq_some_iff.mp e
    obtain ⟨a, vs, e2, hq, hx⟩ := items_at R r e1
    exact ⟨a, vs, e2, hq, fun p hp => h.newL R (cut_rel lo hi hx) hp⟩
  cases wx with
  | l xs => exact sl_list pins s σ H x v vl vu lo hi sl Q I rx hs pl pu (lists rwx e)
  | v d =>
    cases d with
    | str t =>
      cases (show x = V.str (mkS t) from rwx)
      simp only [getSl] at e
      split at e
      · rename_i hz
        cases e
        refine sl_str pins s σ H _ v vl vu lo hi sl Q I rx hs pl pu ⟨mkS t, rfl, by rw [mkS_len]; exact hz, ?_⟩
        have e3 : cutS (mkS t) lo hi = mkS (cutL t lo hi) := by
          unfold cutS cutL
          rw [mkS_len]
        rw [e3]
        exact h.old (d := .str (cutL t lo hi)) R rfl
      · cases e
    | tup xs =>
      cases e
      obtain ⟨a, vs, rfl, ha, hx⟩ := rwx
      refine sl_tupA pins s σ H _ v vl vu lo hi sl Q I rx hs pl pu ⟨a, vs, rfl, SqT.of ha, fun hw => ?_, fun _ p hp => h.newT R (cut_rel lo hi hx) hp⟩
      rw [hx.length] at hw
      rw [cutL_whole hw] at h
      exact h.old (d := .tup xs) R ⟨a, vs, rfl, ha, hx⟩
    | _ => exact sl_list pins s σ H x v vl vu lo hi sl Q I rx hs pl pu (lists rwx e)
theorem TV_revL {f : FV} {σ : L2.St} {Q : VK} (h : TV K (fun σ h => (f σ h).bind fun x h => R.ofO (revSl x h) h) σ H Q) : tRevL K (TV K f) σ H Q := by
  obtain ⟨α, σd, hd, R, S, h⟩ := h
  have h : PoW K α H ((f σd hd).bind fun x h => DL.R.ofO (revSl x h) h) Q := h
  refine TV.seq R S h.ok fun x hd1 α1 H1 v1 e g R1 S1 r n => ?_
  rw [e] at h
  obtain ⟨w, e1, h⟩ := ofO_W (h.from g R1)
  obtain ⟨xs, e2, rfl⟩ := Option.map_eq_some_iff.mp e1
  obtain ⟨a, vs, e3, hq, hx⟩ := items_at R1 r e2
  exact ⟨a, vs, e3, hq, fun p hp => h.newL R1 hx.reverse hp⟩

theorem tru_at {w : W} {x : V} {b : Bool} (R : Rl K α hd H) (r : RelW K α H w x) (h : w.truth hd = some b) : TruV K x H b := by
  have lst : ∀ {xs : List D} {vs : List V} {a : Addr}, SqL K H a vs → RelDs K α H xs vs → TruV K (.ref a) H (!xs.isEmpty) := fun hq hx => .inl ⟨_, hq, by rw [hx.isEmpty]⟩
  cases w with
  | l xs =>
    cases h
    obtain ⟨a, vs, rfl, ha, _, hx⟩ := r
    exact lst (SqL.of ha) hx
  | v d =>
    cases d with
    | non => cases h; cases (show x = V.non from r); rfl
    | bl b => cases h; cases (show x = V.bl b from r); rfl
    | int i => cases h; cases (show x = V.int i from r); rfl
    | str s =>
      cases (show x = V.str (mkS s) from r)
      simp only [W.truth] at h
      split at h
      · rename_i hz
        cases h
        refine ⟨by rw [mkS_len]; exact hz, ?_⟩
        rw [mkS_len]
        cases s with
        | nil => rfl
        | cons c s =>
          have : ((c :: s).length : Int) ≠ 0 := by simp only [List.length_cons]; omega
          simp [this]
          omega
      · cases h
    | tup xs =>
      cases h
      obtain ⟨a, vs, rfl, ha, hx⟩ := r
      exact .inr (.inl ⟨_, SqT.of ha, by rw [hx.isEmpty]⟩)
    | ro xs =>
      cases h
      obtain ⟨a, vs, rfl, ha, hx⟩ := r
      exact lst ha.sq hx
    | xt xs => cases h
    | obj n =>
      obtain ⟨a, e, rfl⟩ := r
      simp only [W.truth] at h
      split at h
      · rename_i xs ho
        cases h
        obtain ⟨vs, e2, hx⟩ := R.ob n _ a ho e
        exact lst (SqL.of e2) hx
      · rename_i kvs ho
        cases h
        obtain ⟨l, e2, hx⟩ := R.ob n _ a ho e
        refine .inr (.inr ⟨l, e2, ?_⟩)
        cases kvs with
        | nil => rw [show l = [] from hx]; rfl
        | cons kd r =>
          obtain ⟨k, d⟩ := kd
          obtain ⟨v, lr, rfl, _⟩ := hx
          rfl
      · cases h

def r1 (K : PySem.W.Frag) (f : W → Hd → Option W) : List V → Hp → VK → Prop := fun xs H Q => ∃ α hd w x, xs = [x] ∧ Rl K α hd H ∧ RelW K α H w x ∧ PoW K α H (R.ofO (f w hd) hd) Q
theorem relKK_len : ∀ {kvs : List (DK × D)} {l : List (Key × V)}, RelKK K α H kvs l → l.length = kvs.length
  | [], l, h => by rw [show l = [] from h]; rfl
  | (k, d) :: r, l, h => by
    obtain ⟨v, lr, rfl, _, h2⟩ := h
    rw [List.length_cons, List.length_cons, relKK_len h2]
theorem c_len : CallR X (.builtin "len") (r1 X.K (bl1 .len)) := by
  intro pins s σ H xs us Q I r h
  obtain ⟨α, hd, w, x, rfl, R, rw, h⟩ := h
  obtain ⟨z, e, h⟩ := ofO_W h
  have seqs : ∀ {w : W}, RelW X.K α H w x → (w.seq hd).map (fun xs => W.v (.int xs.length)) = some z → wpAny (model X.prog X.w) X.A (call (.builtin "len") us) (EP X pins σ Q) X.xe s := by
    intro w rw e
    obtain ⟨xs, e1, rfl⟩ := Option.map_eq_some_iff.mp e
    obtain ⟨a, vs, rfl, hq, hx⟩ := seq_at R rw e1
    refine call_len_seq pins s σ H _ us Q I r ⟨a, vs, rfl, hq, ?_⟩
    rw [hx.length]
    exact h.old (d := .int xs.length) R rfl
  cases w with
  | l xs => exact seqs rw e
  | v d =>
    cases d with
    | str t =>
      cases (show x = V.str (mkS t) from rw)
      simp only [bl1] at e
      split at e
      · rename_i hz
        cases e
        refine call_len_str pins s σ H _ us Q I r ⟨mkS t, rfl, by rw [mkS_len]; exact hz, ?_⟩
        rw [mkS_len]
        exact h.old (d := .int t.length) R rfl
      · cases e
    | obj n =>
      simp only [bl1] at e
      split at e
      · rename_i ys ho
        refine seqs (w := .v (.obj n)) rw ?_
        simp only [W.seq, D.items, ho]
        exact e
      · rename_i kvs ho
        cases e
        obtain ⟨a, ea, rfl⟩ := rw
        obtain ⟨l, e2, hx⟩ := R.ob n _ a ho ea
        obtain ⟨u, rfl, ru⟩ := vals1 r
        cases ru
        refine d_len I (.inl e2) fun t s' I' => ⟨.int l.length, H, I', ⟨t, rfl⟩, ?_⟩
        rw [relKK_len hx]
        exact h.old (d := .int kvs.length) R rfl
      · cases e
    | _ => exact seqs (w := .v _) rw e
theorem c_abs : CallR X (.builtin "abs") (r1 X.K (bl1 .abs)) := by
  intro pins s σ H xs us Q I r h
  obtain ⟨α, hd, w, x, rfl, R, rw, h⟩ := h
  obtain ⟨z, e, h⟩ := ofO_W h
  cases w with
  | l xs => cases e
  | v d =>
    cases d with
    | int i =>
      cases e
      cases (show x = V.int i from rw)
      refine call_abs pins s σ H _ us Q I r ⟨i, rfl, ?_⟩
      have : (if i < 0 then -i else i) = (i.natAbs : Int) := by split <;> omega
      rw [this]
      exact h.old (d := .int i.natAbs) R rfl
    | _ => cases e
theorem c_int : CallR X (.type "int") (r1 X.K (bl1 .int)) := by
  intro pins s σ H xs us Q I r h
  obtain ⟨α, hd, w, x, rfl, R, rw, h⟩ := h
  obtain ⟨z, e, h⟩ := ofO_W h
  cases w with
  | l xs => cases e
  | v d =>
    cases d with
    | int i =>
      cases e
      cases (show x = V.int i from rw)
      exact call_int1 pins s σ H _ us Q I r (.inl ⟨i, rfl, h.old (d := .int i) R rfl⟩)
    | bl b =>
      cases e
      cases (show x = V.bl b from rw)
      exact call_int1 pins s σ H _ us Q I r (.inr ⟨b, rfl, h.old (d := .int (if b then 1 else 0)) R rfl⟩)
    | _ => cases e
theorem c_str : CallR X (.type "str") (r1 X.K (bl1 .str)) := by
  intro pins s σ H xs us Q I r h
  obtain ⟨α, hd, w, x, rfl, R, rw, h⟩ := h
  obtain ⟨z, e, h⟩ := ofO_W h
  cases w with
  | l xs => cases e
  | v d =>
    cases d with
    | int i =>
      simp only [bl1] at e
      split at e
      · rename_i hz
        cases e
        cases (show x = V.int i from rw)
        refine call_str_int pins s σ H _ us Q I r ⟨i, rfl, hz, ?_⟩
        have q := h.old (d := .str (Str.ofString (toString i)).cps.toList) R rfl
        rw [mkS_of] at q
        exact q
      · cases e
    | _ => cases e
theorem c_tuple : CallR X (.type "tuple") (r1 X.K (bl1 .tuple)) := by
  intro pins s σ H xs us Q I r h
  obtain ⟨α, hd, w, x, rfl, R, rw, h⟩ := h
  obtain ⟨z, e, h2⟩ := ofO_W h
  clear h
  obtain ⟨xs, e1, rfl⟩ := Option.map_eq_some_iff.mp e
  cases w with
  | v d =>
    cases d with
    | tup ys =>
      cases e1
      obtain ⟨a, vs, rfl, ha, hx⟩ := rw
      exact call_tuple_of pins s σ H _ us Q I r ⟨a, vs, rfl, .inr ⟨SqT.of ha, h2.old (d := .tup xs) R ⟨a, vs, rfl, ha, hx⟩⟩⟩
    | _ =>
      obtain ⟨a, vs, rfl, hq, hx⟩ := items_at R rw (xs := xs) (by simpa [W.seq, W.items] using e1)
      exact call_tuple_of pins s σ H _ us Q I r ⟨a, vs, rfl, .inl ⟨hq, fun p hp => h2.newT R hx hp⟩⟩
  | l ys =>
    obtain ⟨a, vs, rfl, hq, hx⟩ := items_at R rw (xs := xs) (by simpa [W.seq, W.items] using e1)
    exact call_tuple_of pins s σ H _ us Q I r ⟨a, vs, rfl, .inl ⟨hq, fun p hp => h2.newT R hx hp⟩⟩
theorem c_list : CallR X (.type "list") (r1 X.K (bl1 .list)) := by
  intro pins s σ H xs us Q I r h
  obtain ⟨α, hd, w, x, rfl, R, rw, h⟩ := h
  obtain ⟨z, e, h⟩ := ofO_W h
  obtain ⟨xs, e1, rfl⟩ := Option.map_eq_some_iff.mp e
  obtain ⟨a, vs, rfl, hq, hx⟩ := seq_at R rw e1
  exact call_list_of pins s σ H _ us Q I r ⟨a, vs, rfl, hq, fun p hp => h.newL R hx hp⟩
theorem intsOf_at : ∀ {xs : List D} {ns : List Int} {vs : List V}, intsOf xs = some ns → RelDs K α H xs vs → vs = ns.map V.int
  | [], ns, vs, h, r => by cases h; exact r
  | .int i :: xs, ns, vs, h, r => by
    obtain ⟨v, vr, rfl, h1, h2⟩ := r
    simp only [intsOf, Option.map_eq_some_iff] at h
    obtain ⟨ms, e, rfl⟩ := h
    rw [show v = V.int i from h1, intsOf_at e h2]
    rfl
  | .non :: xs, ns, vs, h, r => by cases h
  | .bl _ :: xs, ns, vs, h, r => by cases h
  | .str _ :: xs, ns, vs, h, r => by cases h
  | .tup _ :: xs, ns, vs, h, r => by cases h
  | .obj _ :: xs, ns, vs, h, r => by cases h
  | .ro _ :: xs, ns, vs, h, r => by cases h
  | .xt _ :: xs, ns, vs, h, r => by cases h
theorem strsOf_at : ∀ {xs : List D} {ns : List (List Nat)} {vs : List V}, strsOf xs = some ns → RelDs K α H xs vs → vs = (ns.map mkS).map V.str
  | [], ns, vs, h, r => by cases h; exact r
  | .str i :: xs, ns, vs, h, r => by
    obtain ⟨v, vr, rfl, h1, h2⟩ := r
    simp only [strsOf, Option.map_eq_some_iff] at h
    obtain ⟨ms, e, rfl⟩ := h
    rw [show v = V.str (mkS i) from h1, strsOf_at e h2]
    rfl
  | .non :: xs, ns, vs, h, r => by cases h
  | .bl _ :: xs, ns, vs, h, r => by cases h
  | .int _ :: xs, ns, vs, h, r => by cases h
  | .tup _ :: xs, ns, vs, h, r => by cases h
  | .obj _ :: xs, ns, vs, h, r => by cases h
  | .ro _ :: xs, ns, vs, h, r => by cases h
  | .xt _ :: xs, ns, vs, h, r => by cases h
theorem blsOf_at : ∀ {xs : List D} {ns : List Bool} {vs : List V}, blsOf xs = some ns → RelDs K α H xs vs → vs = ns.map V.bl
  | [], ns, vs, h, r => by cases h; exact r
  | .bl i :: xs, ns, vs, h, r => by
    obtain ⟨v, vr, rfl, h1, h2⟩ := r
    simp only [blsOf, Option.map_eq_some_iff] at h
    obtain ⟨ms, e, rfl⟩ := h
    rw [show v = V.bl i from h1, blsOf_at e h2]
    rfl
  | .non :: xs, ns, vs, h, r => by cases h
  | .str _ :: xs, ns, vs, h, r => by cases h
  | .int _ :: xs, ns, vs, h, r => by cases h
  | .tup _ :: xs, ns, vs, h, r => by cases h
  | .obj _ :: xs, ns, vs, h, r => by cases h
  | .ro _ :: xs, ns, vs, h, r => by cases h
  | .xt _ :: xs, ns, vs, h, r => by cases h
theorem c_sum (hc : X.calm = true) : CallR X (.builtin "sum") (r1 X.K (bl1 .sum)) := by
  intro pins s σ H xs us Q I r h
  obtain ⟨α, hd, w, x, rfl, R, rw, h⟩ := h
  obtain ⟨z, e, h⟩ := ofO_W h
  simp only [bl1] at e
  split at e
  · rename_i xs e1
    obtain ⟨ns, e2, rfl⟩ := Option.map_eq_some_iff.mp e
    obtain ⟨a, vs, rfl, hq, hx⟩ := items_at R rw e1
    rw [intsOf_at e2 hx] at hq
    exact cr_sum hc pins s σ H _ us Q I r ⟨a, ns, rfl, hq, h.old (d := .int ns.sum) R rfl⟩
  · cases e
theorem sortedS_pw : ∀ (xs : List Str), sortedS xs = true → xs.Pairwise fun a b => (!decide (b.cps.toList < a.cps.toList)) = true
  | [], _ => .nil
  | x :: r, h => by
    have go : ∀ (r : List Str) (p : Str), risingS p r = true → (p :: r).Pairwise fun a b => (!decide (b.cps.toList < a.cps.toList)) = true := by
      intro r
      induction r with
      | nil => intro p _; simp
      | cons y r ih =>
        intro p hp
        simp only [risingS, Bool.and_eq_true] at hp
        obtain ⟨h1, h2⟩ := hp
        have t := ih y h2
        rw [ltCps_eq] at h1
        refine List.pairwise_cons.mpr ⟨fun z hz => ?_, t⟩
        rcases List.mem_cons.mp hz with rfl | hz
        · exact h1
        · have h3 := (List.pairwise_cons.mp t).1 z hz
          simp only [Bool.not_eq_true', decide_eq_false_iff_not] at h1 h3 ⊢
          exact fun z' => h1 (List.lt_of_le_of_lt (List.not_lt.mp h3) z')
    exact go r x h
theorem sortS_eq {ss : List (List Nat)} {ys : List Str} (hp : ys.Perm (ss.map mkS)) (hs : sortedS ys = true) : ys = (sortS ss).map mkS := by
  have le_tr : ∀ a b c : List Nat, (!decide (b < a)) = true → (!decide (c < b)) = true → (!decide (c < a)) = true := fun a b c h1 h2 => by
    simp only [Bool.not_eq_true', decide_eq_false_iff_not] at h1 h2 ⊢
    exact fun z => h1 (List.lt_of_le_of_lt (List.not_lt.mp h2) z)
  have le_to : ∀ a b : List Nat, ((!decide (b < a)) || (!decide (a < b))) = true := fun a b => by
    simp only [Bool.or_eq_true, Bool.not_eq_true', decide_eq_false_iff_not, List.not_lt]
    exact List.le_total a b
  refine List.Perm.eq_of_pairwise (le := fun a b => (!decide (b.cps.toList < a.cps.toList)) = true) (fun a b _ _ h1 h2 => ?_) (sortedS_pw ys hs) ?_ ?_
  · simp only [Bool.not_eq_true', decide_eq_false_iff_not, List.not_lt] at h1 h2
    have := List.le_antisymm h1 h2
    rw [← mkS_of a, ← mkS_of b, this]
  · rw [List.pairwise_map]
    exact (List.pairwise_mergeSort le_tr le_to ss).imp fun h => by simpa using h
  · exact hp.trans ((List.mergeSort_perm ss _).symm.map mkS)
theorem sortI_eq {ns ms : List Int} (hp : ms.Perm ns) (hs : ms.Pairwise (· ≤ ·)) : ms = sortI ns := by
  refine List.Perm.eq_of_pairwise (le := (· ≤ ·)) (fun a b _ _ h1 h2 => Int.le_antisymm h1 h2) hs ?_ (hp.trans (List.mergeSort_perm ns _).symm)
  refine (List.pairwise_mergeSort (le := fun a b : Int => decide (a ≤ b)) (fun a b c h1 h2 => ?_) (fun a b => ?_) ns).imp fun h => of_decide_eq_true h
  · simp only [decide_eq_true_eq] at h1 h2 ⊢; omega
  · simp only [Bool.or_eq_true, decide_eq_true_eq]; omega
theorem relInts : ∀ ns : List Int, RelDs K α H (ns.map .int) (ns.map V.int)
  | [] => rfl
  | n :: ns => ⟨_, _, rfl, rfl, relInts ns⟩
theorem relStrs : ∀ ns : List (List Nat), RelDs K α H (ns.map .str) ((ns.map mkS).map V.str)
  | [] => rfl
  | n :: ns => ⟨_, _, rfl, rfl, relStrs ns⟩
theorem pys_map : ∀ {xs : List D} {ps : List PyData}, D.pys xs = some ps → ps = xs.map pyE ∧ ∀ x ∈ xs, x.py = some (pyE x)
  | [], ps, e => by cases e; exact ⟨rfl, by simp⟩
  | d :: xs, ps, e => by
    simp only [D.pys] at e
    split at e
    · rename_i q qs e1 e2
      cases e
      obtain ⟨i1, i2⟩ := pys_map e2
      have hq : pyE d = q := by unfold pyE; rw [e1]; rfl
      refine ⟨by rw [List.map_cons, hq, ← i1], fun x hx => ?_⟩
      rcases List.mem_cons.mp hx with rfl | hx
      · rw [hq]; exact e1
      · exact i2 x hx
    · cases e
theorem rels_zip : ∀ {xs : List D} {vs : List V}, RelDs K α H xs vs → (∀ q ∈ xs.zip vs, RelD K α H q.1 q.2) ∧ (xs.zip vs).map (·.1) = xs ∧ (xs.zip vs).map (·.2) = vs
  | [], vs, h => by rw [show vs = [] from h]; exact ⟨by simp, rfl, rfl⟩
  | d :: xs, vs, h => by
    obtain ⟨v, vr, rfl, h1, h2⟩ := h
    obtain ⟨i1, i2, i3⟩ := rels_zip h2
    refine ⟨fun q hq => ?_, by rw [List.zip_cons_cons, List.map_cons, i2], by rw [List.zip_cons_cons, List.map_cons, i3]⟩
    rw [List.zip_cons_cons] at hq
    rcases List.mem_cons.mp hq with rfl | hq
    · exact h1
    · exact i1 q hq
theorem rels_all : ∀ (l : List (D × V)), (∀ q ∈ l, RelD K α H q.1 q.2) → RelDs K α H (l.map (·.1)) (l.map (·.2))
  | [], _ => rfl
  | q :: l, h => ⟨q.2, l.map (·.2), rfl, h q (by simp), rels_all l fun r hr => h r (by simp [hr])⟩
theorem each_zip {T : Value → D × V → Prop} : ∀ {its : List Value} {vs : List V} {xs : List D}, Vals vs its → xs.length = vs.length → (∀ u q, q ∈ xs.zip vs → RelV q.2 u → T u q) → PySem.W.EachIs T its (xs.zip vs)
  | _, _, [], .nil, _, _ => .nil
  | _, _, x :: xs, .cons (a := v) (b := u) h t, hl, k => by
    rw [List.zip_cons_cons]
    exact .cons (k u (x, v) (by simp) h) (each_zip t (by simpa using hl) fun u q hq r => k u q (by rw [List.zip_cons_cons]; simp [hq]) r)
  | _, _, [], .cons _ _, hl, _ => by simp at hl
  | _, _, _ :: _, .nil, hl, _ => by simp at hl
theorem each_vals : ∀ {out : List Value} {l : List (D × V)}, PySem.W.EachIs (fun u q => RelV q.2 u) out l → Vals (l.map (·.2)) out
  | _, _, .nil => .nil
  | _, _, .cons h t => .cons h (each_vals t)
theorem c_sortedD (hu : Deep X) : CallR X (.builtin "sorted") (r1 X.K blS) := by
  intro pins s σ H xs us Q I r h
  obtain ⟨α, hd, w, x, rfl, R, rw, h⟩ := h
  obtain ⟨z, e, h⟩ := ofO_W h
  unfold blS at e
  split at e
  · rename_i xs e1
    split at e
    · rename_i ps e2
      split at e
      · rename_i ok
        cases e
        obtain ⟨a, vs, rfl, hq, hx⟩ := items_at R rw e1
        obtain ⟨u, rfl, ru⟩ := vals1 r
        cases ru
        obtain ⟨its, rv, pl, hz⟩ := I.list hq
        obtain ⟨z1, z2, z3⟩ := rels_zip hx
        obtain ⟨m1, m2⟩ := pys_map e2
        have hl : xs.length = vs.length := hx.length.symm
        unfold srtOk at ok
        simp only [Bool.and_eq_true, Bool.or_eq_true, List.all_eq_true, decide_eq_true_eq] at ok
        obtain ⟨⟨ok1, ok2⟩, ok3⟩ := ok
        have em : (xs.zip vs).map (fun q => pyE q.1) = ps := by
          have : (xs.zip vs).map (fun q => pyE q.1) = ((xs.zip vs).map (·.1)).map pyE := by rw [List.map_map]; rfl
          rw [this, z2, m1]
        have reads : ∀ u q, q ∈ xs.zip vs → RelV q.2 u → ∃ as, Reads s.heap u (pyE q.1) as := fun u q hq r => by
          have hd1 : q.1 ∈ xs := by rw [← z2]; exact List.mem_map.mpr ⟨q, hq, rfl⟩
          exact Dp.reads I _ _ _ (py_at (m2 _ hd1) (z1 q hq)) r
        refine PySem.W.sorted_data (s := s) (β := D × V) (enc := fun q => pyE q.1) (R := fun u q => RelV q.2 u) (bs := xs.zip vs) pl.isList (each_zip rv hl fun _ _ _ r => r) (each_zip rv hl reads) ?_ ?_ ?_ ?_ fun out ol eo => ?_
        · rw [em]; exact fun d hd d' hd' => ok1 d hd d' hd'
        · rw [em]
          rcases ok2 with q | q
          · exact .inl fun d hd => by
              have := q d hd
              unfold isTupC at this
              split at this
              · exact ⟨_, _, rfl⟩
              · cases this
          · exact .inr fun d hd => by
              have := q d hd
              unfold notTN at this
              split at this
              · cases this
              · cases this
              · rename_i n1 n2
                exact ⟨n2, n1⟩
        · rw [List.length_zip, hl, Nat.min_self]; exact hz
        · intro q hq
          have := ok3 (pyE q.1) (by rw [← em]; exact List.mem_map.mpr ⟨q, hq, rfl⟩)
          have hu : X.A.units + 200 < cLine := hu
          omega
        · obtain ⟨n, hn⟩ := sortedAll_at s.heap its (List.toArray out)
          have e1 : ((xs.zip vs).mergeSort (PySem.W.dataLe false fun q => pyE q.1)).map (·.1) = sortPy xs := by
            exact (List.map_mergeSort (r := PySem.W.dataLe false fun q : D × V => pyE q.1) (s := leD) (f := fun q : D × V => q.1) (l := xs.zip vs) (fun a _ b _ => rfl)).trans (by rw [z2]; rfl)
          have hv := each_vals eo
          have hr : RelDs X.K α H (sortPy xs) (((xs.zip vs).mergeSort (PySem.W.dataLe false fun q => pyE q.1)).map (·.2)) := by
            rw [← e1]
            exact rels_all _ fun q hq => z1 q (List.mem_mergeSort.mp hq)
          generalize ((xs.zip vs).mergeSort (PySem.W.dataLe false fun q => pyE q.1)).map (·.2) = ws at hv hr
          have hwl : ws.length ≤ sizeLine := by rw [hv.length, ol, List.length_zip, hl, Nat.min_self]; exact hz
          have nw : H (s.heap.objs.size + 1) = none := I.hok.fresh (Nat.le_succ _)
          exact ⟨.ref (s.heap.objs.size + 1), upd H (s.heap.objs.size + 1) (.lst ws), I.laid (t' := s.toks) (fun b o e => sortedAll_old e) (Nat.le_succ _) ⟨hwl, out, n, hv, hn⟩, rfl, h.newL R hr nw⟩
      · cases e
    · cases e
  · cases e
theorem c_sorted0 : CallR X (.builtin "sorted") (r1 X.K srt0) := by
  intro pins s σ H xs us Q I r h
  obtain ⟨α, hd, w, x, rfl, R, rw, h⟩ := h
  obtain ⟨z, e, h⟩ := ofO_W h
  unfold srt0 at e
  split at e
  · rename_i xs e1
    obtain ⟨a, vs, rfl, hq, hx⟩ := items_at R rw e1
    split at e
    · rename_i ns e2
      cases e
      rw [intsOf_at e2 hx] at hq
      refine cr_sortedI pins s σ H _ us Q I r ⟨a, ns, rfl, hq, fun ms p hp hs hn => ?_⟩
      rw [sortI_eq hp hs]
      exact h.newL R (relInts _) hn
    · split at e
      · rename_i ss e2
        split at e
        · rename_i hz
          cases e
          rw [strsOf_at e2 hx] at hq
          refine cr_sortedS pins s σ H _ us Q I r ⟨a, ss.map mkS, rfl, hq, by rw [List.length_map]; exact hz, fun ys p hp hs hn => ?_⟩
          rw [sortS_eq hp hs]
          exact h.newL R (relStrs _) hn
        · cases e
      · cases e
  · cases e
theorem c_sorted (hu : Deep X) : CallR X (.builtin "sorted") (r1 X.K (bl1 .sorted)) := by
  intro pins s σ H xs us Q I r h
  obtain ⟨α, hd, w, x, rfl, R, rw, h⟩ := h
  obtain ⟨z, e, h2⟩ := ofO_W h
  simp only [bl1] at e
  split at e
  · rename_i w1 e1
    cases e
    exact c_sorted0 pins s σ H _ us Q I r ⟨α, hd, w, x, rfl, R, rw, by rw [e1]; exact h2⟩
  · exact c_sortedD hu pins s σ H _ us Q I r ⟨α, hd, w, x, rfl, R, rw, by rw [e]; exact h2⟩
theorem c_any (hc : X.calm = true) : CallR X (.builtin "any") (r1 X.K (bl1 .any)) := by
  intro pins s σ H xs us Q I r h
  obtain ⟨α, hd, w, x, rfl, R, rw, h⟩ := h
  obtain ⟨z, e, h⟩ := ofO_W h
  simp only [bl1] at e
  split at e
  · rename_i xs e1
    obtain ⟨ns, e2, rfl⟩ := Option.map_eq_some_iff.mp e
    obtain ⟨a, vs, rfl, hq, hx⟩ := items_at R rw e1
    rw [blsOf_at e2 hx] at hq
    exact cr_any hc pins s σ H _ us Q I r ⟨a, ns, rfl, hq, h.old (d := .bl (ns.any id)) R rfl⟩
  · cases e
theorem c_all (hc : X.calm = true) : CallR X (.builtin "all") (r1 X.K (bl1 .all)) := by
  intro pins s σ H xs us Q I r h
  obtain ⟨α, hd, w, x, rfl, R, rw, h⟩ := h
  obtain ⟨z, e, h⟩ := ofO_W h
  simp only [bl1] at e
  split at e
  · rename_i xs e1
    obtain ⟨ns, e2, rfl⟩ := Option.map_eq_some_iff.mp e
    obtain ⟨a, vs, rfl, hq, hx⟩ := items_at R rw e1
    rw [blsOf_at e2 hx] at hq
    exact cr_all hc pins s σ H _ us Q I r ⟨a, ns, rfl, hq, h.old (d := .bl (ns.all id)) R rfl⟩
  · cases e
def r2 (K : PySem.W.Frag) (f : W → W → Option W) : List V → Hp → VK → Prop := fun xs H Q => ∃ α hd w w' x x', xs = [x, x'] ∧ Rl K α hd H ∧ RelW K α H w x ∧ RelW K α H w' x' ∧ PoW K α H (R.ofO (f w w') hd) Q
theorem c_max (hc : X.calm = true) : CallR X (.builtin "max") (r2 X.K (bl2 .max)) := by
  intro pins s σ H xs us Q I r h
  obtain ⟨α, hd, w, w', x, x', rfl, R, rw, rw', h⟩ := h
  obtain ⟨z, e, h⟩ := ofO_W h
  cases w with
  | l xs => cases e
  | v d =>
    cases w' with
    | l xs => cases d <;> cases e
    | v d' =>
      cases d with
      | int i =>
        cases d' with
        | int j =>
          cases e
          cases (show x = V.int i from rw)
          cases (show x' = V.int j from rw')
          exact call_max2 hc pins s σ H _ us Q I r ⟨i, j, rfl, h.old (d := .int (if j > i then j else i)) R rfl⟩
        | _ => cases e
      | _ => cases e
theorem c_min (hc : X.calm = true) : CallR X (.builtin "min") (r2 X.K (bl2 .min)) := by
  intro pins s σ H xs us Q I r h
  obtain ⟨α, hd, w, w', x, x', rfl, R, rw, rw', h⟩ := h
  obtain ⟨z, e, h⟩ := ofO_W h
  cases w with
  | l xs => cases e
  | v d =>
    cases w' with
    | l xs => cases d <;> cases e
    | v d' =>
      cases d with
      | int i =>
        cases d' with
        | int j =>
          cases e
          cases (show x = V.int i from rw)
          cases (show x' = V.int j from rw')
          exact call_min2 hc pins s σ H _ us Q I r ⟨i, j, rfl, h.old (d := .int (if j < i then j else i)) R rfl⟩
        | _ => cases e
      | _ => cases e
end DL
namespace DL
open PySem PySem.Spec PyProof.Rows L2

theorem back_adj {n : Nat} (h : 0 < n) : Builtin.Slice.sliceAdjust none (some 0) (-1) (n : Int) = ((n : Int) - 1, 0) := by
  unfold Builtin.Slice.sliceAdjust
  have h1 : (-1 : Int) < 0 := by omega
  have h2 : ¬ ((0 : Int) < 0) := by omega
  simp only [h1, h2, if_true, if_false]
  rw [Int.min_eq_left (by omega)]
theorem back_places {n : Nat} (h : 0 < n) : Builtin.Slice.slicePlaces ((n : Int) - 1) 0 (-1) = n - 1 := by
  unfold Builtin.Slice.slicePlaces
  have h1 : ¬ ((-1 : Int) > 0) := by omega
  simp only [h1, if_false]
  have e : (-(-1 : Int)) = 1 := by omega
  rw [e, Int.ediv_one]
  split <;> omega
theorem fm_some {f : Nat → Option Value} {g : Nat → Value} : ∀ l : List Nat, (∀ k ∈ l, f k = some (g k)) → l.filterMap f = l.map g
  | [], _ => rfl
  | k :: l, h => by rw [List.filterMap_cons, h k (by simp), fm_some l fun j hj => h j (by simp [hj])]; rfl
theorem back_pick (xs : List Value) (h : 0 < xs.length) : ((List.range (xs.length - 1)).filterMap fun (k : Nat) => xs.toArray[(((xs.length : Int) - 1) + (k : Int) * (-1)).toNat]?) = (xs.drop 1).reverse := by
  have e : ∀ k ∈ List.range (xs.length - 1), xs.toArray[(((xs.length : Int) - 1) + (k : Int) * (-1)).toNat]? = (some ((xs.drop 1).reverse.getD k .none) : Option Value) := by
    intro k hk
    have hk := List.mem_range.mp hk
    have e1 : (((xs.length : Int) - 1) + (k : Int) * (-1)).toNat = xs.length - 1 - k := by omega
    have hl : k < (xs.drop 1).reverse.length := by simp; omega
    rw [e1, List.getElem?_toArray, List.getD_eq_getElem?_getD, List.getElem?_eq_getElem hl, List.getElem_reverse, List.getElem_drop, List.getElem?_eq_getElem (by omega)]
    simp only [Option.getD_some, List.length_drop]
    congr 2
    omega
  rw [fm_some _ e]
  apply List.ext_getElem?
  intro i
  rw [List.getElem?_map]
  by_cases hi : i < xs.length - 1
  · rw [List.getElem?_range hi]
    have hl : i < (xs.drop 1).reverse.length := by simp; omega
    rw [List.getElem?_eq_getElem hl]
    simp only [Option.map_some, List.getD_eq_getElem?_getD, List.getElem?_eq_getElem hl, Option.getD_some]
  · rw [List.getElem?_eq_none (by simpa using hi), List.getElem?_eq_none (by simp; omega)]
    rfl
section
variable {prog : Program} {w : World} {A : Around} {E : Value → Shared → Prop} {s : Shared}
theorem back_applied {sl : Addr} {vl vu vs : Value} {n : Nat} {Q : Int × Int × Nat → Shared → Prop} (hn : 0 < n) (hs : s.heap.IsSliceOf sl vl vu vs) (pl : IsPart vl none) (pu : IsPart vu (some 0)) (ps : IsPart vs (some (-1)))
    (h : Q ((n : Int) - 1, -1, n - 1) s) : wpAny (model prog w) A (Builtin.Slice.sliceApplied (.ref sl) (pure (n : Int))) Q E s := by
  obtain ⟨os, hos, hcs, hds⟩ := id hs
  unfold Builtin.Slice.sliceApplied Builtin.Slice.sliceFields
  refine wpAny_bind (wpAny_bind (wpAny_field hos hds (x := vl) rfl (wpAny_bind (wpAny_field hos hds (x := vu) rfl (wpAny_bind (wpAny_field hos hds (x := vs) rfl (wpAny_pure ?_)))))))
  refine wpAny_bind (HT.slicePart_ ps ?_)
  show wpAny _ _ (if ((-1 : Int) == 0) = true then _ else _) _ _ s
  rw [if_neg (by decide)]
  refine wpAny_bind (HT.slicePart_ pl (wpAny_bind (HT.slicePart_ pu (wpAny_bind (wpAny_pure ?_)))))
  show wpAny _ _ (match Builtin.Slice.sliceAdjust none (some 0) (-1) (n : Int) with | (lo, hi) => pure (lo, (-1 : Int), Builtin.Slice.slicePlaces lo hi (-1))) _ _ s
  rw [back_adj hn]
  show wpAny _ _ (pure ((n : Int) - 1, (-1 : Int), Builtin.Slice.slicePlaces ((n : Int) - 1) 0 (-1))) _ _ s
  rw [back_places hn]
  exact wpAny_pure h
theorem back_get {t sl : Addr} {xs : List Value} {vl vu vs : Value} {Q : Value → Shared → Prop} (ht : IsTup s.heap t xs.toArray) (hn : 0 < xs.length) (hs : s.heap.IsSliceOf sl vl vu vs) (pl : IsPart vl none) (pu : IsPart vu (some 0)) (ps : IsPart vs (some (-1)))
    (hsz : xs.length ≤ sizeLine) (h : Q (.ref s.heap.objs.size) { s with heap := s.heap.push { cls := .type "tuple", data := .seq (xs.drop 1).reverse.toArray } }) : wpAny (model prog w) A (getItem (.ref t) (.ref sl)) Q E s := by
  have fits : sizeOk (.seq (xs.drop 1).reverse.toArray) := by
    show (xs.drop 1).reverse.toArray.size ≤ sizeLine
    simp
    omega
  obtain ⟨os, hos, hcs, hds⟩ := id hs
  have isS : s.TypeIs (.ref sl) "slice" := ⟨os, hos, hcs⟩
  unfold getItem
  try with_reducible refine wpAny_holding ?_
  first | refine wpAny_bind (wpAny_pure ?_) | skip
  refine wpAny_bind (wpAny_sequenceKey ht.typeIs (by decide) ?_)
  refine wpAny_bind (wpAny_callSpecial?_slot (name := Str.ofString "__getitem__") ht.typeIs PyProof.Rows.slot_tuple_getitem (wpAny_call_entry PyProof.Rows.slot_tuple_getitem ht.typeIs entry_tuple_getitem ?_ (args_tuple_getitem _ _)))
  show wpAny _ _ (Builtin.Tuple.tupleItemsOf (.ref t) >>= _) _ _ s
  refine wpAny_bind (tupleItemsOf_ ht ?_)
  refine wpAny_bind (wpAny_typeOf isS ?_)
  rw [if_pos (by decide)]
  have sz : xs.toArray.size = xs.length := by simp
  rw [sz]
  refine wpAny_bind (back_applied hn hs pl pu ps ?_)
  show wpAny _ _ (if (((xs.length : Int) - 1) == 0 && (-1 : Int) == 1 && (xs.length - 1) == xs.length) = true then _ else _) _ _ s
  rw [if_neg (by simp), back_pick xs hn]
  first
    | exact wpAny_bind (m := Builtin.Tuple.tupleExact _) (wpAny_newObj_type (wpAny_pure ⟨_, rfl, wpAny_pure h⟩) fits)
    | exact wpAny_bind (m := Builtin.Tuple.tupleExact _) (wpAny_newObj_type (wpAny_bind (wpAny_pure (wpAny_pure ⟨_, rfl, wpAny_pure h⟩))) fits)
    | exact wpAny_bind (wpAny_bind (m := Builtin.Tuple.tupleExact _) (wpAny_newObj_type (wpAny_pure (wpAny_pure ⟨_, rfl, wpAny_pure h⟩)) fits))
    | exact wpAny_bind (wpAny_bind (m := Builtin.Tuple.tupleExact _) (wpAny_newObj_type (wpAny_pure ⟨_, rfl, wpAny_pure h⟩) fits))
end
def tBack (K : PySem.W.Frag) (te : TE) : TE := fun σ H Q => te σ H fun x H1 => ∃ a xs, x = .ref a ∧ SqT K H1 a xs ∧ 0 < xs.length ∧ ∀ p, H1 p = none → Q (.ref p) (upd H1 p (.tup (xs.drop 1).reverse))
section
variable {X : Cx}
theorem pe_back {e : Expr} {te : TE} {k0 k : Nat} {p0 p1 p2 p3 pos : Pos} (he : PE X e te) : PE X (.Subscript e (.Slice none (some (.Constant (.int 0) k0 p0)) (some (.UnaryOp .USub (.Constant (.int 1) k p1) p2)) p3) pos) (tBack X.K te) := by
  refine ⟨fun pins s σ H Q I h => ?_⟩
  refine Subscript_ (thn (he.run pins s σ H _ I h) fun v s1 ⟨x, H1, I1, r1, q1⟩ => ?_)
  obtain ⟨a, xs, ex, hx, hne, q⟩ := q1
  subst ex
  cases r1
  have hst : PO X (some (.UnaryOp .USub (.Constant (.int 1) k p1) p2)) (tPart (tUn (rU fun i => .int (-i)) (tC (.int 1)))) := po_some (pe_un un_neg pe_int)
  have hup : PO X (some (.Constant (.int 0) k0 p0)) (tPart (tC (.int 0))) := po_some pe_int
  refine wpAny_Slice (thn (po_none.run pins s1 σ H1 (fun o H2 => o = none ∧ H2 = H1) I1 ⟨rfl, rfl⟩) fun vl s2 ⟨l, H2, I2, pl, el, e2⟩ => ?_)
  subst el e2
  refine thn (hup.run pins s2 σ H2 (fun o H3 => o = some 0 ∧ H3 = H2) I2 ⟨0, rfl, rfl, rfl⟩) fun vu s3 ⟨u, H3, I3, pu, eu, e3⟩ => ?_
  subst eu e3
  refine thn (hst.run pins s3 σ H3 (fun o H4 => o = some (-1) ∧ H4 = H3) I3 ⟨1, rfl, -1, rfl, rfl, rfl⟩) fun vs s4 ⟨o, H4, I4, ps, eo, e4⟩ => ?_
  subst eo e4
  have I5 : Inv X pins σ H4 { s4 with heap := s4.heap.push { cls := .type "slice", data := .fields #[vl, vu, vs] } } := I4.kept (t' := s4.toks) fun b ob q => Heap.get?_push_of_some _ q
  obtain ⟨its, r, ht, hz⟩ := I5.tuple hx
  have hlen := r.length
  show wpAny (model X.prog X.w) X.A (subscriptTail e (.Slice none (some (.Constant (.int 0) k0 p0)) (some (.UnaryOp .USub (.Constant (.int 1) k p1) p2)) p3) (.ref a) (.ref s4.heap.objs.size)) (EP X pins σ Q) X.xe { s4 with heap := s4.heap.push { cls := .type "slice", data := .fields #[vl, vu, vs] } }
  refine tail_any (ops := [.ref a, .ref s4.heap.objs.size]) ht.typeIs (PyProof.Rows.slot_tuple_getitem.lookup) ?_ (by with_unfolding_all rfl)
  refine back_get ht (by omega) (Heap.IsSliceOf.new _ vl vu vs) pl pu ps (by omega) ?_
  refine ⟨.ref _, _, I5.laid (t' := s4.toks) (o := .tup (xs.drop 1).reverse) (fun b ob q => Heap.get?_push_of_some _ q) (Nat.le_refl _) ?_, rfl, q _ (I5.hok.fresh (Nat.le_refl _))⟩
  exact ⟨by rw [List.length_reverse, List.length_drop]; omega, _, (r.drop 1).reverse, IsTup.new _ _⟩
end
theorem ext_tup (l : Addr) (xs : Array Value) (n : Nat) (b : Addr) (ys : Array Value) (m : Nat) (dd : Option Addr) (sl : Array (Option Value)) (h0 : ¬ (!xs.isEmpty && Builtin.List.listTooLong (xs.size + ys.size)) = true) (h1 : xs.size ≤ sizeLine) (h2 : xs.size + ys.size ≤ sizeLine + 1) :
    Meets (Builtin.«list.extend» ⟨[.ref l, .ref b], []⟩) (fun _ R s => s.heap.get? l = some { cls := .type "list", dict := none, data := .seq xs n, slots := #[] } ∧ s.heap.get? b = some { cls := .type "tuple", dict := dd, data := .seq ys m, slots := sl } ∧
      R (.ok (.ret Value.none)) { s with heap := s.heap.update l (Obj.mapSeq fun x => x ++ ys), toks := s.toks }) :=
  .of_wp fun prog w A R s h => by
    obtain ⟨hp, g, d, tk, os⟩ := s
    obtain ⟨hl, hb, h⟩ := h
    have f1 := AutoSeq1.idx_int
    have f2 := AutoSeq1.sub_tuple_tuple
    have f3 := AutoSeq1.sub_list_list
    have f4 := AutoSeq1.sub_tuple_list
    have f5 := AutoSeq1.sub_list_tuple
    have hz' : (xs ++ ys).size ≤ sizeLine + 1 := by rw [Array.size_append]; exact h2
    wp_walk using (wpAny_updateSeq hl rfl (hz := h1) (_hz' := hz')), AutoSeq1.wpAny_loadPart' hl, AutoSeq1.wpAny_loadPart' hb
    exact ⟨_, rfl, h⟩
def rExtT (K : PySem.W.Frag) : V → List V → Hp → VK → Prop := fun x vs H Q => ∃ l b xs zs, x = .ref l ∧ vs = [.ref b] ∧ H l = some (.lst xs) ∧ SqT K H b zs ∧ xs.length + zs.length ≤ sizeLine ∧ Q .non (upd H l (.lst (xs ++ zs)))
theorem mt_extT {X : Cx} : MtM X "list.extend" (rExtT X.K) := by
  intro pins s σ H x vs v us Q I rx rv h
  obtain ⟨l, b, xs, zs, rfl, rfl, hH, hB, hz, q⟩ := h
  cases rx
  obtain ⟨u, rfl, ru⟩ := rv.one
  cases ru
  obtain ⟨z, its, n, r, hl, e⟩ := I.lstM hH
  obtain ⟨its2, r2, ⟨⟨cls, dd, data, sl⟩, ho, hc, m, hd⟩, hs⟩ := I.tuple hB
  simp only at hc hd
  subst hc hd
  have l2 := r2.length
  have hsz : its.toArray.size + its2.toArray.size ≤ sizeLine := by rw [List.size_toArray, List.size_toArray]; omega
  refine call_meets F.slot_list_extend ⟨_, e, rfl⟩ F.entry_list_extend (F.args_list_extend_2 _ _) (ext_tup l its.toArray n b its2.toArray m dd sl (by
    rw [notLongL hsz, Bool.and_false]
    simp) (by rw [List.size_toArray]; omega) (by omega)) ⟨e, ho, ?_⟩
  refine ⟨.non, _, I.lset (its' := its ++ its2) hH e (by simp) (r.append r2) ?_, rfl, q⟩
  rw [List.length_append]
  omega
end DL
namespace DL
open PySem PySem.Spec PyProof.Rows L2

variable {K : PySem.W.Frag}
variable {α α' α'' α1 : List Addr} {H H' H'' H1 : Hp} {hd hd' hd1 : Hd} {a p : Addr}
variable {X : Cx}
def plainE : Expr → Bool
  | .Starred _ _ => false
  | .Set _ _ _ => false
  | .Call (.Name id _) [] [] _ => id != "super"
  | _ => true
def noComp : Expr → Bool
  | .ListComp _ _ _ _ => false
  | .SetComp _ _ _ _ => false
  | .DictComp _ _ _ _ _ => false
  | _ => true
def plainT : Expr → Bool
  | .UnaryOp _ _ _ => false
  | .BoolOp _ _ _ => false
  | .IfExp _ _ _ _ => false
  | .Compare _ _ _ _ => false
  | _ => true
theorem star_cons {e : Expr} (h : plainE e = true) (es : List Expr) (env : Env) : starEach (e :: es) env = (false, eval e env) :: starEach es env := by
  cases e <;> first | rfl | (cases h)
theorem behind_no {e : Expr} (h : plainE e = true) (op : CmpOp) : behindInMarks op e = false := by
  cases e <;> first | rfl | (cases h)
theorem folded_no {e : Expr} (h : plainE e = true) (env : Env) (x : Value) : foldedSetIterable e env x = pure x := by
  cases e <;> first | rfl | (cases h)
theorem attr_no {e : Expr} (h : plainE e = true) (name : Str) (env : Env) : attributeBase e name env (eval e env) = eval e env := by
  cases e with
  | Call f as ks pos =>
    cases f with
    | Name id p =>
      cases as with
      | nil =>
        cases ks with
        | nil =>
          have h' : (id != "super") = true := h
          unfold attributeBase
          simp [h']
        | cons _ _ => rfl
      | cons _ _ => rfl
    | _ => rfl
  | _ => rfl
theorem isTrue_pl {e : Expr} (h : plainT e = true) (env : Env) (whole : Sem Value) : isTrue e env whole = (do let v ← whole; standAt e.pos; holding [v] (truthy v)) := by
  cases e <;> first | rfl | (cases h)
theorem swaps_no {e : Expr} (h : noComp e = true) (t : Option Expr) (l : Nat) (env : Env) : swapsWith e t l env = pure false := by
  cases e <;> first | rfl | (cases h)
theorem stars_any {pos : Pos} {env : Env} : ∀ {es : List Expr}, es.all plainE = true → (backTo pos (starEach es env)).any (·.1) = false
  | [], _ => rfl
  | e :: es, h => by
    rw [List.all_cons, Bool.and_eq_true] at h
    rw [star_cons h.1]
    show (false || (backTo pos (starEach es env)).any (·.1)) = false
    rw [stars_any h.2]
    rfl
theorem stars_all {pos : Pos} {env : Env} : ∀ {es : List Expr}, es.all plainE = true → (backTo pos (starEach es env)).all (fun x => !x.1) = true
  | [], _ => rfl
  | e :: es, h => by
    rw [List.all_cons, Bool.and_eq_true] at h
    rw [star_cons h.1]
    show (true && (backTo pos (starEach es env)).all (fun x => !x.1)) = true
    rw [stars_all h.2]
    rfl
structure EOk (X : Cx) (f : FV) (e : Expr) : Prop where
  pe : PE X e (TV X.K f)
  pl : plainE e = true
abbrev truthF (f : FV) : FB := fun σ h => (f σ h).bind fun w h => R.ofO (w.truth h) h
theorem TV.mono_iff {e : Expr} {t t' : TE} (h : PE X e t) (k : ∀ σ H Q, t' σ H Q → t σ H Q) : PE X e t' := ⟨fun pins s σ H Q I q => h.run pins s σ H Q I (k σ H Q q)⟩
theorem PT.weak {e : Expr} {t t' : TT} (h : PT X e t) (k : ∀ σ H Q, t' σ H Q → t σ H Q) : PT X e t' := ⟨fun pins s σ H Q I q => h.run pins s σ H Q I (k σ H Q q)⟩
theorem PW.weak {e : Expr} {t t' : TT} (h : PW X e t) (k : ∀ σ H Q, t' σ H Q → t σ H Q) : PW X e t' := ⟨fun wh pins s σ H Q I q => h.run wh pins s σ H Q I (k σ H Q q)⟩
theorem PA.weak {es : List Expr} {t t' : TA} (h : PA X es t) (k : ∀ σ H Q, t' σ H Q → t σ H Q) : PA X es t' := ⟨fun pos pins s σ H Q I q => h.run pos pins s σ H Q I (k σ H Q q)⟩
theorem PS.weak {st : Stmt} {t t' : TS} (h : PS X st t) (k : ∀ D σ H, t' D σ H → t D σ H) : PS X st t' := ⟨fun pins s σ H D I q => h.run pins s σ H D I (k D σ H q)⟩
theorem PSs.weak {st : List Stmt} {t t' : TS} (h : PSs X st t) (k : ∀ D σ H, t' D σ H → t D σ H) : PSs X st t' := ⟨fun pins s σ H D I q => h.run pins s σ H D I (k D σ H q)⟩
theorem t_val {f : FV} {e : Expr} (h : PE X e (TV X.K f)) (hp : plainT e = true) : PT X e (TB X.K (truthF f)) := by
  refine PT.weak (pt_truth h fun whole => isTrue_pl hp X.env whole) fun σ H Q q => ?_
  obtain ⟨α, σd, hd, R, S, q⟩ := q
  have q : PoB X.K α H ((f σd hd).bind fun w h => DL.R.ofO (w.truth h) h) Q := q
  refine TV.seq R S q.ok fun x hd1 α1 H1 v1 e g R1 S1 r n => ?_
  rw [e] at q
  obtain ⟨b, e1, q⟩ := ofO_B R1 (q.from g)
  exact ⟨b, tru_at R1 r e1, q⟩
def vVar (i : Nat) : FV := fun σ h => match σ[i]? with
  | some (some d) => .ok (.v d) h
  | _ => .no
theorem e_var {i : Nat} {x : Str} {pos : Pos} (hN : X.N[i]? = some x) (hv : Vis X.env.scope x) (hd : (x == ("__debug__" : Str)) = false) (hcd : (x == ("__classdict__" : Str)) = false) : EOk X (vVar i) (.Name x pos) := by
  refine ⟨TV.mono_iff (pe_var hN hv hd hcd) fun σ H Q q => ?_, rfl⟩
  obtain ⟨α, σd, hd, R, S, q⟩ := q
  simp only [vVar] at q
  split at q
  · rename_i d e
    obtain ⟨v, e2, r⟩ := S.ix i d e
    exact ⟨v, e2, q.old R r⟩
  · exact q.elim
def vC (d : D) : FV := fun _ h => .ok (.v d) h
theorem tC_of {d : D} {v : V} (hr : ∀ α H, RelD K α H d v) {σ : L2.St} {Q : VK} (q : TV K (vC d) σ H Q) : tC v σ H Q := by
  obtain ⟨α, σd, hd, R, S, q⟩ := q
  exact PoW.old (d := d) R (hr _ _) q
theorem e_non {k : Nat} {pos : Pos} : EOk X (vC .non) (.Constant .none k pos) := ⟨TV.mono_iff pe_non fun σ H Q q => tC_of (d := .non) (fun _ _ => rfl) q, rfl⟩
theorem e_bl {b : Bool} {k : Nat} {pos : Pos} : EOk X (vC (.bl b)) (.Constant (.bool b) k pos) := ⟨TV.mono_iff pe_bl fun σ H Q q => tC_of (d := .bl b) (fun _ _ => rfl) q, rfl⟩
theorem e_int {i : Int} {k : Nat} {pos : Pos} : EOk X (vC (.int i)) (.Constant (.int i) k pos) := ⟨TV.mono_iff pe_int fun σ H Q q => tC_of (d := .int i) (fun _ _ => rfl) q, rfl⟩
theorem e_str {s : List Nat} {k : Nat} {pos : Pos} : EOk X (vC (.str s)) (.Constant (.str (mkS s)) k pos) := ⟨TV.mono_iff pe_str fun σ H Q q => tC_of (d := .str s) (fun _ _ => rfl) q, rfl⟩
theorem e_glb {x : Str} {d : D} {v : V} {u : Value} {pos : Pos} (hg : Gl X x) (hm : X.mg x = some u) (r : RelV v u) (rd : ∀ α H, RelD X.K α H d v) (hd : (x == ("__debug__" : Str)) = false) : EOk X (vC d) (.Name x pos) :=
  ⟨TV.mono_iff (pe_glob hg hm r hd) fun σ H Q q => tC_of rd q, rfl⟩

def vSeq : List FV → FL
  | [] => fun _ h => .ok [] h
  | f :: fs => fun σ h => (f σ h).bind fun w h => (w.settle h).bind fun d h => (vSeq fs σ h).bind fun ds h => .ok (d :: ds) h
inductive EsOk (X : Cx) : List FV → List Expr → Prop
  | nil : EsOk X [] []
  | cons {f : FV} {fs : List FV} {e : Expr} {es : List Expr} : EOk X f e → EsOk X fs es → EsOk X (f :: fs) (e :: es)
theorem EsOk.plain : ∀ {fs : List FV} {es : List Expr}, EsOk X fs es → es.all plainE = true
  | _, _, .nil => rfl
  | _, _, .cons h t => by rw [List.all_cons, h.pl, t.plain]; rfl
theorem settled {w : W} {v : V} (g : Gr α H α' H') (R' : Rl K α' hd' H') (r : RelW K α' H' w v) (n : NewW H w v) :
    ∃ d hd2 α2, w.settle hd' = .ok d hd2 ∧ Gr α H α2 H' ∧ Rl K α2 hd2 H' ∧ RelD K α2 H' d v ∧ (∀ {σd : Sd} {σ : L2.St}, RelS K α' H' σd σ → RelS K α2 H' σd σ) := by
  cases w with
  | v d => exact ⟨d, hd', α', rfl, g, R', r, fun h => h⟩
  | l xs =>
    obtain ⟨a, vs, rfl, ha, hn, hx⟩ := r
    refine ⟨_, _, α' ++ [a], rfl, g.join (n a rfl) hn, R'.join hn ⟨vs, ha, hx⟩, ⟨a, ?_, rfl⟩, fun h => ⟨h.len, fun i d e => ?_⟩⟩
    · rw [← R'.len]
      simp
    · obtain ⟨v, e1, r⟩ := h.ix i d e
      exact ⟨v, e1, r.mono (fun _ _ e => pre_get e) (fun _ _ q => q) ⟨fun _ _ q => q, fun _ _ q => q⟩ d v⟩
theorem a_seq : ∀ {fs : List FV} {es : List Expr}, EsOk X fs es → PA X es (TL X.K (vSeq fs))
  | _, _, .nil => PA.weak pa_nil fun σ H Q q => by
    obtain ⟨α, σd, hd, R, S, q⟩ := q
    exact q α H [] (Gr.refl _ _) R rfl
  | _, _, .cons (f := f) (fs := fs) h t => PA.weak (pa_cons h.pe (a_seq t) (star_cons h.pl _ _)) fun σ H Q q => by
    obtain ⟨α, σd, hd, R, S, q⟩ := q
    have q : PoL X.K α H ((f σd hd).bind fun w h => (w.settle h).bind fun d h => (vSeq fs σd h).bind fun ds h => .ok (d :: ds) h) Q := q
    refine TV.seq R S q.ok fun x hd1 α1 H1 v1 e g R1 S1 r n => ?_
    rw [e] at q
    obtain ⟨d, hd2, α2, e2, g2, R2, r2, S2⟩ := settled g R1 r n
    rw [e2] at q
    have q : PoL X.K α2 H1 ((vSeq fs σd hd2).bind fun ds h => .ok (d :: ds) h) Q := q.from g2
    refine TL.seq R2 (S2 S1) q.ok fun ds hd3 α3 H3 vs e3 g3 R3 S3 rs => ?_
    rw [e3] at q
    exact q α3 H3 (v1 :: vs) g3 R3 ⟨v1, vs, rfl, r2.gr R2 g3, rs⟩
def vSet (f : FV) : FV := fun σ h => (f σ h).bind fun w h => (w.settle h).bind fun d h => .ok (.v d) h
theorem TV_set {f : FV} {σ : L2.St} {Q : VK} (q : TV K (vSet f) σ H Q) : TV K f σ H Q := by
  obtain ⟨α, σd, hd, R, S, q⟩ := q
  have q : PoW K α H ((f σd hd).bind fun w h => (w.settle h).bind fun d h => .ok (.v d) h) Q := q
  refine TV.seq R S q.ok fun x hd1 α1 H1 v1 e g R1 S1 r n => ?_
  rw [e] at q
  obtain ⟨d, hd2, α2, e2, g2, R2, r2, S2⟩ := settled g R1 r n
  rw [e2] at q
  exact q α2 H1 v1 g2 R2 r2 trivial
theorem e_set {f : FV} {e : Expr} (h : EOk X f e) : EOk X (vSet f) e := ⟨TV.mono_iff h.pe fun _ _ _ q => TV_set q, h.pl⟩
def vTup (fs : List FV) : FV := fun σ h => (vSeq fs σ h).bind fun ds h => if ds.length ≤ sizeLine then .ok (.v (.tup ds)) h else .no
def vLst (fs : List FV) : FV := fun σ h => (vSeq fs σ h).bind fun ds h => if ds.length ≤ sizeLine then .ok (.l ds) h else .no
theorem e_tup {fs : List FV} {es : List Expr} {k : Nat} {pos : Pos} (h : EsOk X fs es) : EOk X (vTup fs) (.Tuple es k pos) := by
  refine ⟨TV.mono_iff (pe_tup (a_seq h)) fun σ H Q q => ?_, rfl⟩
  obtain ⟨α, σd, hd, R, S, q⟩ := q
  have q : PoW X.K α H ((vSeq fs σd hd).bind fun ds h => if ds.length ≤ sizeLine then .ok (.v (.tup ds)) h else .no) Q := q
  refine TL.seq R S q.ok fun ds hd1 α1 H1 vs e g R1 S1 rs => ?_
  rw [e] at q
  split at q
  · rename_i hz
    exact ⟨by rw [rs.length]; exact hz, fun p hp => (q.from g R1).newT R1 rs hp⟩
  · exact q.elim
theorem e_lst {fs : List FV} {es : List Expr} {pos : Pos} (h : EsOk X fs es) : EOk X (vLst fs) (.List es pos) := by
  refine ⟨TV.mono_iff (pe_lst (a_seq h)) fun σ H Q q => ?_, rfl⟩
  obtain ⟨α, σd, hd, R, S, q⟩ := q
  have q : PoW X.K α H ((vSeq fs σd hd).bind fun ds h => if ds.length ≤ sizeLine then .ok (.l ds) h else .no) Q := q
  refine TL.seq R S q.ok fun ds hd1 α1 H1 vs e g R1 S1 rs => ?_
  rw [e] at q
  split at q
  · rename_i hz
    exact ⟨by rw [rs.length]; exact hz, fun p hp => (q.from g R1).newL R1 rs hp⟩
  · exact q.elim
def v2 (f g : FV) (k : W → W → Hd → R W) : FV := fun σ h => (f σ h).bind fun x h => (g σ h).bind fun y h => k x y h
theorem TV_op {f g : FV} {fn : W → W → Hd → Option W} {σ : L2.St} {Q : VK} (q : TV K (v2 f g fun x y h => R.ofO (fn x y h) h) σ H Q) : tOp (rB K fn) (TV K f) (TV K g) σ H Q := by
  obtain ⟨α, σd, hd, R, S, q⟩ := q
  have q : PoW K α H ((f σd hd).bind fun x h => (g σd h).bind fun y h => DL.R.ofO (fn x y h) h) Q := q
  refine TV.seq R S q.ok fun x hd1 α1 H1 v1 e g1 R1 S1 r n => ?_
  rw [e] at q
  have q := q.from g1 R1
  refine TV.seq R1 S1 q.ok fun y hd2 α2 H2 v2 e2 g2 R2 S2 r2 n2 => ?_
  rw [e2] at q
  exact ⟨α2, hd2, x, y, R2, r.gr R1 g2, r2, q.from g2 R2⟩
abbrev vBin (op : Operator) (f g : FV) : FV := v2 f g fun x y h => R.ofO (binop op x y h) h
theorem e_bin {op : Operator} {f g : FV} {a b : Expr} {pos : Pos} (ha : EOk X f a) (hb : EOk X g b) : EOk X (vBin op f g) (.BinOp a op b pos) :=
  ⟨TV.mono_iff (pe_op (op_bin op) ha.pe hb.pe) fun _ _ _ q => TV_op q, rfl⟩
def vNeg (f : FV) : FV := fun σ h => (f σ h).bind fun x h => R.ofO (unop .USub x) h
theorem e_neg {f : FV} {a : Expr} {pos : Pos} (ha : EOk X f a) : EOk X (vNeg f) (.UnaryOp .USub a pos) := by
  refine ⟨TV.mono_iff (pe_un un_neg' ha.pe) fun σ H Q q => ?_, rfl⟩
  obtain ⟨α, σd, hd, R, S, q⟩ := q
  have q : PoW X.K α H ((f σd hd).bind fun x h => DL.R.ofO (unop .USub x) h) Q := q
  refine TV.seq R S q.ok fun x hd1 α1 H1 v1 e g1 R1 S1 r n => ?_
  rw [e] at q
  exact ⟨α1, hd1, x, R1, r, q.from g1 R1⟩
abbrev vIx (f g : FV) : FV := v2 f g fun x y h => R.ofO (getIx x y h) h
def noSlice : Expr → Bool
  | .Slice _ _ _ _ => false
  | .Tuple _ _ _ => false
  | _ => true
theorem e_ix (hu : Deep X) {f g : FV} {a b : Expr} {pos : Pos} (ha : EOk X f a) (hb : EOk X g b) (hs : PlainIx b) : EOk X (vIx f g) (.Subscript a b pos) :=
  ⟨TV.mono_iff (pe_ix (ixW hu) ha.pe hb.pe hs) fun _ _ _ q => TV_op q, rfl⟩
def partF (f : Option FV) : Sd → Hd → R (Option Int) := match f with
  | none => fun _ h => .ok none h
  | some f => fun σ h => (f σ h).bind fun w h => match w with
    | .v (.int i) => .ok (some i) h
    | _ => .no
def vSl (f : FV) (lo hi : Option FV) : FV := fun σ h => (f σ h).bind fun x h => (partF lo σ h).bind fun l h => (partF hi σ h).bind fun u h => R.ofO (getSl x l u h) h
def PoO (K : PySem.W.Frag) (α : List Addr) (H : Hp) (r : R (Option Int)) (Q : Option Int → Hp → Prop) : Prop := match r with
  | .ok b hd' => ∀ α' H', Gr α H α' H' → Rl K α' hd' H' → Q b H'
  | _ => False
def TO' (K : PySem.W.Frag) (f : Sd → Hd → R (Option Int)) : TO := fun σ H Q => ∃ α σd hd, Rl K α hd H ∧ RelS K α H σd σ ∧ PoO K α H (f σd hd) Q
inductive POk (X : Cx) : Option FV → Option Expr → Prop
  | none : POk X none none
  | some {f : FV} {e : Expr} : EOk X f e → POk X (some f) (some e)
theorem p_part {f : Option FV} {e : Option Expr} (h : POk X f e) : PO X e (TO' X.K (partF f)) := by
  cases h with
  | none =>
    refine ⟨fun pins s σ H Q I q => po_none.run pins s σ H Q I ?_⟩
    obtain ⟨α, σd, hd, R, S, q⟩ := q
    exact q α H (Gr.refl _ _) R
  | @some f e h =>
    refine ⟨fun pins s σ H Q I q => (po_some h.pe).run pins s σ H Q I ?_⟩
    obtain ⟨α, σd, hd, R, S, q⟩ := q
    have q : PoO X.K α H ((f σd hd).bind fun w h => match w with
      | .v (.int i) => .ok (some i) h
      | _ => .no) Q := q
    have ok : ∃ b h', ((f σd hd).bind fun w h => match w with
      | .v (.int i) => DL.R.ok (some i) h
      | _ => .no) = .ok b h' := by
      cases e : ((f σd hd).bind fun w h => match w with
      | .v (.int i) => DL.R.ok (some i) h
      | _ => .no) with
      | ok b h' => exact ⟨b, h', rfl⟩
      | ex => rw [e] at q; exact q.elim
      | no => rw [e] at q; exact q.elim
    refine TV.seq R S ok fun x hd1 α1 H1 v1 e g1 R1 S1 r n => ?_
    rw [e] at q
    cases x with
    | l xs => exact q.elim
    | v d =>
      cases d with
      | int i => exact ⟨i, r, q α1 H1 g1 R1⟩
      | _ => exact q.elim
theorem TO.seq {B : Type} {f : Sd → Hd → R (Option Int)} {k : Option Int → Hd → R B} {σd : Sd} {σ : L2.St} {C : Option Int → Hp → Prop} (R : Rl K α hd H) (S : RelS K α H σd σ)
    (ok : ∃ b h, (f σd hd).bind k = .ok b h)
    (cont : ∀ x hd1 α1 H1, (f σd hd).bind k = k x hd1 → Gr α H α1 H1 → Rl K α1 hd1 H1 → RelS K α1 H1 σd σ → C x H1) : TO' K f σ H C := by
  refine ⟨α, σd, hd, R, S, ?_⟩
  cases e : f σd hd with
  | ok x hd1 => exact fun α1 H1 g R1 => cont x hd1 α1 H1 (by rw [e]; rfl) g R1 (S.gr R g)
  | ex c fs h => rw [e] at ok; obtain ⟨_, _, z⟩ := ok; cases z
  | no => rw [e] at ok; obtain ⟨_, _, z⟩ := ok; cases z
theorem e_sl {f : FV} {lo hi : Option FV} {a : Expr} {l u : Option Expr} {pos p2 : Pos} (ha : EOk X f a) (hl : POk X lo l) (hh : POk X hi u) : EOk X (vSl f lo hi) (.Subscript a (.Slice l u none p2) pos) := by
  refine ⟨TV.mono_iff (pe_slice slW ha.pe (p_part hl) (p_part hh)) fun σ H Q q => ?_, rfl⟩
  obtain ⟨α, σd, hd, R, S, q⟩ := q
  have q : PoW X.K α H ((f σd hd).bind fun x h => (partF lo σd h).bind fun l h => (partF hi σd h).bind fun u h => DL.R.ofO (getSl x l u h) h) Q := q
  refine TV.seq R S q.ok fun x hd1 α1 H1 v1 e g1 R1 S1 r n => ?_
  rw [e] at q
  have q := q.from g1 R1
  refine TO.seq R1 S1 q.ok fun l hd2 α2 H2 e2 g2 R2 S2 => ?_
  rw [e2] at q
  have q := q.from g2 R2
  refine TO.seq R2 S2 q.ok fun u hd3 α3 H3 e3 g3 R3 S3 => ?_
  rw [e3] at q
  exact ⟨α3, hd3, x, R3, (r.gr R1 g2).gr R2 g3, q.from g3 R3⟩
def vRev (f : FV) : FV := fun σ h => (f σ h).bind fun x h => R.ofO (revSl x h) h
theorem e_rev {f : FV} {a : Expr} {k : Nat} {p1 p2 p3 pos : Pos} (ha : EOk X f a) : EOk X (vRev f) (.Subscript a (.Slice none none (some (.UnaryOp .USub (.Constant (.int 1) k p1) p2)) p3) pos) :=
  ⟨TV.mono_iff (pe_revL ha.pe) fun _ _ _ q => TV_revL q, rfl⟩
def b2 (f g : FV) (k : W → W → Hd → Option Bool) : FB := fun σ h => (f σ h).bind fun x h => (g σ h).bind fun y h => R.ofO (k x y h) h
def blV (f : FB) : FV := fun σ h => (f σ h).bind fun b h => .ok (.v (.bl b)) h
abbrev bCmp (op : CmpOp) (f g : FV) : FB := b2 f g (cmpW op)
theorem PoB.blV {r : R Bool} {Q : VK} (h : PoW K α H (r.bind fun b h => .ok (.v (.bl b)) h) Q) : PoB K α H r fun b H' => Q (.bl b) H' := by
  cases r with
  | ok b hd' => exact fun α' H' g R' => h α' H' (.bl b) g R' rfl trivial
  | ex => exact h.elim
  | no => exact h.elim
theorem TB_op {op : CmpOp} {f g : FV} {σ : L2.St} {Q : VK} (q : TB K (bCmp op f g) σ H fun b H' => Q (.bl b) H') : tOp (rC K op) (TV K f) (TV K g) σ H Q := by
  obtain ⟨α, σd, hd, R, S, q⟩ := q
  have q : PoB K α H ((f σd hd).bind fun x h => (g σd h).bind fun y h => DL.R.ofO (cmpW op x y h) h) (fun b H' => Q (.bl b) H') := q
  refine TV.seq R S q.ok fun x hd1 α1 H1 v1 e g1 R1 S1 r n => ?_
  rw [e] at q
  have q := q.from g1
  refine TV.seq R1 S1 q.ok fun y hd2 α2 H2 v2 e2 g2 R2 S2 r2 n2 => ?_
  rw [e2] at q
  exact ⟨α2, hd2, x, y, R2, r.gr R1 g2, r2, q.from g2⟩
theorem TV_blV {f : FB} {σ : L2.St} {Q : VK} (q : TV K (blV f) σ H Q) : TB K f σ H fun b H' => Q (.bl b) H' := by
  obtain ⟨α, σd, hd, R, S, q⟩ := q
  exact ⟨α, σd, hd, R, S, PoB.blV (r := f σd hd) q⟩
theorem e_cmp (hu : Deep X) {op : CmpOp} {f g : FV} {a b : Expr} {pos : Pos} (ha : EOk X f a) (hb : EOk X g b) : EOk X (blV (bCmp op f g)) (.Compare a [op] [b] pos) :=
  ⟨TV.mono_iff (pe_cmpR (op_cmpW hu op) ha.pe hb.pe (behind_no hb.pl op)) fun _ _ _ q => TB_op (TV_blV q), rfl⟩
theorem t_cmp (hu : Deep X) {op : CmpOp} {f g : FV} {a b : Expr} {pos : Pos} (ha : EOk X f a) (hb : EOk X g b) : PT X (.Compare a [op] [b] pos) (TB X.K (bCmp op f g)) := by
  refine PT.weak (pt_cmpR (op_cmpW hu op) ha.pe hb.pe (behind_no hb.pl op)) fun σ H Q q => ?_
  have : tOp (rC X.K op) (TV X.K f) (TV X.K g) σ H fun x H' => ∃ k, x = V.bl k ∧ Q k H' := by
    refine TB_op ?_
    obtain ⟨α, σd, hd, R, S, q⟩ := q
    refine ⟨α, σd, hd, R, S, ?_⟩
    cases e : bCmp op f g σd hd with
    | ok b hd' =>
      rw [e] at q
      exact fun α' H' g R' => ⟨b, rfl, q α' H' g R'⟩
    | ex => rw [e] at q; exact q.elim
    | no => rw [e] at q; exact q.elim
  exact this
def bNot (f : FB) : FB := fun σ h => (f σ h).bind fun b h => .ok (!b) h
def bAnd (f g : FB) : FB := fun σ h => (f σ h).bind fun b h => if b = true then g σ h else .ok false h
def bOr (f g : FB) : FB := fun σ h => (f σ h).bind fun b h => if b = true then .ok true h else g σ h
theorem t_not {f : FB} {a : Expr} {pos : Pos} (ha : PT X a (TB X.K f)) : PT X (.UnaryOp .Not a pos) (TB X.K (bNot f)) := by
  refine PT.weak (pt_not ha) fun σ H Q q => ?_
  obtain ⟨α, σd, hd, R, S, q⟩ := q
  have q : PoB X.K α H ((f σd hd).bind fun b h => .ok (!b) h) Q := q
  refine TB.seq R S q.ok fun x hd1 α1 H1 e g R1 S1 => ?_
  rw [e] at q
  exact q α1 H1 g R1
theorem t_and {f g : FB} {a b : Expr} {rest : List Expr} {pos : Pos} (ha : PT X a (TB X.K f)) (hb : PW X (.BoolOp .And (b :: rest) pos) (TB X.K g)) : PW X (.BoolOp .And (a :: b :: rest) pos) (TB X.K (bAnd f g)) := by
  refine PW.weak (pw_and ha hb) fun σ H Q q => ?_
  obtain ⟨α, σd, hd, R, S, q⟩ := q
  have q : PoB X.K α H ((f σd hd).bind fun b h => if b = true then g σd h else .ok false h) Q := q
  refine TB.seq R S q.ok fun x hd1 α1 H1 e g1 R1 S1 => ?_
  rw [e] at q
  have q := q.from g1
  cases x with
  | true => exact ⟨α1, σd, hd1, R1, S1, q⟩
  | false => exact q.old R1
theorem t_or {f g : FB} {a b : Expr} {rest : List Expr} {pos : Pos} (ha : PT X a (TB X.K f)) (hb : PW X (.BoolOp .Or (b :: rest) pos) (TB X.K g)) : PW X (.BoolOp .Or (a :: b :: rest) pos) (TB X.K (bOr f g)) := by
  refine PW.weak (pw_or ha hb) fun σ H Q q => ?_
  obtain ⟨α, σd, hd, R, S, q⟩ := q
  have q : PoB X.K α H ((f σd hd).bind fun b h => if b = true then .ok true h else g σd h) Q := q
  refine TB.seq R S q.ok fun x hd1 α1 H1 e g1 R1 S1 => ?_
  rw [e] at q
  have q := q.from g1
  cases x with
  | false => exact ⟨α1, σd, hd1, R1, S1, q⟩
  | true => exact q.old R1
def vIf (c : FB) (f g : FV) : FV := fun σ h => (c σ h).bind fun b h => if b = true then f σ h else g σ h
theorem e_if {c : FB} {f g : FV} {t a b : Expr} {pos : Pos} (hc : PT X t (TB X.K c)) (ha : EOk X f a) (hb : EOk X g b) : EOk X (vIf c f g) (.IfExp t a b pos) := by
  refine ⟨TV.mono_iff (pe_ifExp hc ha.pe hb.pe) fun σ H Q q => ?_, rfl⟩
  obtain ⟨α, σd, hd, R, S, q⟩ := q
  have q : PoW X.K α H ((c σd hd).bind fun b h => if b = true then f σd h else g σd h) Q := q
  refine TB.seq R S q.ok fun x hd1 α1 H1 e g1 R1 S1 => ?_
  rw [e] at q
  have q := q.from g1 R1
  cases x with
  | true => exact ⟨α1, σd, hd1, R1, S1, q⟩
  | false => exact ⟨α1, σd, hd1, R1, S1, q⟩
def vNot (f : FV) : FV := fun σ h => (f σ h).bind fun w h => R.ofO ((w.truth h).map fun b => .v (.bl !b)) h
def vAnd (f g : FV) : FV := fun σ h => (f σ h).bind fun w h => (R.ofO (w.truth h) h).bind fun b h => if b = true then g σ h else .ok w h
def vOr (f g : FV) : FV := fun σ h => (f σ h).bind fun w h => (R.ofO (w.truth h) h).bind fun b h => if b = true then .ok w h else g σ h
theorem e_not {f : FV} {a : Expr} {pos : Pos} (ha : EOk X f a) : EOk X (vNot f) (.UnaryOp .Not a pos) := by
  refine ⟨TV.mono_iff (pe_notT ha.pe) fun σ H Q q => ?_, rfl⟩
  obtain ⟨α, σd, hd, R, S, q⟩ := q
  have q : PoW X.K α H ((f σd hd).bind fun w h => DL.R.ofO ((w.truth h).map fun b => .v (.bl !b)) h) Q := q
  refine TV.seq R S q.ok fun x hd1 α1 H1 v1 e g1 R1 S1 r n => ?_
  rw [e] at q
  obtain ⟨w, e1, q⟩ := ofO_W (q.from g1 R1)
  obtain ⟨b, e2, rfl⟩ := Option.map_eq_some_iff.mp e1
  exact ⟨b, tru_at R1 r e2, q.old (d := .bl !b) R1 rfl⟩
theorem PoW.same {w : W} {v : V} {Q : V → Hp → Prop} (h : PoW K α H (.ok w hd1) Q) (g : Gr α H α1 H1) (R1 : Rl K α1 hd1 H1) (r : RelW K α1 H1 w v) (n : NewW H w v) : Q v H1 := h α1 H1 v g R1 r n
theorem e_and {f g : FV} {a b : Expr} {rest : List Expr} {pos : Pos} (ha : EOk X f a) (hb : EOk X g (.BoolOp .And (b :: rest) pos)) : EOk X (vAnd f g) (.BoolOp .And (a :: b :: rest) pos) := by
  refine ⟨TV.mono_iff (pe_andT ha.pe hb.pe) fun σ H Q q => ?_, rfl⟩
  obtain ⟨α, σd, hd, R, S, q⟩ := q
  have q : PoW X.K α H ((f σd hd).bind fun w h => (DL.R.ofO (w.truth h) h).bind fun b h => if b = true then g σd h else .ok w h) Q := q
  refine TV.seq R S q.ok fun x hd1 α1 H1 v1 e g1 R1 S1 r n => ?_
  rw [e] at q
  cases e1 : x.truth hd1 with
  | none => rw [e1] at q; exact q.elim
  | some b =>
    rw [e1] at q
    refine ⟨b, tru_at R1 r e1, ?_⟩
    cases b with
    | true => exact ⟨α1, σd, hd1, R1, S1, q.from g1 R1⟩
    | false => exact q.same g1 R1 r n
theorem e_or {f g : FV} {a b : Expr} {rest : List Expr} {pos : Pos} (ha : EOk X f a) (hb : EOk X g (.BoolOp .Or (b :: rest) pos)) : EOk X (vOr f g) (.BoolOp .Or (a :: b :: rest) pos) := by
  refine ⟨TV.mono_iff (pe_orT ha.pe hb.pe) fun σ H Q q => ?_, rfl⟩
  obtain ⟨α, σd, hd, R, S, q⟩ := q
  have q : PoW X.K α H ((f σd hd).bind fun w h => (DL.R.ofO (w.truth h) h).bind fun b h => if b = true then .ok w h else g σd h) Q := q
  refine TV.seq R S q.ok fun x hd1 α1 H1 v1 e g1 R1 S1 r n => ?_
  rw [e] at q
  cases e1 : x.truth hd1 with
  | none => rw [e1] at q; exact q.elim
  | some b =>
    rw [e1] at q
    refine ⟨b, tru_at R1 r e1, ?_⟩
    cases b with
    | false => exact ⟨α1, σd, hd1, R1, S1, q.from g1 R1⟩
    | true => exact q.same g1 R1 r n
theorem e_one {op : BoolOp} {f : FV} {a : Expr} {pos : Pos} (ha : EOk X f a) : EOk X f (.BoolOp op [a] pos) := ⟨pe_one ha.pe, rfl⟩
end DL
namespace DL
open PySem PySem.Spec PyProof.Rows L2

variable {K : PySem.W.Frag}
variable {α α' α'' α1 : List Addr} {H H' H'' H1 : Hp} {hd hd' hd1 : Hd} {a p : Addr}
variable {X : Cx}
def v1 (f : FV) (k : W → Hd → R W) : FV := fun σ h => (f σ h).bind fun x h => k x h
abbrev vB1 (fn : W → Hd → Option W) (f : FV) : FV := v1 f fun x h => R.ofO (fn x h) h
theorem TV_b1 {f : FV} {fn : W → Hd → Option W} {σ : L2.St} {Q : VK} (q : TV K (vB1 fn f) σ H Q) : tCB (r1 K fn) (tCons (TV K f) tNil) σ H Q := by
  obtain ⟨α, σd, hd, R, S, q⟩ := q
  have q : PoW K α H ((f σd hd).bind fun x h => DL.R.ofO (fn x h) h) Q := q
  refine TV.seq R S q.ok fun x hd1 α1 H1 v1 e g1 R1 S1 r n => ?_
  rw [e] at q
  exact ⟨α1, hd1, x, v1, rfl, R1, r, q.from g1 R1⟩
theorem e_callB {id : String} {x : Str} {f : FV} {fn : W → Hd → Option W} {e : Expr} {p pos : Pos} (hc : CallR X (.builtin id) (r1 X.K fn)) (hg : Gl X x) (hm : X.mg x = none) (hv : bootBuiltins x = some (.builtin id))
    (hn : x ≠ "__name__") (hdb : (x == ("__debug__" : Str)) = false) (he : EOk X f e) : EOk X (vB1 fn f) (.Call (.Name x p) [e] [] pos) := by
  have pl : [e].all plainE = true := by rw [List.all_cons, he.pl]; rfl
  exact ⟨TV.mono_iff (pe_callB hc hg hm hv (pa_cons he.pe pa_nil (star_cons he.pl _ _)) hn hdb (star_cons he.pl _ _) (stars_any (es := []) rfl)) fun _ _ _ q => TV_b1 q, rfl⟩
theorem e_callT {T : String} {x : Str} {f : FV} {fn : W → Hd → Option W} {e : Expr} {p pos : Pos} (hc : CallR X (.type T) (r1 X.K fn)) (hg : Gl X x) (hm : X.mg x = none) (hv : bootBuiltins x = some (.type T))
    (hn : x ≠ "__name__") (hdb : (x == ("__debug__" : Str)) = false) (he : EOk X f e) : EOk X (vB1 fn f) (.Call (.Name x p) [e] [] pos) :=
  ⟨TV.mono_iff (pe_callTy hc hg hm hv (pa_cons he.pe pa_nil (star_cons he.pl _ _)) hn hdb (star_cons he.pl _ _) (stars_any (es := []) rfl)) fun _ _ _ q => TV_b1 q, rfl⟩
abbrev vB2 (fn : W → W → Option W) (f g : FV) : FV := v2 f g fun x y h => R.ofO (fn x y) h
theorem e_callB2 {id : String} {x : Str} {f g : FV} {fn : W → W → Option W} {e e' : Expr} {p pos : Pos} (hc : CallR X (.builtin id) (r2 X.K fn)) (hg : Gl X x) (hm : X.mg x = none) (hv : bootBuiltins x = some (.builtin id))
    (hn : x ≠ "__name__") (hdb : (x == ("__debug__" : Str)) = false) (he : EOk X f e) (he' : EOk X g e') : EOk X (vB2 fn f g) (.Call (.Name x p) [e, e'] [] pos) := by
  refine ⟨TV.mono_iff (pe_callB hc hg hm hv (pa_cons he.pe (pa_cons he'.pe pa_nil (star_cons he'.pl _ _)) (star_cons he.pl _ _)) hn hdb (star_cons he.pl _ _) (stars_any (es := [e']) (by rw [List.all_cons, he'.pl]; rfl))) fun σ H Q q => ?_, rfl⟩
  obtain ⟨α, σd, hd, R, S, q⟩ := q
  have q : PoW X.K α H ((f σd hd).bind fun x h => (g σd h).bind fun y h => DL.R.ofO (fn x y) h) Q := q
  refine TV.seq R S q.ok fun x hd1 α1 H1 v1 e g1 R1 S1 r n => ?_
  rw [e] at q
  have q := q.from g1 R1
  refine TV.seq R1 S1 q.ok fun y hd2 α2 H2 v2 e2 g2 R2 S2 r2 n2 => ?_
  rw [e2] at q
  exact ⟨α2, hd2, x, y, v1, v2, rfl, R2, r.gr R1 g2, r2, q.from g2 R2⟩
theorem kit_bool (t : Ty) : kitB "bool" t.nm = some (t == .bool || t == .int) := by cases t <;> decide +kernel
theorem kit_int (t : Ty) : kitB "int" t.nm = some (t == .int) := by cases t <;> decide +kernel
theorem kit_str (t : Ty) : kitB "str" t.nm = some (t == .str) := by cases t <;> decide +kernel
theorem kit_tuple (t : Ty) : kitB "tuple" t.nm = some (t == .tuple) := by cases t <;> decide +kernel
theorem kit_list (t : Ty) : kitB "list" t.nm = some (t == .list) := by cases t <;> decide +kernel
theorem kit_dict (t : Ty) : kitB "dict" t.nm = some (t == .dict) := by cases t <;> decide +kernel
theorem kit_none (t : Ty) : kitB "NoneType" t.nm = some false := by cases t <;> decide +kernel
theorem ty_at {t : Ty} {w : W} {x : V} {b : Bool} (R : Rl K α hd H) (r : RelW K α H w x) (h : isTy t w hd = some b) : ∃ T, TyX K H x (.type T) ∧ kitB T t.nm = some b := by
  cases w with
  | l xs =>
    cases h
    obtain ⟨a, vs, rfl, ha, _⟩ := r
    exact ⟨_, .base (.lst ha), kit_list t⟩
  | v d =>
    cases d with
    | non => cases h; cases (show x = V.non from r); exact ⟨_, .base .non, kit_none t⟩
    | bl b => cases h; cases (show x = V.bl b from r); exact ⟨_, .base (.bl b), kit_bool t⟩
    | int i => cases h; cases (show x = V.int i from r); exact ⟨_, .base (.int i), kit_int t⟩
    | str s => cases h; cases (show x = V.str (mkS s) from r); exact ⟨_, .base (.str _), kit_str t⟩
    | tup xs => cases h; obtain ⟨a, vs, rfl, ha, _⟩ := r; exact ⟨_, .base (.tup ha), kit_tuple t⟩
    | ro xs =>
      cases h
      obtain ⟨a, vs, rfl, hr, _⟩ := r
      rcases hr with ⟨o, hr⟩ | ⟨o, its, n, hk, hc, _⟩
      · exact ⟨_, .base (.frz hr), kit_list t⟩
      · exact ⟨_, .kList hk hc, kit_list t⟩
    | xt xs => cases h
    | obj n =>
      obtain ⟨a, e, rfl⟩ := r
      simp only [isTy] at h
      split at h
      · rename_i xs ho
        cases h
        obtain ⟨vs, e2, _⟩ := R.ob n _ a ho e
        exact ⟨_, .base (.lst e2), kit_list t⟩
      · rename_i xs ho
        cases h
        obtain ⟨vs, e2, _⟩ := R.ob n _ a ho e
        exact ⟨_, .base (.dK e2), kit_dict t⟩
      · rename_i xs ho
        cases h
        obtain ⟨vs, e2, _⟩ := R.ob n _ a ho e
        exact ⟨_, .base (.dT e2), kit_dict t⟩
      · cases h
def bIsi (t : Ty) (f : FV) : FB := fun σ h => (f σ h).bind fun w h => R.ofO (isTy t w h) h
theorem e_isi {t : Ty} {f : FV} {e : Expr} {p p2 pos : Pos} (hg : Gl X "isinstance") (hm : X.mg "isinstance" = none) (hg2 : Gl X (Str.ofString t.nm)) (hm2 : X.mg (Str.ofString t.nm) = none)
    (he : EOk X f e) : EOk X (blV (bIsi t f)) (.Call (.Name "isinstance" p) [e, .Name (Str.ofString t.nm) p2] [] pos) := by
  have hb : PE X (.Name (Str.ofString t.nm) p2) (tC (.ty t.nm)) := by
    cases t <;> exact pe_bltn hg2 hm2 (u := .type _) (by decide +kernel) rfl (by decide) (by decide)
  refine ⟨TV.mono_iff (pe_callB call_isi hg hm (by decide +kernel) (pa_cons he.pe (pa_cons hb pa_nil (star_cons rfl _ _)) (star_cons he.pl _ _)) (by decide) (by decide) (star_cons he.pl _ _) (stars_any (es := [.Name _ _]) rfl)) fun σ H Q q => ?_, rfl⟩
  obtain ⟨α, σd, hd, R, S, q⟩ := TV_blV q
  have q : PoB X.K α H ((f σd hd).bind fun w h => DL.R.ofO (isTy t w h) h) (fun b H' => Q (.bl b) H') := q
  refine TV.seq R S q.ok fun x hd1 α1 H1 v1 e g1 R1 S1 r n => ?_
  rw [e] at q
  obtain ⟨b, e1, q⟩ := ofO_B R1 (q.from g1)
  obtain ⟨T, ty, k⟩ := ty_at R1 r e1
  exact ⟨v1, .ty t.nm, .type T, .type t.nm, b, rfl, .ty _, ty, kit_ty k, q⟩
abbrev Ys := List (Addr × List Str)
def xfs (ns : List Str) (vs : List V) : List (Str × V) := (ns.zip vs).reverse
def PoX (K : PySem.W.Frag) (Y : Ys) (α : List Addr) (H : Hp) (r : R W) (Q : V → Hp → Prop) (E : XK) : Prop := match r with
  | .ok w hd' => PoW K α H (.ok w hd') Q
  | .ex c fs hd' => ∀ α' H' (C : Addr) (ns : List Str) (d : Addr) (vs : List V), Gr α H α' H' → Rl K α' hd' H' → Y[c]? = some (C, ns) → fs.length = ns.length → H' d = some (.xd (xfs ns vs)) → RelDs K α' H' fs vs → E (.ref C) (some d) H'
  | .no => False
theorem PoX.of {Y : Ys} {r : R W} {Q : V → Hp → Prop} {E : XK} (h : PoW K α H r Q) : PoX K Y α H r Q E := by
  cases r with
  | ok w h' => exact h
  | ex => exact h.elim
  | no => exact h.elim
theorem PoX.from {Y : Ys} {r : R W} {Q : V → Hp → Prop} {E : XK} (g : Gr α H α1 H1) (R1 : Rl K α1 hd1 H1) (h : PoX K Y α H r Q E) : PoX K Y α1 H1 r Q E := by
  cases r with
  | ok w h' => exact PoW.from g R1 (r := .ok w h') h
  | ex c fs h' => exact fun α' H' C ns d vs g' R' => h α' H' C ns d vs (g.trans g') R'
  | no => exact h.elim
def spD (K : PySem.W.Frag) (Y : Ys) (n : Nat) (cl : List D → Hd → R W) : Sp := fun vs H Q E => ∃ α hd ds, Rl K α hd H ∧ RelDs K α H ds vs ∧ ds.length = n ∧ PoX K Y α H (cl ds hd) Q E
theorem vSeq_len {σd : Sd} : ∀ {fs : List FV} {hd0 : Hd} {ds : List D} {h' : Hd}, vSeq fs σd hd0 = .ok ds h' → ds.length = fs.length
  | [], hd0, ds, h', e => by cases e; rfl
  | f :: fs, hd0, ds, h', e => by
    have e : ((f σd hd0).bind fun w h => (w.settle h).bind fun d h => (vSeq fs σd h).bind fun ds h => .ok (d :: ds) h) = .ok ds h' := e
    cases e1 : f σd hd0 with
    | ok w h1 =>
      rw [e1] at e
      cases w with
      | v d =>
        simp only [DL.R.bind_ok, settle_v] at e
        cases e2 : vSeq fs σd h1 with
        | ok ds2 h2 => rw [e2] at e; cases e; rw [List.length_cons, List.length_cons, vSeq_len e2]
        | ex => rw [e2] at e; cases e
        | no => rw [e2] at e; cases e
      | l xs =>
        simp only [DL.R.bind_ok, settle_l] at e
        cases e2 : vSeq fs σd (h1 ++ [.lst xs]) with
        | ok ds2 h2 => rw [e2] at e; cases e; rw [List.length_cons, List.length_cons, vSeq_len e2]
        | ex => rw [e2] at e; cases e
        | no => rw [e2] at e; cases e
    | ex => rw [e1] at e; cases e
    | no => rw [e1] at e; cases e
def vCall (cl : List D → Hd → R W) (dds : List D) (fs : List FV) : FV := fun σ h => (vSeq fs σ h).bind fun ds h => cl (ds ++ dds) h
theorem TV_call {Y : Ys} {n : Nat} {cl : List D → Hd → R W} {dds : List D} {dvs : List V} {fs : List FV} {E : XK} {σ : L2.St} {Q : VK} (hn : fs.length + dds.length = n) (hd : ∀ α H, RelDs K α H dds dvs) (q : TV K (vCall cl dds fs) σ H Q) :
    tCall (spD K Y n cl) dvs E (TL K (vSeq fs)) σ H Q := by
  obtain ⟨α, σd, hd0, R, S, q⟩ := q
  have q : PoW K α H ((vSeq fs σd hd0).bind fun ds h => cl (ds ++ dds) h) Q := q
  cases e0 : vSeq fs σd hd0 with
  | ok ds h1 =>
    refine ⟨α, σd, hd0, R, S, ?_⟩
    rw [e0] at q ⊢
    intro α1 H1 vs g1 R1 rs
    exact ⟨α1, h1, ds ++ dds, R1, rs.append (hd _ _), by rw [List.length_append, vSeq_len e0]; exact hn, .of (q.from g1 R1)⟩
  | ex => rw [e0] at q; exact q.elim
  | no => rw [e0] at q; exact q.elim
theorem e_call {Y : Ys} {k n : Nat} {f : Addr} {fd : FuncData} {ps : List Str} {cl : List D → Hd → R W} {dds : List D} {dvs : List V} {ds : List Value} {fs : List FV} {x : Str} {e : Expr} {es : List Expr} {p pos : Pos}
    (F : FnOk X.prog X.w X.K X.mg X.base (L2.CX X.prog X.w) k f fd ps (spD X.K Y n cl)) (hr : Room k X.A) (hg : Gl X x) (hm : X.mg x = some (.ref f)) (hk : PySem.W.keepIn X.K (.ref f) = true) (hb : Binds X.K fd ps ds) (hv : Vals dvs ds)
    (hd : ∀ α H, RelDs X.K α H dds dvs) (hn : fs.length + dds.length = n) (hdb : (x == ("__debug__" : Str)) = false) (h : EsOk X fs (e :: es)) : EOk X (vCall cl dds fs) (.Call (.Name x p) (e :: es) [] pos) := by
  have pl := h.plain
  rw [List.all_cons, Bool.and_eq_true] at pl
  exact ⟨TV.mono_iff (pe_call F hr hg hm hk hb hv passL (a_seq h) hdb (star_cons pl.1 _ _) (stars_any pl.2)) fun _ _ _ q => TV_call hn hd q, rfl⟩
theorem e_call0 {Y : Ys} {k n : Nat} {f : Addr} {fd : FuncData} {ps : List Str} {cl : List D → Hd → R W} {dds : List D} {dvs : List V} {ds : List Value} {x : Str} {p pos : Pos}
    (F : FnOk X.prog X.w X.K X.mg X.base (L2.CX X.prog X.w) k f fd ps (spD X.K Y n cl)) (hr : Room k X.A) (hg : Gl X x) (hm : X.mg x = some (.ref f)) (hk : PySem.W.keepIn X.K (.ref f) = true) (hb : Binds X.K fd ps ds) (hv : Vals dvs ds)
    (hd : ∀ α H, RelDs X.K α H dds dvs) (hn : dds.length = n) (hdb : (x == ("__debug__" : Str)) = false) (hs : (x != "super") = true) : EOk X (vCall cl dds []) (.Call (.Name x p) [] [] pos) := by
  refine ⟨TV.mono_iff (pe_call0 F hr hg hm hk hb hv passL hdb) fun σ H Q q => ?_, hs⟩
  obtain ⟨α, σd, hd0, R, S, q⟩ := q
  exact ⟨α, hd0, dds, R, hd _ _, hn, .of q⟩
theorem PoW.setO {n : Nat} {o : O} {u : HO} {d : D} {v : V} {Q : V → Hp → Prop} {u0 : HO} (R : Rl K α hd H) (hp : α[n]? = some a) (h0 : H a = some u0) (hf : noFz u0 = true) (ho : RelO K α (upd H a u) a o) (r : RelD K α H d v) (h : PoW K α H (.ok (.v d) (hd.set n o)) Q) : Q v (upd H a u) :=
  h α _ v (Gr.set hp h0 hf u) (R.set hp h0 hf ho) (RelD.gr R (Gr.set hp h0 hf u) r) trivial
theorem RelO.newLst {n : Nat} {xs : List D} {vs : List V} {u0 : HO} (R : Rl K α hd H) (hp : α[n]? = some a) (h0 : H a = some u0) (hf : noFz u0 = true) (hx : RelDs K α H xs vs) : RelO K α (upd H a (.lst vs)) a (.lst xs) :=
  ⟨vs, upd_same, hx.gr R (Gr.set hp h0 hf _)⟩
theorem R.okOf {A B : Type} {r : R A} {f : A → Hd → R B} (h : ∃ b h', r.bind f = .ok b h') : ∃ a h', r = .ok a h' := by
  cases r with
  | ok a h' => exact ⟨a, h', rfl⟩
  | ex => obtain ⟨_, _, e⟩ := h; cases e
  | no => obtain ⟨_, _, e⟩ := h; cases e
theorem lst_of {n : Nat} {xs : List D} {x : V} (R : Rl K α hd H) (r : RelW K α H (.v (.obj n)) x) (ho : hd[n]? = some (.lst xs)) : ∃ a vs, α[n]? = some a ∧ x = .ref a ∧ H a = some (.lst vs) ∧ RelDs K α H xs vs := by
  obtain ⟨a, e, ex⟩ := r
  obtain ⟨vs, e2, hx⟩ := R.ob n _ a ho e
  exact ⟨a, vs, e, ex, e2, hx⟩
theorem lastIx (xs : List D) : xs[xs.length - 1]? = xs.getLast? := by rw [List.getLast?_eq_getElem?]
theorem tyL {a : Addr} {vs : List V} (h : H a = some (.lst vs)) : tyV K "list" (.ref a) H := .inl ⟨rfl, _, SqL.of h⟩
def line1 (apos cpos : Pos) : Bool := apos.endLine == cpos.line
theorem few1 {e : Expr} {cpos : Pos} {env : Env} (h : plainE e = true) : ((backTo cpos (starEach [e] env)).all (fun x => !x.1) && (backToKw cpos (keywordEach [] env)).all (fun x => x.1.isSome)
      && decide (([e] : List Expr).length + ([] : List Keyword).length + (if ([] : List Keyword).isEmpty then 0 else 1) < 30)) = true := by
  rw [stars_all (by rw [List.all_cons, h]; rfl)]
  rfl
theorem few2 {e f : Expr} {cpos : Pos} {env : Env} (h : plainE e = true) (h' : plainE f = true) : ((backTo cpos (starEach [e, f] env)).all (fun x => !x.1) && (backToKw cpos (keywordEach [] env)).all (fun x => x.1.isSome)
      && decide (([e, f] : List Expr).length + ([] : List Keyword).length + (if ([] : List Keyword).isEmpty then 0 else 1) < 30)) = true := by
  rw [stars_all (by rw [List.all_cons, List.all_cons, h, h']; rfl)]
  rfl
theorem m1_of {o e : Expr} {m : Str} {apos cpos : Pos} (ho : plainE o = true) (he : plainE e = true) (hl : line1 apos cpos = true) : L2.M1 X o m apos e cpos :=
  ⟨attr_no ho _ _, few1 he, hl, by rw [star_cons he]; rfl⟩
theorem m2_of {o e f : Expr} {m : Str} {apos cpos : Pos} (ho : plainE o = true) (he : plainE e = true) (hf : plainE f = true) (hl : line1 apos cpos = true) : L2.M2 X o m apos e f cpos :=
  ⟨attr_no ho _ _, few2 he hf, hl, by rw [star_cons he, star_cons hf]; rfl⟩
theorem e_pop0 {f : FV} {o : Expr} {apos cpos : Pos} (ho : EOk X f o) (hl : line1 apos cpos = true) : EOk X (v1 f (mt0 .pop)) (.Call (.Attribute o "pop" apos) [] [] cpos) := by
  refine ⟨TV.mono_iff (pe_bm0 PySem.F.plainAttrs_list PySem.F.slot_list_pop PySem.F.type_list_pop mt_pop ho.pe (attr_no ho.pl _ _) hl) fun σ H Q q => ?_, rfl⟩
  obtain ⟨α, σd, hd, R, S, q⟩ := q
  have q : PoW X.K α H ((f σd hd).bind fun x h => mt0 .pop x h) Q := q
  refine TV.seq R S q.ok fun x hd1 α1 H1 v1 e g1 R1 S1 r n => ?_
  rw [e] at q
  have q := q.from g1 R1
  cases x with
  | l xs => exact q.elim
  | v d =>
    cases d with
    | obj n =>
      simp only [mt0] at q
      split at q
      · rename_i xs ho
        obtain ⟨a, vs, e1, rfl, e2, hx⟩ := lst_of R1 r ho
        split at q
        · rename_i y ey
          obtain ⟨v, ev, rv⟩ := hx.get ey
          refine ⟨tyL e2, a, vs, v, rfl, rfl, e2, by rw [hx.length]; exact ev, ?_⟩
          exact q.setO R1 e1 e2 rfl (RelO.newLst R1 e1 e2 rfl hx.dropLast) rv
        · exact q.elim
      · exact q.elim
    | _ => exact q.elim
theorem e_reverse {f : FV} {o : Expr} {apos cpos : Pos} (ho : EOk X f o) (hl : line1 apos cpos = true) : EOk X (v1 f (mt0 .reverse)) (.Call (.Attribute o "reverse" apos) [] [] cpos) := by
  refine ⟨TV.mono_iff (pe_bm0 PySem.F.plainAttrs_list PySem.F.slot_list_reverse PySem.F.type_list_reverse mt_reverse ho.pe (attr_no ho.pl _ _) hl) fun σ H Q q => ?_, rfl⟩
  obtain ⟨α, σd, hd, R, S, q⟩ := q
  have q : PoW X.K α H ((f σd hd).bind fun x h => mt0 .reverse x h) Q := q
  refine TV.seq R S q.ok fun x hd1 α1 H1 v1 e g1 R1 S1 r n => ?_
  rw [e] at q
  have q := q.from g1 R1
  cases x with
  | l xs => exact q.elim
  | v d =>
    cases d with
    | obj n =>
      simp only [mt0] at q
      split at q
      · rename_i xs ho
        obtain ⟨a, vs, e1, rfl, e2, hx⟩ := lst_of R1 r ho
        exact ⟨tyL e2, a, vs, rfl, rfl, e2, q.setO (d := .non) R1 e1 e2 rfl (RelO.newLst R1 e1 e2 rfl hx.reverse) rfl⟩
      · exact q.elim
    | _ => exact q.elim
def isL (x : W) (h : Hd) : Bool := match x with
  | .v (.obj n) => match h[n]? with
    | some (.lst _) => true
    | _ => false
  | _ => false
def isS (x : W) (_ : Hd) : Bool := match x with
  | .v (.str _) => true
  | _ => false
def isDk (x : W) (h : Hd) : Bool := match x with
  | .v (.obj n) => match h[n]? with
    | some (.dK _) => true
    | some (.dT _) => true
    | some (.lkK _) => true
    | some (.lkT _) => true
    | _ => false
  | _ => false
def v2m (c : W → Hd → Bool) (f g : FV) (k : W → W → Hd → R W) : FV := fun σ h => (f σ h).bind fun x h => if c x h = true then (g σ h).bind fun y h => k x y h else .no
theorem isL_at {w : W} {x : V} (R : Rl K α hd H) (r : RelW K α H w x) (h : isL w hd = true) : tyV K "list" x H := by
  cases w with
  | l xs => cases h
  | v d =>
    cases d with
    | obj n =>
      simp only [isL] at h
      split at h
      · rename_i xs ho
        obtain ⟨a, vs, e1, rfl, e2, hx⟩ := lst_of R r ho
        exact tyL e2
      · cases h
    | _ => cases h
theorem isS_at {w : W} {x : V} (r : RelW K α H w x) (h : isS w hd = true) : tyV K "str" x H := by
  cases w with
  | l xs => cases h
  | v d =>
    cases d with
    | str s => cases (show x = V.str (mkS s) from r); rfl
    | _ => cases h
theorem TV_bm {c : W → Hd → Bool} {f g : FV} {k : W → W → Hd → R W} {T : String} {r : V → List V → Hp → VK → Prop} {σ : L2.St} {Q : VK}
    (ty : ∀ {w x hd α H}, Rl K α hd H → RelW K α H w x → c w hd = true → tyV K T x H)
    (rule : ∀ {w x y v hd α H} {Q : VK}, Rl K α hd H → RelW K α H w x → RelW K α H y v → (∀ xs, y = .l xs → ∀ a, v = .ref a → a ∉ α) → PoW K α H (k w y hd) Q → r x [v] H Q)
    (q : TV K (v2m c f g k) σ H Q) : tBM K T r (TV K f) (tCons (TV K g) tNil) σ H Q := by
  obtain ⟨α, σd, hd, R, S, q⟩ := q
  have q : PoW K α H ((f σd hd).bind fun x h => if c x h = true then (g σd h).bind fun y h => k x y h else .no) Q := q
  refine TV.seq R S q.ok fun x hd1 α1 H1 v1 e g1 R1 S1 rx nw => ?_
  rw [e] at q
  have q := q.from g1 R1
  split at q
  · rename_i hc
    refine ⟨ty R1 rx hc, ?_⟩
    refine TV.seq R1 S1 q.ok fun y hd2 α2 H2 v2 e2 g2 R2 S2 r2 n2 => ?_
    rw [e2] at q
    refine rule R2 (rx.gr R1 g2) r2 (fun xs ey a ev => ?_) (q.from g2 R2)
    subst ey
    obtain ⟨b, vs, e3, _, hn, _⟩ := r2
    rw [e3] at ev
    cases ev
    exact hn
  · exact q.elim
theorem e_append {f g : FV} {o e : Expr} {apos cpos : Pos} (ho : EOk X f o) (he : EOk X g e) (hl : line1 apos cpos = true) : EOk X (v2m isL f (vSet g) (mt1 .append)) (.Call (.Attribute o "append" apos) [e] [] cpos) := by
  refine ⟨TV.mono_iff (pe_bm PySem.F.plainAttrs_list PySem.F.slot_list_append PySem.F.type_list_append mt_append ho.pe (pa_cons (e_set he).pe pa_nil (star_cons he.pl _ _)) (attr_no ho.pl _ _) (few1 he.pl) hl (star_cons he.pl _ _) (stars_any (es := []) rfl)) fun σ H Q q => ?_, rfl⟩
  refine TV_bm (fun R r c => isL_at R r c) (fun {w x y v hd α H Q} R rw ry _ q => ?_) q
  cases w with
  | l xs => exact q.elim
  | v d =>
    cases d with
    | obj n =>
      simp only [mt1] at q
      split at q
      · rename_i xs ho
        cases y with
        | l ys => exact q.elim
        | v d' =>
          obtain ⟨a, vs, e1, rfl, e2, hx⟩ := lst_of R rw ho
          simp only at q
          split at q
          · rename_i hz
            refine ⟨a, vs, v, rfl, rfl, e2, by rw [hx.length]; exact hz, ?_⟩
            exact q.setO (d := .non) R e1 e2 rfl (RelO.newLst R e1 e2 rfl (hx.append (es := [d']) (show RelDs X.K α H [d'] [v] from ⟨v, [], rfl, ry, rfl⟩))) rfl
          · exact q.elim
      · exact q.elim
    | _ => exact q.elim
theorem ext_at {x : W} {v : V} {xs : List D} (R : Rl K α hd H) (r : RelW K α H x v) (h : x.ext hd = some xs) : ∃ a vs, v = .ref a ∧ (H a = some (.lst vs) ∨ SqT K H a vs) ∧ RelDs K α H xs vs := by
  have go : x.lst hd = some xs → ∃ a vs, v = .ref a ∧ (H a = some (.lst vs) ∨ SqT K H a vs) ∧ RelDs K α H xs vs := fun e => by
    obtain ⟨a, vs, e1, e2, e3⟩ := lst_at R r e
    exact ⟨a, vs, e1, .inl e2, e3⟩
  cases x with
  | l ys => exact go h
  | v d =>
    cases d with
    | tup ys =>
      cases h
      obtain ⟨a, vs, e1, e2, e3⟩ := r
      exact ⟨a, vs, e1, .inr (SqT.of e2), e3⟩
    | _ => exact go h
theorem mt_ext2 : MtR X "list.extend" (fun x xs H Q => rExtend x xs H Q ∨ rExtT X.K x xs H Q) := fun pins s σ H x xs v us Q I rx rxs h => by
  rcases h with h | h
  · exact mt_extend pins s σ H x xs v us Q I rx rxs h
  · exact mt_extT pins s σ H x xs v us Q I rx rxs h
theorem e_extend {f g : FV} {o e : Expr} {apos cpos : Pos} (ho : EOk X f o) (he : EOk X g e) (hl : line1 apos cpos = true) : EOk X (v2m isL f g (mt1 .extend)) (.Call (.Attribute o "extend" apos) [e] [] cpos) := by
  refine ⟨TV.mono_iff (pe_bm PySem.F.plainAttrs_list PySem.F.slot_list_extend PySem.F.type_list_extend mt_ext2 ho.pe (pa_cons he.pe pa_nil (star_cons he.pl _ _)) (attr_no ho.pl _ _) (few1 he.pl) hl (star_cons he.pl _ _) (stars_any (es := []) rfl)) fun σ H Q q => ?_, rfl⟩
  refine TV_bm (fun R r c => isL_at R r c) (fun {w x y v hd α H Q} R rw ry _ q => ?_) q
  cases w with
  | l xs => exact q.elim
  | v d =>
    cases d with
    | obj n =>
      simp only [mt1] at q
      split at q
      · rename_i xs ho
        obtain ⟨a, vs, e1, rfl, e2, hx⟩ := lst_of R rw ho
        split at q
        · rename_i ys ey
          obtain ⟨b, ws, rfl, e3, hy⟩ := ext_at R ry ey
          split at q
          · rename_i hz
            have fin := q.setO (d := .non) R e1 e2 rfl (RelO.newLst R e1 e2 rfl (hx.append hy)) rfl
            rcases e3 with e3 | e3
            · exact .inl ⟨a, b, vs, ws, rfl, rfl, e2, e3, by rw [hx.length, hy.length]; exact hz, fin⟩
            · exact .inr ⟨a, b, vs, ws, rfl, rfl, e2, e3, by rw [hx.length, hy.length]; exact hz, fin⟩
          · exact q.elim
        · exact q.elim
      · exact q.elim
    | _ => exact q.elim
theorem e_popAt {f g : FV} {o e : Expr} {apos cpos : Pos} (ho : EOk X f o) (he : EOk X g e) (hl : line1 apos cpos = true) : EOk X (v2m isL f g (mt1 .pop)) (.Call (.Attribute o "pop" apos) [e] [] cpos) := by
  refine ⟨TV.mono_iff (pe_bm PySem.F.plainAttrs_list PySem.F.slot_list_pop PySem.F.type_list_pop mt_popAt ho.pe (pa_cons he.pe pa_nil (star_cons he.pl _ _)) (attr_no ho.pl _ _) (few1 he.pl) hl (star_cons he.pl _ _) (stars_any (es := []) rfl)) fun σ H Q q => ?_, rfl⟩
  refine TV_bm (fun R r c => isL_at R r c) (fun {w x y v hd α H Q} R rw ry _ q => ?_) q
  cases w with
  | l xs => exact q.elim
  | v d =>
    cases d with
    | obj n =>
      simp only [mt1] at q
      split at q
      · rename_i xs ho
        obtain ⟨a, vs, e1, rfl, e2, hx⟩ := lst_of R rw ho
        cases y with
        | l ys => exact q.elim
        | v d' =>
          cases d' with
          | int i =>
            simp only at q
            split at q
            · rename_i hz
              split at q
              · rename_i k ek
                split at q
                · rename_i z ez
                  obtain ⟨v', ev, rv⟩ := hx.get ez
                  refine ⟨a, vs, i, k, v', rfl, by rw [show v = V.int i from ry], e2, hz.1, hz.2, by rw [hx.length]; exact ek, ev, ?_⟩
                  exact q.setO R e1 e2 rfl (RelO.newLst R e1 e2 rfl (hx.erase k)) rv
                · exact q.elim
              · exact q.elim
            · exact q.elim
          | _ => exact q.elim
      · exact q.elim
    | _ => exact q.elim
theorem joinD_eq (a : List Nat) : ∀ ys : List (List Nat), joinD a ys = TL.joinL a ys
  | [] => rfl
  | [x] => by first | rfl | simp [joinD, TL.joinL]
  | x :: y :: r => by
    have := joinD_eq a (y :: r)
    simp only [joinD, this]
    first | rfl | simp [TL.joinL]
theorem e_join {f g : FV} {o e : Expr} {apos cpos : Pos} (ho : EOk X f o) (he : EOk X g e) (hl : line1 apos cpos = true) : EOk X (v2m isS f g (mt1 .join)) (.Call (.Attribute o "join" apos) [e] [] cpos) := by
  refine ⟨TV.mono_iff (pe_bm PySem.F.plainAttrs_str PySem.F.slot_str_join PySem.F.type_str_join mt_join ho.pe (pa_cons he.pe pa_nil (star_cons he.pl _ _)) (attr_no ho.pl _ _) (few1 he.pl) hl (star_cons he.pl _ _) (stars_any (es := []) rfl)) fun σ H Q q => ?_, rfl⟩
  refine TV_bm (fun R r c => isS_at r c) (fun {w x y v hd α H Q} R rw ry _ q => ?_) q
  cases w with
  | l xs => exact q.elim
  | v d =>
    cases d with
    | str sep =>
      cases (show x = V.str (mkS sep) from rw)
      simp only [mt1] at q
      split at q
      · rename_i xs exs
        split at q
        · rename_i ys eys
          split at q
          · rename_i hz
            obtain ⟨a, vs, rfl, hq, hx⟩ := seq_at R ry exs
            rw [strsOf_at eys hx] at hq
            have el : ((ys.map mkS).map (·.length)).sum + (ys.map mkS).length * (mkS sep).length ≤ 16777216 := by
              rw [List.map_map, List.length_map, mkS_len]
              have : ((fun x : Str => x.length) ∘ mkS) = fun l : List Nat => l.length := by
                funext l
                exact mkS_len l
              rw [this]
              exact hz
            refine ⟨mkS sep, a, ys.map mkS, rfl, rfl, hq, el, ?_⟩
            have e3 : Txt.join (mkS sep) (ys.map mkS) = mkS (joinD sep ys) := by
              rw [joinD_eq]
              exact SX.join_S sep ys
            rw [e3]
            exact q.old (d := .str (joinD sep ys)) R rfl
          · exact q.elim
        · exact q.elim
      · exact q.elim
    | _ => exact q.elim
theorem isD_of {w : W} {x : V} (R : Rl K α hd H) (r : RelW K α H w x) (h : isDk w hd = true) : ∃ a, x = .ref a ∧ IsD H a := by
  cases w with
  | l xs => cases h
  | v d =>
    cases d with
    | obj n =>
      obtain ⟨a, e, rfl⟩ := r
      simp only [isDk] at h
      split at h
      · rename_i kvs ho
        obtain ⟨l, e2, _⟩ := R.ob n _ a ho e
        exact ⟨a, rfl, .inl ⟨l, .inl e2⟩⟩
      · rename_i kvs ho
        obtain ⟨l, e2, _⟩ := R.ob n _ a ho e
        exact ⟨a, rfl, .inr ⟨l, .inl e2⟩⟩
      · rename_i kvs ho
        obtain ⟨_, l, e2, _⟩ := R.ob n _ a ho e
        exact ⟨a, rfl, .inl ⟨l, .inr ⟨_, e2⟩⟩⟩
      · rename_i kvs ho
        obtain ⟨_, l, e2, _⟩ := R.ob n _ a ho e
        exact ⟨a, rfl, .inr ⟨l, .inr ⟨_, e2⟩⟩⟩
      · cases h
    | _ => cases h
theorem RelOpt.getD {d : Option D} {v : Option V} (h : RelOpt K α H d v) {e : D} {z : V} (r : RelD K α H e z) : RelD K α H (d.getD e) (v.getD z) := by
  cases d with
  | none => rw [show v = none from h]; exact r
  | some d =>
    obtain ⟨x, rfl, rx⟩ := h
    exact rx
theorem cnt_at {w : W} {xs : List D} {a : Addr} {vs : List V} {y : V} {i : Int} (hu : Deep X) {pins : List (Addr × Obj)} {s : Shared} {σ : L2.St} {u : Value} {Q : V → Hp → Prop} (R : Rl X.K α hd H) (I : Inv X pins σ H s) (ha : H a = some (.lst vs)) (hx : RelDs X.K α H xs vs) (ry : RelW X.K α H w y) (ru : RelV y u)
    (e : cntW w xs hd = some i) (q : Q (.int i) H) : wpAny (model X.prog X.w) X.A (call (.builtin "list.count") [.ref a, u]) (EP X pins σ Q) X.xe s := by
  unfold cntW at e
  split at e
  · rename_i ps p e1 e2
    split at e
    · rename_i c
      cases e
      obtain ⟨bs, r1⟩ := Dp.reads I p y u (wpy_at R e2 ry) ru
      obtain ⟨its, rv, ⟨⟨cls, dd, data, sls⟩, n, ho, hc, hdn, hdt⟩, hlen⟩ := I.list (SqL.of ha)
      simp only at hc hdt
      subst hc hdt
      obtain ⟨as, h4⟩ := Dp.readsAll I ps _ its (pys_at e1 hx) rv
      have hmap : its.map (SeqAt.readOf s.heap) = ps := SeqAt.readsAll_map ps its as c.1 h4
      have room : X.A.units + 1 + min (PyData.depthAll ps) p.depth < cLine := by
        have m : min (PyData.depthAll ps) p.depth ≤ p.depth := Nat.min_le_right _ _
        have := c.2.2
        have hu : X.A.units + 200 < cLine := hu
        omega
      refine call_meets PySem.F.slot_list_count ⟨_, ho, rfl⟩ PySem.F.entry_list_count (PySem.F.args_list_count_2 _ _)
        (SeqAt.list_countAt a its.toArray n dd sls u fun z => PyData.eqv (SeqAt.readOf s.heap z) p) ⟨ho, SeqAt.items_eqAt (vs := its.toArray) (show ReadsAll s.heap its.toArray.toList ps as from h4) r1 c.1 c.2.1 room, ?_⟩
      have ec : its.countP (fun z => PyData.eqv (SeqAt.readOf s.heap z) p) = ps.countP fun z => PyData.eqv z p := by
        rw [← hmap, List.countP_map]
        rfl
      refine ⟨.int _, H, I.tok _, ⟨_, rfl⟩, ?_⟩
      show Q (.int ((its.countP fun z => PyData.eqv (SeqAt.readOf s.heap z) p : Nat) : Int)) H
      rw [ec]
      exact q
    · cases e
  · cases e
theorem idx_at {w : W} {xs : List D} {a : Addr} {vs : List V} {y : V} {i : Int} (hu : Deep X) {pins : List (Addr × Obj)} {s : Shared} {σ : L2.St} {u : Value} {Q : V → Hp → Prop} (R : Rl X.K α hd H) (I : Inv X pins σ H s) (ha : H a = some (.lst vs)) (hx : RelDs X.K α H xs vs) (ry : RelW X.K α H w y) (ru : RelV y u)
    (e : idxW w xs hd = some i) (q : Q (.int i) H) : wpAny (model X.prog X.w) X.A (call (.builtin "list.index") [.ref a, u]) (EP X pins σ Q) X.xe s := by
  unfold idxW at e
  split at e
  · rename_i ps p e1 e2
    split at e
    · rename_i c
      cases e
      obtain ⟨bs, r1⟩ := Dp.reads I p y u (wpy_at R e2 ry) ru
      obtain ⟨its, rv, ⟨⟨cls, dd, data, sls⟩, n, ho, hc, hdn, hdt⟩, hlen⟩ := I.list (SqL.of ha)
      simp only at hc hdt
      subst hc hdt
      obtain ⟨as, h4⟩ := Dp.readsAll I ps _ its (pys_at e1 hx) rv
      have hn : its.length = ps.length := SeqAt.ReadsAll.length ps its as h4
      have hmap : its.map (SeqAt.readOf s.heap) = ps := SeqAt.readsAll_map ps its as c.1 h4
      have room : X.A.units + 1 + min (PyData.depthAll ps) p.depth < cLine := by
        have m : min (PyData.depthAll ps) p.depth ≤ p.depth := Nat.min_le_right _ _
        have := c.2.2.1
        have hu : X.A.units + 200 < cLine := hu
        omega
      have hvl := rv.length
      have hsl := sizeLine_eq
      have hj : (ps.findIdx fun z => PyData.eqv z p) < ps.length := List.findIdx_lt_length.mpr (by simpa [List.any_eq_true] using c.2.2.2)
      have at_ : ∀ (m : Nat) (hm : m < its.toArray.size), ∃ h2 : m < ps.length, SeqAt.readOf s.heap its.toArray[m] = ps[m] := by
        intro m hm
        have hml : m < its.length := by simpa using hm
        refine ⟨by omega, ?_⟩
        have e3 : (its.map (SeqAt.readOf s.heap))[m]? = ps[m]? := by rw [hmap]
        rw [List.getElem?_map, List.getElem?_eq_getElem hml, List.getElem?_eq_getElem (by omega : m < ps.length)] at e3
        simpa using e3
      refine call_meets PySem.F.slot_list_index ⟨_, ho, rfl⟩ PySem.F.entry_list_index (PySem.F.args_list_index_2 _ _)
        (SeqAt.list_indexAt a its.toArray n dd sls u (fun z => PyData.eqv (SeqAt.readOf s.heap z) p) (ps.findIdx fun z => PyData.eqv z p) (by simpa [hn] using hj) (by omega) ?_ ?_) ⟨ho, SeqAt.items_eqAt (vs := its.toArray) (show ReadsAll s.heap its.toArray.toList ps as from h4) r1 c.1 c.2.1 room, ?_⟩
      · obtain ⟨h2, e3⟩ := at_ (ps.findIdx fun z => PyData.eqv z p) (by simpa [hn] using hj)
        rw [e3]
        exact List.findIdx_getElem (p := fun z => PyData.eqv z p) (w := h2)
      · intro m hm hmj
        obtain ⟨h2, e3⟩ := at_ m hm
        rw [e3]
        exact List.not_of_lt_findIdx hmj
      · exact ⟨.int _, H, I.tok _, ⟨_, rfl⟩, q⟩
    · cases e
  · cases e
def rCnt (K : PySem.W.Frag) (m : M1) : V → List V → Hp → VK → Prop := fun x xs H Q => ∃ (α : List Addr) (hd : Hd) (w : W) (n : Nat) (a : Addr) (y : V), x = .ref a ∧ xs = [y] ∧ α[n]? = some a ∧ Rl K α hd H ∧ RelW K α H w y ∧ PoW K α H (mt1 m (.v (.obj n)) w hd) Q
theorem mt_count (hu : Deep X) : MtR X "list.count" (rCnt X.K .count) := by
  intro pins s σ H x xs v us Q I rx rxs h
  obtain ⟨α, hd, w, n, a, y, rfl, rfl, ea, R, rw, h⟩ := h
  cases rx
  obtain ⟨u, rfl, ru⟩ := rxs.one
  simp only [mt1] at h
  split at h
  · rename_i zs ho
    obtain ⟨z, e, h⟩ := ofO_W h
    obtain ⟨i, e2, rfl⟩ := Option.map_eq_some_iff.mp e
    obtain ⟨vs, e3, hx⟩ := R.ob n _ _ ho ea
    exact cnt_at hu R I e3 hx rw ru e2 (h.old (d := .int i) R rfl)
  · exact h.elim
theorem mt_index (hu : Deep X) : MtR X "list.index" (rCnt X.K .index) := by
  intro pins s σ H x xs v us Q I rx rxs h
  obtain ⟨α, hd, w, n, a, y, rfl, rfl, ea, R, rw, h⟩ := h
  cases rx
  obtain ⟨u, rfl, ru⟩ := rxs.one
  simp only [mt1] at h
  split at h
  · rename_i zs ho
    obtain ⟨z, e, h⟩ := ofO_W h
    obtain ⟨i, e2, rfl⟩ := Option.map_eq_some_iff.mp e
    obtain ⟨vs, e3, hx⟩ := R.ob n _ _ ho ea
    exact idx_at hu R I e3 hx rw ru e2 (h.old (d := .int i) R rfl)
  · exact h.elim
theorem cnt_rule {m : M1} (hm : ∀ xs y h, mt1 m (.l xs) y h = .no) (hm2 : ∀ d y h, (∀ n, d ≠ .obj n) → mt1 m (.v d) y h = .no) {w y : W} {x v : V} {hd : Hd} {α : List Addr} {H : Hp} {Q : VK} (R : Rl K α hd H) (rw : RelW K α H w x) (ry : RelW K α H y v) (q : PoW K α H (mt1 m w y hd) Q) : rCnt K m x [v] H Q := by
  cases w with
  | l xs => rw [hm] at q; exact q.elim
  | v d =>
    cases d with
    | obj n =>
      obtain ⟨a, ea, rfl⟩ := rw
      exact ⟨α, hd, y, n, a, v, rfl, rfl, ea, R, ry, q⟩
    | _ => rw [hm2 _ _ _ (by intro n z; cases z)] at q; exact q.elim
theorem e_count (hu : Deep X) {f g : FV} {o e : Expr} {apos cpos : Pos} (ho : EOk X f o) (he : EOk X g e) (hl : line1 apos cpos = true) : EOk X (v2m isL (vSet f) g (mt1 .count)) (.Call (.Attribute o "count" apos) [e] [] cpos) := by
  refine ⟨TV.mono_iff (pe_bm PySem.F.plainAttrs_list PySem.F.slot_list_count PySem.F.type_list_count (mt_count hu) (e_set ho).pe (pa_cons he.pe pa_nil (star_cons he.pl _ _)) (attr_no ho.pl _ _) (few1 he.pl) hl (star_cons he.pl _ _) (stars_any (es := []) rfl)) fun σ H Q q => ?_, rfl⟩
  refine TV_bm (fun R r c => isL_at R r c) (fun {w x y v hd α H Q} R rw ry _ q => cnt_rule (fun _ _ _ => rfl) (fun d _ _ hd => ?_) R rw ry q) q
  cases d with
  | obj n => exact absurd rfl (hd n)
  | _ => rfl
theorem e_index (hu : Deep X) {f g : FV} {o e : Expr} {apos cpos : Pos} (ho : EOk X f o) (he : EOk X g e) (hl : line1 apos cpos = true) : EOk X (v2m isL (vSet f) g (mt1 .index)) (.Call (.Attribute o "index" apos) [e] [] cpos) := by
  refine ⟨TV.mono_iff (pe_bm PySem.F.plainAttrs_list PySem.F.slot_list_index PySem.F.type_list_index (mt_index hu) (e_set ho).pe (pa_cons he.pe pa_nil (star_cons he.pl _ _)) (attr_no ho.pl _ _) (few1 he.pl) hl (star_cons he.pl _ _) (stars_any (es := []) rfl)) fun σ H Q q => ?_, rfl⟩
  refine TV_bm (fun R r c => isL_at R r c) (fun {w x y v hd α H Q} R rw ry _ q => cnt_rule (fun _ _ _ => rfl) (fun d _ _ hd => ?_) R rw ry q) q
  cases d with
  | obj n => exact absurd rfl (hd n)
  | _ => rfl
theorem e_get1 (hu : Deep X) {f g : FV} {o e : Expr} {apos cpos : Pos} (ho : EOk X f o) (he : EOk X g e) (hl : line1 apos cpos = true) : EOk X (v2m isDk f g (mt1 .get)) (.Call (.Attribute o "get" apos) [e] [] cpos) := by
  refine ⟨TV.mono_iff (pe_dget1 (deep1 hu) ho.pe he.pe (m1_of ho.pl he.pl hl)) fun σ H Q q => ?_, rfl⟩
  obtain ⟨α, σd, hd, R, S, q⟩ := q
  have q : PoW X.K α H ((f σd hd).bind fun x h => if isDk x h = true then (g σd h).bind fun y h => mt1 .get x y h else .no) Q := q
  refine TV.seq R S q.ok fun x hd1 α1 H1 v1 e g1 R1 S1 rx nw => ?_
  rw [e] at q
  have q := q.from g1 R1
  split at q
  · rename_i hc
    obtain ⟨a, ea, da⟩ := isD_of R1 rx hc
    refine ⟨a, ea, da, ?_⟩
    refine TV.seq R1 S1 q.ok fun y hd2 α2 H2 v2 e2 g2 R2 S2 r2 n2 => ?_
    rw [e2] at q
    have q := q.from g2 R2
    have rx := rx.gr R1 g2
    cases x with
    | l xs => exact q.elim
    | v d =>
      cases d with
      | obj n =>
        simp only [mt1] at q
        cases y with
        | l ys =>
          cases eo : hd2[n]? <;> rw [eo] at q <;> exact q.elim
        | v d' =>
          cases eo : hd2[n]? with
          | none => rw [eo] at q; exact q.elim
          | some o' =>
            rw [eo] at q
            simp only at q
            split at q
            · rename_i u eu
              obtain ⟨b, eb, ev⟩ := rx
              rw [ea] at ev
              cases ev
              obtain ⟨z, gz, rz⟩ := look_at eu (R2.ob _ _ a eo eb) r2
              exact ⟨z, gz, q.old R2 (rz.getD (e := .non) rfl)⟩
            · exact q.elim
      | _ => exact q.elim
  · exact q.elim
def v3m (c : W → Hd → Bool) (f g g' : FV) (k : W → W → W → Hd → R W) : FV := fun σ h => (f σ h).bind fun x h => if c x h = true then (g σ h).bind fun y h => (g' σ h).bind fun z h => k x y z h else .no
def mtGet2 (o x z : W) (h : Hd) : R W := match o with
  | .v (.obj n) => match h[n]?, x, z with
    | some o, .v d, .v z => match o.look d with
      | some r => .ok (.v (r.getD z)) h
      | none => .no
    | _, _, _ => .no
  | _ => .no
theorem e_get2 (hu : Deep X) {f g g' : FV} {o e e' : Expr} {apos cpos : Pos} (ho : EOk X f o) (he : EOk X g e) (he' : EOk X g' e') (hl : line1 apos cpos = true) : EOk X (v3m isDk f (vSet g) (vSet g') mtGet2) (.Call (.Attribute o "get" apos) [e, e'] [] cpos) := by
  refine ⟨TV.mono_iff (pe_dget2 (deep1 hu) ho.pe (e_set he).pe (e_set he').pe (m2_of ho.pl he.pl he'.pl hl)) fun σ H Q q => ?_, rfl⟩
  obtain ⟨α, σd, hd, R, S, q⟩ := q
  have q : PoW X.K α H ((f σd hd).bind fun x h => if isDk x h = true then (vSet g σd h).bind fun y h => (vSet g' σd h).bind fun z h => mtGet2 x y z h else .no) Q := q
  refine TV.seq R S q.ok fun x hd1 α1 H1 v1 e g1 R1 S1 rx nw => ?_
  rw [e] at q
  have q := q.from g1 R1
  split at q
  · rename_i hc
    obtain ⟨a, ea, da⟩ := isD_of R1 rx hc
    refine ⟨a, ea, da, ?_⟩
    refine TV.seq R1 S1 q.ok fun y hd2 α2 H2 v2 e2 g2 R2 S2 r2 n2 => ?_
    rw [e2] at q
    have q := q.from g2 R2
    refine TV.seq R2 S2 q.ok fun z hd3 α3 H3 v3 e3 g3 R3 S3 r3 n3 => ?_
    rw [e3] at q
    have q := q.from g3 R3
    have rx := (rx.gr R1 g2).gr R2 g3
    have r2 := r2.gr R2 g3
    cases x with
    | l xs => exact q.elim
    | v d =>
      cases d with
      | obj n =>
        simp only [mtGet2] at q
        cases y with
        | l ys =>
          cases eo : hd3[n]? <;> rw [eo] at q <;> exact q.elim
        | v d' =>
          cases z with
          | l zs => cases eo : hd3[n]? <;> rw [eo] at q <;> exact q.elim
          | v z' =>
            cases eo : hd3[n]? with
            | none => rw [eo] at q; exact q.elim
            | some o' =>
              rw [eo] at q
              simp only at q
              split at q
              · rename_i u eu
                obtain ⟨b, eb, ev⟩ := rx
                rw [ea] at ev
                cases ev
                obtain ⟨y', gy, ry⟩ := look_at eu (R3.ob _ _ a eo eb) r2
                exact ⟨y', gy, q.old R3 (ry.getD r3)⟩
              · exact q.elim
      | _ => exact q.elim
  · exact q.elim
def vDk : FV := fun _ h => .ok (.v (.obj h.length)) (h ++ [.dK []])
def vDt : FV := fun _ h => .ok (.v (.obj h.length)) (h ++ [.dT []])
theorem PoW.newO {o : O} {u : HO} {Q : V → Hp → Prop} (R : Rl K α hd H) (hp : H p = none) (ho : RelO K α (upd H p u) p o) (h : PoW K α H (.ok (.v (.obj hd.length)) (hd ++ [o])) Q) : Q (.ref p) (upd H p u) :=
  h (α ++ [p]) _ _ (Gr.new R hp u) (R.new hp ho) ⟨p, by rw [← R.len]; simp, rfl⟩ trivial
theorem e_dk {pos : Pos} : EOk X vDk (.Dict [] [] pos) := by
  refine ⟨TV.mono_iff pe_dnewK fun σ H Q q => ?_, rfl⟩
  obtain ⟨α, σd, hd, R, S, q⟩ := q
  exact fun p hp => PoW.newO (o := .dK []) R hp ⟨[], upd_same, rfl⟩ q
theorem e_dt {pos : Pos} : EOk X vDt (.Dict [] [] pos) := by
  refine ⟨TV.mono_iff pe_dnewT fun σ H Q q => ?_, rfl⟩
  obtain ⟨α, σd, hd, R, S, q⟩ := q
  exact fun p hp => PoW.newO (o := .dT []) R hp ⟨[], upd_same, rfl⟩ q
def vBack (f : FV) : FV := fun σ h => (f σ h).bind fun x h => match x with
  | .v (.tup xs) => if 0 < xs.length then .ok (.v (.tup (xs.drop 1).reverse)) h else .no
  | _ => .no
theorem e_back {f : FV} {a : Expr} {k0 k : Nat} {p0 p1 p2 p3 pos : Pos} (ha : EOk X f a) : EOk X (vBack f) (.Subscript a (.Slice none (some (.Constant (.int 0) k0 p0)) (some (.UnaryOp .USub (.Constant (.int 1) k p1) p2)) p3) pos) := by
  refine ⟨TV.mono_iff (pe_back ha.pe) fun σ H Q q => ?_, rfl⟩
  obtain ⟨α, σd, hd, R, S, q⟩ := q
  have q : PoW X.K α H ((f σd hd).bind fun x h => match x with
    | .v (.tup xs) => if 0 < xs.length then .ok (.v (.tup (xs.drop 1).reverse)) h else .no
    | _ => .no) Q := q
  refine TV.seq R S q.ok fun x hd1 α1 H1 v1 e g1 R1 S1 r n => ?_
  rw [e] at q
  have q := q.from g1 R1
  cases x with
  | l xs => exact q.elim
  | v d =>
    cases d with
    | tup xs =>
      simp only at q
      split at q
      · rename_i hz
        obtain ⟨b, vs, rfl, hb, hx⟩ := r
        exact ⟨b, vs, rfl, SqT.of hb, by rw [hx.length]; exact hz, fun p hp => q.newT R1 (hx.drop 1).reverse hp⟩
      · exact q.elim
    | _ => exact q.elim
end DL
namespace DL
open PySem PySem.Spec PyProof.Rows L2

variable {K : PySem.W.Frag}
variable {α α' α'' α1 α0 : List Addr} {H H' H'' H1 H0 : Hp} {hd hd' hd1 : Hd} {a p : Addr}
variable {X : Cx}
inductive Tg where
  | nm (i : Nat) | tp (ts : List Tg)
mutual
def Tg.put : Tg → D → Sd → Option Sd
  | .nm i, d, σ => some (σ.set i (some d))
  | .tp ts, d, σ => match d with
    | .tup ds => Tg.puts ts ds σ
    | _ => none
def Tg.puts : List Tg → List D → Sd → Option Sd
  | [], ds, σ => match ds with
    | [] => some σ
    | _ :: _ => none
  | t :: ts, ds, σ => match ds with
    | [] => none
    | d :: ds => match t.put d σ with
      | some σ' => Tg.puts ts ds σ'
      | none => none
end
mutual
def Tg.slots : Tg → List Nat
  | .nm i => [i]
  | .tp ts => Tg.slotss ts
def Tg.slotss : List Tg → List Nat
  | [] => []
  | t :: ts => t.slots ++ Tg.slotss ts
end
def Out (vs : List Nat) (σ σ' : L2.St) : Prop := σ'.length = σ.length ∧ ∀ i, i ∉ vs → σ'[i]? = σ[i]?
theorem Out.refl (vs : List Nat) (σ : L2.St) : Out vs σ σ := ⟨rfl, fun _ _ => rfl⟩
theorem Out.trans {vs : List Nat} {σ σ' σ'' : L2.St} (h : Out vs σ σ') (h' : Out vs σ' σ'') : Out vs σ σ'' := ⟨h'.1.trans h.1, fun i n => (h'.2 i n).trans (h.2 i n)⟩
theorem Out.mono {vs ws : List Nat} {σ σ' : L2.St} (h : Out vs σ σ') (m : ∀ i ∈ vs, i ∈ ws) : Out ws σ σ' := ⟨h.1, fun i n => h.2 i fun z => n (m i z)⟩
theorem Out.set (i : Nat) (σ : L2.St) (x : Option V) : Out [i] σ (σ.set i x) := ⟨by simp, fun j n => List.getElem?_set_ne (by simpa [eq_comm] using n)⟩
def gT (K : PySem.W.Frag) (t : Tg) : TG := fun v σ H Q => ∃ α σd hd d σd', Rl K α hd H ∧ RelS K α H σd σ ∧ RelD K α H d v ∧ t.put d σd = some σd' ∧ ∀ σ', RelS K α H σd' σ' → Out t.slots σ σ' → Q σ' H
def gTs (K : PySem.W.Frag) (ts : List Tg) : TGs := fun vs σ H Q => ∃ α σd hd ds σd', Rl K α hd H ∧ RelS K α H σd σ ∧ RelDs K α H ds vs ∧ Tg.puts ts ds σd = some σd' ∧ ∀ σ', RelS K α H σd' σ' → Out (Tg.slotss ts) σ σ' → Q σ' H
inductive TgOk (X : Cx) : Tg → Expr → Prop
  | nm {i : Nat} {e : Expr} : PG X e (gName i) → TgOk X (.nm i) e
  | tp {ts : List Tg} {es : List Expr} {k : Nat} {pos : Pos} : PGs X es (gTs X.K ts) → (assignEach es X.env).length = ts.length → (assignEach es X.env).findIdx? (·.1) = none → TgOk X (.tp ts) (.Tuple es k pos)
theorem PG.weak {e : Expr} {t t' : TG} (h : PG X e t) (k : ∀ v σ H Q, t' v σ H Q → t v σ H Q) : PG X e t' := ⟨fun pins s σ H v u Q I r q => h.run pins s σ H v u Q I r (k v σ H Q q)⟩
theorem PGs.weak {e : List Expr} {t t' : TGs} (h : PGs X e t) (k : ∀ v σ H Q, t' v σ H Q → t v σ H Q) : PGs X e t' := ⟨fun pins s σ H v u Q I r q => h.run pins s σ H v u Q I r (k v σ H Q q)⟩
theorem puts_len : ∀ {ts : List Tg} {ds : List D} {σ σ' : Sd}, Tg.puts ts ds σ = some σ' → ds.length = ts.length
  | [], [], _, _, _ => rfl
  | [], _ :: _, _, _, e => by cases e
  | t :: ts, [], _, _, e => by cases e
  | t :: ts, d :: ds, σ, σ', e => by
    simp only [Tg.puts] at e
    split at e
    · rw [List.length_cons, List.length_cons, puts_len e]
    · cases e
theorem tg_ok (hc : X.calm = true) {t : Tg} {e : Expr} (h : TgOk X t e) : PG X e (gT X.K t) := by
  cases h with
  | nm h =>
    refine PG.weak h fun v σ H Q q => ?_
    obtain ⟨α, σd, hd, d, σd', R, S, r, e, q⟩ := q
    cases e
    exact q _ (S.set r _) (Out.set _ _ _)
  | tp h hn hs =>
    refine PG.weak (pg_tup hc h hn hs) fun v σ H Q q => ?_
    obtain ⟨α, σd, hd, d, σd', R, S, r, e, q⟩ := q
    cases d with
    | tup ds =>
      obtain ⟨a, vs, rfl, ha, hx⟩ := r
      exact ⟨a, vs, rfl, SqT.of ha, by rw [hx.length]; exact puts_len e, α, σd, hd, ds, σd', R, S, hx, e, q⟩
    | _ => cases e
theorem tgs_nil : PGs X [] (gTs X.K []) := by
  refine PGs.weak pgs_nil fun vs σ H Q q => ?_
  obtain ⟨α, σd, hd, ds, σd', R, S, r, e, q⟩ := q
  cases ds with
  | nil => cases e; exact ⟨r, q _ S (Out.refl _ _)⟩
  | cons d ds => cases e
theorem notStar_assign {e : Expr} (h : plainE e = true) (es : List Expr) (env : Env) : (assignEach (e :: es) env).map (·.2) = assign e env :: (assignEach es env).map (·.2) := by
  cases e <;> first | rfl | (cases h)
theorem tgs_cons (hc : X.calm = true) {t : Tg} {ts : List Tg} {e : Expr} {es : List Expr} (h : TgOk X t e) (hp : plainE e = true) (hs : PGs X es (gTs X.K ts)) : PGs X (e :: es) (gTs X.K (t :: ts)) := by
  refine PGs.weak (pgs_cons (tg_ok hc h) hs (notStar_assign hp _ _)) fun vs σ H Q q => ?_
  obtain ⟨α, σd, hd, ds, σd', R, S, r, e, q⟩ := q
  cases ds with
  | nil => cases e
  | cons d ds =>
    obtain ⟨v, vr, rfl, r1, r2⟩ := r
    simp only [Tg.puts] at e
    split at e
    · rename_i σ1 e1
      refine ⟨v, vr, rfl, α, σd, hd, d, σ1, R, S, r1, e1, fun σ' S' o => ?_⟩
      exact ⟨α, σ1, hd, ds, σd', R, S', r2, e, fun σ'' S'' o' => q σ'' S'' ((o.mono fun i z => List.mem_append_left _ z).trans (o'.mono fun i z => List.mem_append_right _ z))⟩
    · cases e

inductive Src where
  | fx (xs : List D) | re (g : Nat → Hd → Option (Option D))
def Src.get : Src → Nat → Hd → Option (Option D)
  | .fx xs => fun i _ => some xs[i]?
  | .re g => g
def SrcOk (K : PySem.W.Frag) (J : It) (g : Nat → Hd → Option (Option D)) (α0 : List Addr) (H0 : Hp) : Prop :=
  ∀ (i : Nat) (α : List Addr) (hd : Hd) (H : Hp), Gr α0 H0 α H → Rl K α hd H → (g i hd = some none → J.stop i H) ∧
    ∀ d, g i hd = some (some d) → J.go i H ∧ ∀ x H', J.yld i H x H' → Gr α H α H' ∧ Rl K α hd H' ∧ RelD K α H' d x
abbrev FS := Sd → Hd → R Src
def TIs (K : PySem.W.Frag) (f : FS) : TI := fun σ H Q => ∃ α σd hd, Rl K α hd H ∧ RelS K α H σd σ ∧ match f σd hd with
  | .ok s hd' => ∀ α' H' J, Gr α H α' H' → Rl K α' hd' H' → SrcOk K J s.get α' H' → Q J H'
  | _ => False
structure IOk (X : Cx) (tg : Expr) (f : FS) (e : Expr) : Prop where
  pi : PI X tg e (TIs X.K f)
  fold : ∀ x, foldedSetIterable e X.env x = pure x
theorem PI.weak {tg e : Expr} {t t' : TI} (h : PI X tg e t) (k : ∀ σ H Q, t' σ H Q → t σ H Q) : PI X tg e t' := ⟨fun pins s σ H Q I q => h.run pins s σ H Q I (k σ H Q q)⟩
def W.src (w : W) (h : Hd) : Option Src := match w with
  | .l xs => some (.fx xs)
  | .v (.tup xs) => some (.fx xs)
  | .v (.ro xs) => some (.fx xs)
  | .v (.str s) => some (.fx (s.map fun c => .str [c]))
  | .v (.obj n) => match h[n]? with
    | some (.lst _) => some (.re fun i h => match h[n]? with
      | some (.lst xs) => some xs[i]?
      | _ => none)
    | _ => none
  | _ => none
theorem src_list {vs : List V} {xs : List D} (ha : ∀ α H, Gr α0 H0 α H → (∃ hd, Rl K α hd H) → SqL K H a vs ∧ RelDs K α H xs vs) : SrcOk K (Itl K a) (fun i _ => some xs[i]?) α0 H0 := by
  intro i α hd H g R
  obtain ⟨hq, hx⟩ := ha α H g ⟨hd, R⟩
  refine ⟨fun e => ⟨vs, hq, ?_⟩, fun d e => ?_⟩
  · rw [hx.length]
    exact List.getElem?_eq_none_iff.mp (Option.some.inj e)
  · obtain ⟨v, ev, rv⟩ := hx.get (Option.some.inj e)
    refine ⟨⟨vs, v, hq, ev⟩, fun x H' y => ?_⟩
    obtain ⟨rfl, y⟩ := y
    have e2 := y vs hq
    rw [ev] at e2
    cases e2
    exact ⟨Gr.refl _ _, R, rv⟩
theorem src_re {n : Nat} (h0 : α0[n]? = some a) : SrcOk K (Itl K a) (fun i h => match h[n]? with
      | some (.lst xs) => some xs[i]?
      | _ => none) α0 H0 := by
  intro i α hd H g R
  have hn := g.get h0
  have at' : ∀ {z : Option D}, (match hd[n]? with
      | some (.lst xs) => some xs[i]?
      | _ => none) = some z → ∃ xs vs, H a = some (.lst vs) ∧ RelDs K α H xs vs ∧ xs[i]? = z := by
    intro z e
    split at e
    · rename_i xs ho
      obtain ⟨vs, e2, hx⟩ := R.ob n _ a ho hn
      exact ⟨xs, vs, e2, hx, Option.some.inj e⟩
    · cases e
  refine ⟨fun e => ?_, fun d e => ?_⟩
  · obtain ⟨xs, vs, e2, hx, e3⟩ := at' e
    exact ⟨vs, SqL.of e2, by rw [hx.length]; exact List.getElem?_eq_none_iff.mp e3⟩
  · obtain ⟨xs, vs, e2, hx, e3⟩ := at' e
    obtain ⟨v, ev, rv⟩ := hx.get e3
    refine ⟨⟨vs, v, SqL.of e2, ev⟩, fun x H' y => ?_⟩
    obtain ⟨rfl, y⟩ := y
    have e4 := y vs (SqL.of e2)
    rw [ev] at e4
    cases e4
    exact ⟨Gr.refl _ _, R, rv⟩
theorem src_tup {vs : List V} {xs : List D} (ha : ∀ α H, Gr α0 H0 α H → (∃ hd, Rl K α hd H) → H a = some (.tup vs) ∧ RelDs K α H xs vs) : SrcOk K (Itt K a) (fun i _ => some xs[i]?) α0 H0 := by
  intro i α hd H g R
  obtain ⟨hq, hx⟩ := ha α H g ⟨hd, R⟩
  refine ⟨fun e => ⟨vs, SqT.of hq, ?_⟩, fun d e => ?_⟩
  · rw [hx.length]
    exact List.getElem?_eq_none_iff.mp (Option.some.inj e)
  · obtain ⟨v, ev, rv⟩ := hx.get (Option.some.inj e)
    refine ⟨⟨vs, v, SqT.of hq, ev⟩, fun x H' y => ?_⟩
    obtain ⟨rfl, y⟩ := y
    have e2 := y vs (SqT.of hq)
    rw [ev] at e2
    cases e2
    exact ⟨Gr.refl _ _, R, rv⟩
theorem src_str (s : List Nat) : SrcOk K (Its (mkS s)) (fun i _ => some (s.map fun c => D.str [c])[i]?) α0 H0 := by
  intro i α hd H g R
  refine ⟨fun e => ?_, fun d e => ?_⟩
  · have e2 := List.getElem?_eq_none_iff.mp (Option.some.inj e)
    show s.toArray.size ≤ i
    simpa using e2
  · have e := Option.some.inj e
    rw [List.getElem?_map, Option.map_eq_some_iff] at e
    obtain ⟨c, ec, rfl⟩ := e
    refine ⟨?_, fun x H' y => ?_⟩
    · show i < s.toArray.size
      simpa using (List.getElem?_eq_some_iff.mp ec).1
    · obtain ⟨rfl, c', ec', rfl⟩ := y
      refine ⟨Gr.refl _ _, R, ?_⟩
      have : (mkS s).cps[i]? = s[i]? := by simp [mkS]
      rw [this, ec] at ec'
      cases ec'
      rfl
theorem pyIter_W {tg : Expr} {pins : List (Addr × Obj)} {s : Shared} {σ : L2.St} {w : W} {v : V} {u : Value} {src : Src} {Q : It → Hp → Prop} (I : Inv X pins σ H s) (ru : RelV v u) (R : Rl X.K α hd H) (r : RelW X.K α H w v) (e : w.src hd = some src)
    (go : ∀ J, SrcOk X.K J src.get α H → Q J H) : wpAny (model X.prog X.w) X.A (pyIter u) (PIE X pins σ tg Q) X.xe s := by
  have lists : ∀ {b : Addr} {vs : List V}, u = .ref b → SqL X.K H b vs → Q (Itl X.K b) H → wpAny (model X.prog X.w) X.A (pyIter u) (PIE X pins σ tg Q) X.xe s := by
    intro b vs eu hq q
    subst eu
    obtain ⟨us, rv, pl, _⟩ := I.list hq
    refine wpAny_pyIter_list pl.isList ⟨_, [_], _, _, _, rfl, I.kept (t' := s.toks) fun c o z => Heap.get?_push_of_some _ z, turn_list b _, ⟨_, Heap.get?_push_size _ rfl, rfl, rfl⟩, fun c hc => ?_, q⟩
    cases List.mem_singleton.mp hc
    exact I.fpOk (Nat.le_refl _) I.fresh
  cases w with
  | l xs =>
    cases e
    obtain ⟨b, vs, rfl, hb, hn, hx⟩ := r
    exact lists ru (SqL.of hb) (go _ (src_list (vs := vs) fun α' H' g R' => ⟨SqL.of (g.fr b _ hb hn), hx.gr R g⟩))
  | v d =>
    cases d with
    | tup xs =>
      cases e
      obtain ⟨b, vs, rfl, hb, hx⟩ := r
      cases ru
      obtain ⟨us, rv, pt, _⟩ := I.tuple (SqT.of hb)
      refine wpAny_pyIter_tuple (show s.heap.IsTuple b us.toArray from pt) ⟨_, [_], _, _, _, rfl, I.kept (t' := s.toks) fun c o z => Heap.get?_push_of_some _ z, turn_tuple b _, ⟨_, Heap.get?_push_size _ rfl, rfl, rfl⟩, fun c hc => ?_, go _ (src_tup fun α' H' g R' => ⟨sqT_gr R g hb, hx.gr R g⟩)⟩
      cases List.mem_singleton.mp hc
      exact I.fpOk (Nat.le_refl _) I.fresh
    | ro xs =>
      cases e
      obtain ⟨b, vs, rfl, hb, hx⟩ := r
      exact lists ru hb.sq (go _ (src_list (vs := vs) fun α' H' g R' => ⟨(ro_gr R g hb).sq, hx.gr R g⟩))
    | str t =>
      cases e
      cases (show v = V.str (mkS t) from r)
      obtain ⟨k, rfl⟩ := ru
      cases hk : (mkS t).cps.all (· < 128) with
      | false => exact wpAny_pyIter_wide hk (pi_one (tk := s.toks) I _ (turn_str _ (mkS t) k "str_iterator" (.inr rfl)) ⟨_, Heap.get?_push_size _ rfl, rfl, rfl⟩ (go _ (src_str t)))
      | true => exact wpAny_pyIter_ascii hk (pi_one (tk := s.toks) I _ (turn_str _ (mkS t) k "str_ascii_iterator" (.inl rfl)) ⟨_, Heap.get?_push_size _ rfl, rfl, rfl⟩ (go _ (src_str t)))
    | obj n =>
      simp only [W.src] at e
      split at e
      · rename_i xs ho
        cases e
        obtain ⟨b, vs, eb, rfl, hb, hx⟩ := lst_of R r ho
        exact lists ru (SqL.of hb) (go _ (src_re eb))
      · cases e
    | _ => cases e
theorem srcs_of {f : FS} {σ : L2.St} {Q : It → Hp → Prop} (q : TIs K f σ H Q) : ∃ α σd hd s hd', Rl K α hd H ∧ RelS K α H σd σ ∧ f σd hd = .ok s hd' ∧ ∀ α' H' J, Gr α H α' H' → Rl K α' hd' H' → SrcOk K J s.get α' H' → Q J H' := by
  obtain ⟨α, σd, hd, R, S, q⟩ := q
  cases e : f σd hd with
  | ok s hd' => rw [e] at q; exact ⟨α, σd, hd, s, hd', R, S, e, q⟩
  | ex => rw [e] at q; exact q.elim
  | no => rw [e] at q; exact q.elim
theorem bind_ok_of {A B : Type} {r : DL.R A} {k : A → Hd → DL.R B} {b : B} {h' : Hd} (e : r.bind k = .ok b h') : ∃ a h1, r = .ok a h1 ∧ k a h1 = .ok b h' := by
  cases r with
  | ok a h1 => exact ⟨a, h1, rfl, e⟩
  | ex => cases e
  | no => cases e
theorem ofO_ok {A : Type} {o : Option A} {h h' : Hd} {a : A} (e : DL.R.ofO o h = .ok a h') : o = some a ∧ h' = h := by
  cases o with
  | none => cases e
  | some x => cases e; exact ⟨rfl, rfl⟩
def sVal (f : FV) : FS := fun σ h => (f σ h).bind fun w h => R.ofO (w.src h) h
theorem i_val {tg e : Expr} {f : FV} (he : EOk X f e) : IOk X tg (sVal f) e := by
  refine ⟨⟨fun pins s σ H Q I q => ?_⟩, folded_no he.pl _⟩
  obtain ⟨α, σd, hd, src, hd', R, S, e1, q⟩ := srcs_of q
  obtain ⟨w, h1, ef, e2⟩ := bind_ok_of e1
  obtain ⟨e3, rfl⟩ := ofO_ok e2
  refine thn (he.pe.run pins s σ H (fun v H' => ∃ α', Gr α H α' H' ∧ Rl X.K α' hd' H' ∧ RelW X.K α' H' w v) I ⟨α, σd, hd, R, S, ?_⟩) fun u s1 ⟨v, H1, I1, ru, α1, g1, R1, r1⟩ => ?_
  · rw [ef]
    exact fun α' H' v g R' r n => ⟨α', g, R', r⟩
  · exact pyIter_W I1 ru R1 r1 e3 fun J ok => q α1 H1 J g1 R1 ok
theorem src_ints (lo : Int) (n : Nat) : SrcOk K (Itr lo n) (fun i _ => some ((List.range n).map fun (k : Nat) => D.int (lo + k))[i]?) α0 H0 := by
  intro i α hd H g R
  refine ⟨fun e => ?_, fun d e => ?_⟩
  · have e2 := List.getElem?_eq_none_iff.mp (Option.some.inj e)
    show n ≤ i
    simpa using e2
  · have e := Option.some.inj e
    rw [List.getElem?_map, Option.map_eq_some_iff] at e
    obtain ⟨k, ek, rfl⟩ := e
    have hk := (List.getElem?_eq_some_iff.mp ek)
    obtain ⟨h1, h2⟩ := hk
    rw [List.getElem_range] at h2
    subst h2
    refine ⟨show i < n by simpa using h1, fun x H' y => ?_⟩
    obtain ⟨rfl, rfl⟩ := y
    exact ⟨Gr.refl _ _, R, rfl⟩
def rngSrc (lo hi : Int) : Option Src := if -(2 ^ 62) ≤ lo ∧ lo < 2 ^ 62 ∧ -(2 ^ 62) ≤ hi ∧ hi < 2 ^ 62 then some (.fx ((List.range (hi - lo).toNat).map fun (k : Nat) => D.int (lo + k))) else none
def sRng1 (f : FV) : FS := fun σ h => (f σ h).bind fun w h => match w with
  | .v (.int j) => R.ofO (rngSrc 0 j) h
  | _ => .no
theorem rng_ok {lo hi : Int} {s : Src} (e : rngSrc lo hi = some s) : (-(2 ^ 62) ≤ lo ∧ lo < 2 ^ 62 ∧ -(2 ^ 62) ≤ hi ∧ hi < 2 ^ 62) ∧ s = .fx ((List.range (hi - lo).toNat).map fun (k : Nat) => D.int (lo + k)) := by
  unfold rngSrc at e
  split at e
  · rename_i h
    cases e
    exact ⟨h, rfl⟩
  · cases e
theorem i_rng1 {tg e : Expr} {f : FV} {p pos : Pos} (hg : Gl X "range") (hm : X.mg "range" = none) (he : EOk X f e) : IOk X tg (sRng1 f) (.Call (.Name "range" p) [e] [] pos) := by
  refine ⟨PI.weak (pi_range1 hg hm (pa_cons he.pe pa_nil (star_cons he.pl _ _)) (by rw [star_cons he.pl]; rfl)) fun σ H Q q => ?_, folded_no rfl _⟩
  obtain ⟨α, σd, hd, src, hd', R, S, e1, q⟩ := srcs_of q
  obtain ⟨w, h1, ef, e2⟩ := bind_ok_of e1
  refine ⟨α, σd, hd, R, S, ?_⟩
  rw [ef]
  intro α' H' v g R' r n
  cases w with
  | l xs => cases e2
  | v d =>
    cases d with
    | int j =>
      obtain ⟨e3, rfl⟩ := ofO_ok e2
      obtain ⟨b, rfl⟩ := rng_ok e3
      refine ⟨j, by rw [show v = V.int j from r], b.2.2.1, b.2.2.2, q α' H' _ g R' ?_⟩
      rw [Int.sub_zero]
      exact src_ints 0 j.toNat
    | _ => cases e2
def sRng2 (f f' : FV) : FS := fun σ h => (f σ h).bind fun w h => (f' σ h).bind fun w' h => match w, w' with
  | .v (.int i), .v (.int j) => R.ofO (rngSrc i j) h
  | _, _ => .no
theorem i_rng2 {tg e e' : Expr} {f f' : FV} {p pos : Pos} (hg : Gl X "range") (hm : X.mg "range" = none) (he : EOk X f e) (he' : EOk X f' e') : IOk X tg (sRng2 f f') (.Call (.Name "range" p) [e, e'] [] pos) := by
  refine ⟨PI.weak (pi_range2 hg hm (pa_cons he.pe (pa_cons he'.pe pa_nil (star_cons he'.pl _ _)) (star_cons he.pl _ _)) (by rw [star_cons he.pl, star_cons he'.pl]; rfl) (by rw [star_cons he'.pl]; rfl)) fun σ H Q q => ?_, folded_no rfl _⟩
  obtain ⟨α, σd, hd, src, hd', R, S, e1, q⟩ := srcs_of q
  obtain ⟨w, h1, ef, e2⟩ := bind_ok_of e1
  obtain ⟨w', h2, ef', e3⟩ := bind_ok_of e2
  refine ⟨α, σd, hd, R, S, ?_⟩
  rw [ef]
  intro α' H' v g R' r n
  refine ⟨α', σd, h1, R', S.gr R g, ?_⟩
  rw [ef']
  intro α'' H'' v' g' R'' r' n'
  cases w with
  | l xs => cases e3
  | v d =>
    cases w' with
    | l xs => cases d <;> cases e3
    | v d' =>
      cases d with
      | int i =>
        cases d' with
        | int j =>
          obtain ⟨e4, rfl⟩ := ofO_ok e3
          obtain ⟨b, rfl⟩ := rng_ok e4
          refine ⟨i, j, by rw [show v = V.int i from r, show v' = V.int j from r'], b, q α'' H'' _ (g.trans g') R'' ?_⟩
          exact src_ints i _
        | _ => cases e3
      | _ => cases e3
def DK.d : DK → D
  | .inl i => .int i
  | .inr s => .str s
theorem DK.d_rel (k : DK) : RelD K α H k.d (kV k.key) := by
  cases k <;> rfl
theorem DK.ds_rel : ∀ ks : List DK, RelDs K α H (ks.map DK.d) ((ks.map DK.key).map kV)
  | [] => rfl
  | k :: ks => ⟨_, _, rfl, DK.d_rel k, DK.ds_rel ks⟩
theorem relKK_get : ∀ {kvs : List (DK × D)} {l : List (Key × V)} {i : Nat}, RelKK K α H kvs l → ∀ {k : DK} {d : D}, kvs[i]? = some (k, d) → ∃ v, l[i]? = some (k.key, v) ∧ RelD K α H d v
  | [], _, _, _, _, _, e => by simp at e
  | (k', d') :: r, l, 0, h, k, d, e => by
    obtain ⟨v, lr, rfl, h1, h2⟩ := h
    simp only [List.getElem?_cons_zero, Option.some.injEq, Prod.mk.injEq] at e
    obtain ⟨rfl, rfl⟩ := e
    exact ⟨v, rfl, h1⟩
  | (k', d') :: r, l, i + 1, h, k, d, e => by
    obtain ⟨v, lr, rfl, h1, h2⟩ := h
    simp only [List.getElem?_cons_succ] at e ⊢
    exact relKK_get h2 e
theorem relKT_get : ∀ {kvs : List (List DK × D)} {l : List (List Key × V)} {i : Nat}, RelKT K α H kvs l → ∀ {k : List DK} {d : D}, kvs[i]? = some (k, d) → ∃ v, l[i]? = some (k.map DK.key, v) ∧ RelD K α H d v
  | [], _, _, _, _, _, e => by simp at e
  | (k', d') :: r, l, 0, h, k, d, e => by
    obtain ⟨v, lr, rfl, h1, h2⟩ := h
    simp only [List.getElem?_cons_zero, Option.some.injEq, Prod.mk.injEq] at e
    obtain ⟨rfl, rfl⟩ := e
    exact ⟨v, rfl, h1⟩
  | (k', d') :: r, l, i + 1, h, k, d, e => by
    obtain ⟨v, lr, rfl, h1, h2⟩ := h
    simp only [List.getElem?_cons_succ] at e ⊢
    exact relKT_get h2 e
theorem relKT_len : ∀ {kvs : List (List DK × D)} {l : List (List Key × V)}, RelKT K α H kvs l → l.length = kvs.length
  | [], l, h => by rw [show l = [] from h]; rfl
  | (k, d) :: r, l, h => by
    obtain ⟨v, lr, rfl, _, h2⟩ := h
    rw [List.length_cons, List.length_cons, relKT_len h2]
inductive DW where
  | keys | vals | items
def dictSrc (m : DW) (w : W) (h : Hd) : Option Src := match w with
  | .v (.obj n) => match h[n]? with
    | some (.lkK kvs) => some (.re fun i h => match h[n]? with
      | some (.lkK kvs) => some (kvs[i]?.map fun kv => match m with
        | .keys => kv.1.d
        | .vals => kv.2
        | .items => .tup [kv.1.d, kv.2])
      | _ => none)
    | some (.lkT kvs) => match m with
      | .keys => some (.re fun i h => match h[n]? with
        | some (.lkT kvs) => some (kvs[i]?.map fun kv => .tup (kv.1.map DK.d))
        | _ => none)
      | _ => none
    | _ => none
  | _ => none
def sDict (m : DW) (f : FV) : FS := fun σ h => (f σ h).bind fun w h => R.ofO (dictSrc m w h) h
theorem src_dict {m : DW} {w : W} {v : V} {src : Src} {σ : L2.St} {J : It} (R : Rl K α hd H) (r : RelW K α H w v) (e : dictSrc m w hd = some src) :
    ∃ a o, v = .ref a ∧ ((∃ l, H a = some (.frz o (.dK l)) ∧ (match m with
      | .keys => SrcOk K (Itk a o l) src.get α H
      | .vals => SrcOk K (Itd a o l) src.get α H
      | .items => SrcOk K (Iti a o l) src.get α H)) ∨ ∃ l, H a = some (.frz o (.dT l)) ∧ m = .keys ∧ SrcOk K (Itkt a o l) src.get α H) := by
  cases w with
  | l xs => cases e
  | v d =>
    cases d with
    | obj n =>
      obtain ⟨a, ea, rfl⟩ := r
      simp only [dictSrc] at e
      split at e
      · rename_i kvs ho
        cases e
        obtain ⟨o, l, h0, rk⟩ := R.ob n _ a ho ea
        have st : ∀ {α' hd' H'}, Gr α H α' H' → Rl K α' hd' H' → H' a = some (.frz o (.dK l)) ∧ ∀ {kvs'}, hd'[n]? = some (.lkK kvs') → RelKK K α' H' kvs' l := by
          intro α' hd' H' g R'
          have h1 := g.fz a o _ h0
          refine ⟨h1, fun {kvs'} e' => ?_⟩
          obtain ⟨o', l', h2, rk'⟩ := R'.ob n _ a e' (g.get ea)
          rw [h1] at h2
          cases h2
          exact rk'
        refine ⟨a, o, rfl, .inl ⟨l, h0, ?_⟩⟩
        have core : ∀ {i : Nat} {α' : List Addr} {hd' : Hd} {H' : Hp} {z : Option D} {f : DK × D → D}, Gr α H α' H' → Rl K α' hd' H' → (match hd'[n]? with
            | some (.lkK kvs) => some (kvs[i]?.map f)
            | _ => none) = some z → (z = none → l.length ≤ i) ∧ ∀ d, z = some d → ∃ k d' v, l[i]? = some (DK.key k, v) ∧ RelD K α' H' d' v ∧ d = f (k, d') := by
          intro i α' hd' H' z f g R' e'
          split at e'
          · rename_i kvs' ho'
            have rk' := (st g R').2 ho'
            have e' := Option.some.inj e'
            refine ⟨fun ez => ?_, fun d ez => ?_⟩
            · subst ez
              rw [relKK_len rk']
              rw [Option.map_eq_none_iff] at e'
              exact List.getElem?_eq_none_iff.mp e'
            · subst ez
              obtain ⟨⟨k, d'⟩, e1, rfl⟩ := Option.map_eq_some_iff.mp e'
              obtain ⟨v, e2, rv⟩ := relKK_get rk' e1
              exact ⟨k, d', v, e2, rv, rfl⟩
          · cases e'
        cases m with
        | keys =>
          intro i α' hd' H' g R'
          refine ⟨fun e' => ⟨(st g R').1, (core g R' e').1 rfl⟩, fun d e' => ?_⟩
          obtain ⟨k, d', v, e2, rv, rfl⟩ := (core g R' e').2 d rfl
          refine ⟨⟨(st g R').1, (List.getElem?_eq_some_iff.mp e2).1⟩, fun x H2 y => ?_⟩
          obtain ⟨rfl, k2, v2, e3, rfl⟩ := y
          rw [e2] at e3
          cases e3
          exact ⟨Gr.refl _ _, R', DK.d_rel k⟩
        | vals =>
          intro i α' hd' H' g R'
          refine ⟨fun e' => ⟨(st g R').1, (core g R' e').1 rfl⟩, fun d e' => ?_⟩
          obtain ⟨k, d', v, e2, rv, rfl⟩ := (core g R' e').2 d rfl
          refine ⟨⟨(st g R').1, (List.getElem?_eq_some_iff.mp e2).1⟩, fun x H2 y => ?_⟩
          obtain ⟨rfl, k2, e3⟩ := y
          rw [e2] at e3
          cases e3
          exact ⟨Gr.refl _ _, R', rv⟩
        | items =>
          intro i α' hd' H' g R'
          refine ⟨fun e' => ⟨(st g R').1, (core g R' e').1 rfl⟩, fun d e' => ?_⟩
          obtain ⟨k, d', v, e2, rv, rfl⟩ := (core g R' e').2 d rfl
          refine ⟨⟨(st g R').1, (List.getElem?_eq_some_iff.mp e2).1⟩, fun x H2 y => ?_⟩
          obtain ⟨T, k2, v2, e3, rfl, nT, rfl⟩ := y
          rw [e2] at e3
          cases e3
          have g2 := Gr.upd R' nT (.tup [kV k.key, v])
          exact ⟨g2, R'.upd nT _, ⟨T, _, rfl, upd_same, ⟨_, _, rfl, DK.d_rel k, _, _, rfl, rv.gr R' g2, rfl⟩⟩⟩
      · rename_i kvs ho
        cases m with
        | keys =>
          cases e
          obtain ⟨o, l, h0, rk⟩ := R.ob n _ a ho ea
          refine ⟨a, o, rfl, .inr ⟨l, h0, rfl, ?_⟩⟩
          intro i α' hd' H' g R'
          have h1 := g.fz a o _ h0
          have core : ∀ {z : Option D}, (match hd'[n]? with
            | some (.lkT kvs) => some (kvs[i]?.map fun kv => D.tup (kv.1.map DK.d))
            | _ => none) = some z → (z = none → l.length ≤ i) ∧ ∀ d, z = some d → ∃ k v, l[i]? = some (List.map DK.key k, v) ∧ d = .tup (k.map DK.d) := by
            intro z e'
            split at e'
            · rename_i kvs' ho'
              obtain ⟨o', l', h2, rk'⟩ := R'.ob n _ a ho' (g.get ea)
              rw [h1] at h2
              cases h2
              have e' := Option.some.inj e'
              refine ⟨fun ez => ?_, fun d ez => ?_⟩
              · subst ez
                rw [relKT_len rk']
                rw [Option.map_eq_none_iff] at e'
                exact List.getElem?_eq_none_iff.mp e'
              · subst ez
                obtain ⟨⟨k, d'⟩, e1, rfl⟩ := Option.map_eq_some_iff.mp e'
                obtain ⟨v, e2, rv⟩ := relKT_get rk' e1
                exact ⟨k, v, e2, rfl⟩
            · cases e'
          refine ⟨fun e' => ⟨h1, (core e').1 rfl⟩, fun d e' => ?_⟩
          obtain ⟨k, v, e2, rfl⟩ := (core e').2 d rfl
          refine ⟨⟨h1, (List.getElem?_eq_some_iff.mp e2).1⟩, fun x H2 y => ?_⟩
          obtain ⟨rfl, k2, v2, q, e3, rfl, hq⟩ := y
          rw [e2] at e3
          cases e3
          exact ⟨Gr.refl _ _, R', ⟨q, _, rfl, hq, DK.ds_rel k⟩⟩
        | _ => cases e
      · cases e
    | _ => cases e
theorem i_keys {tg e : Expr} {f : FV} (he : EOk X f e) : IOk X tg (sDict .keys f) e := by
  refine ⟨PI.weak (pi_keys he.pe) fun σ H Q q => ?_, folded_no he.pl _⟩
  obtain ⟨α, σd, hd, src, hd', R, S, e1, q⟩ := srcs_of q
  obtain ⟨w, h1, ef, e2⟩ := bind_ok_of e1
  obtain ⟨e3, rfl⟩ := ofO_ok e2
  refine ⟨α, σd, hd, R, S, ?_⟩
  rw [ef]
  intro α' H' v g R' r n
  obtain ⟨a, o, rfl, z⟩ := src_dict (σ := σ) (J := Itr 0 0) R' r e3
  rcases z with ⟨l, h0, z⟩ | ⟨l, h0, _, z⟩
  · exact ⟨a, o, rfl, .inl ⟨l, h0, q α' H' _ g R' z⟩⟩
  · exact ⟨a, o, rfl, .inr ⟨l, h0, q α' H' _ g R' z⟩⟩
theorem i_items {elts : List Expr} {kk : Nat} {tpos : Pos} {e : Expr} {f : FV} {apos cpos : Pos} (he : EOk X f e) (hl : line1 apos cpos = true) : IOk X (.Tuple elts kk tpos) (sDict .items f) (.Call (.Attribute e "items" apos) [] [] cpos) := by
  refine ⟨PI.weak (pi_items he.pe (attr_no he.pl _ _) hl) fun σ H Q q => ?_, folded_no rfl _⟩
  obtain ⟨α, σd, hd, src, hd', R, S, e1, q⟩ := srcs_of q
  obtain ⟨w, h1, ef, e2⟩ := bind_ok_of e1
  obtain ⟨e3, rfl⟩ := ofO_ok e2
  refine ⟨α, σd, hd, R, S, ?_⟩
  rw [ef]
  intro α' H' v g R' r n
  obtain ⟨a, o, rfl, z⟩ := src_dict (σ := σ) (J := Itr 0 0) R' r e3
  rcases z with ⟨l, h0, z⟩ | ⟨l, h0, z2, z⟩
  · exact ⟨a, o, l, rfl, h0, q α' H' _ g R' z⟩
  · cases z2
theorem i_values {tg e : Expr} {f : FV} {apos cpos : Pos} (he : EOk X f e) (hl : line1 apos cpos = true) : IOk X tg (sDict .vals f) (.Call (.Attribute e "values" apos) [] [] cpos) := by
  refine ⟨PI.weak (pi_values he.pe (attr_no he.pl _ _) hl) fun σ H Q q => ?_, folded_no rfl _⟩
  obtain ⟨α, σd, hd, src, hd', R, S, e1, q⟩ := srcs_of q
  obtain ⟨w, h1, ef, e2⟩ := bind_ok_of e1
  obtain ⟨e3, rfl⟩ := ofO_ok e2
  refine ⟨α, σd, hd, R, S, ?_⟩
  rw [ef]
  intro α' H' v g R' r n
  obtain ⟨a, o, rfl, z⟩ := src_dict (σ := σ) (J := Itr 0 0) R' r e3
  rcases z with ⟨l, h0, z⟩ | ⟨l, h0, z2, z⟩
  · exact ⟨a, o, l, rfl, h0, q α' H' _ g R' z⟩
  · cases z2
end DL
namespace DL
open PySem PySem.Spec PyProof.Rows L2
variable {K : PySem.W.Frag}
variable {α α' α'' α1 α0 : List Addr} {H H' H'' H1 H0 : Hp} {hd hd' hd1 : Hd} {a p : Addr}
variable {X : Cx}
def Itse (x : Str) : It := ⟨fun i _ => i < x.cps.size, fun i H v H' => ∃ T c, v = .ref T ∧ H T = none ∧ H' = upd H T (.tup [.int (i : Nat), .str ⟨#[c]⟩]) ∧ x.cps[i]? = some c, fun i _ => x.cps.size ≤ i⟩
theorem turn_enumS {P : Program} {w : World} {K : PySem.W.Frag} {elts : List Expr} {kk : Nat} {tpos : Pos} (e it : Addr) (x : Str) (t : Tok) (ty : String) (hty : ty = "str_ascii_iterator" ∨ ty = "str_iterator") :
    Turn P w K (.Tuple elts kk tpos) (Itse x) [e, it] e (fun i h => (∃ old, IsEnum h e it ((i : Nat) : Int) old) ∧ h.IsStrIter it ty x t i ∧ e ≠ it) where
  mem := by simp
  obj := fun i h st b hb => by
    obtain ⟨⟨old, he⟩, ⟨o, ho, hc, hd⟩, _⟩ := st
    have e' : b = e ∨ b = it := by simpa using hb
    rcases e' with z | z
    · rw [z]; exact ⟨_, he, fun v q => nomatch q⟩
    · rw [z]; exact ⟨o, ho, fun v q => by rw [hd] at q; cases q⟩
  keep := fun i h h' st k => let ⟨⟨old, he⟩, ⟨o, ho, r⟩, hne⟩ := st; ⟨⟨old, k e (by simp) _ he⟩, ⟨o, k it (by simp) o ho, r⟩, hne⟩
  item := by
    intro X hP hw hK hc i pins s σ H E I hf st hg
    subst hP hw hK
    obtain ⟨⟨old, he⟩, hit, hne⟩ := st
    have hel : e < s.heap.objs.size := Heap.lt_size he
    have hil : it < s.heap.objs.size := by obtain ⟨_, q, _⟩ := hit; exact Heap.lt_size q
    have hh : X.A.in1.handled = none := I.ok.hd hc
    have D : Draws X.prog X.w X.A.in1 it [it] x.cps.size (fun i v => ∃ c u, x.cps[i]? = some c ∧ v = .str ⟨#[c]⟩ u) (fun i h => h.IsStrIter it ty x t i) := by
      rcases hty with q | q
      · rw [q]; exact Draws.strAscii hh it x t
      · rw [q]; exact Draws.strWide hh it x t
    refine wpAny_pyNext_enum_itemD D he hit hg hne (by simpa using hne) fun u h' tk hu ho hit' hT hsz hk => ?_
    obtain ⟨c, ut, hcx, rfl⟩ := hu
    refine ⟨_, rfl, wpAny_letOwnedTupleGo_enum (s := { s with heap := h', toks := tk + 1 }) ho fun h'' he' sb => ?_⟩
    have hT2 : h''.get? s.heap.objs.size = some { cls := .type "tuple", data := .seq #[.int i tk, .str ⟨#[c]⟩ ut] } := (sb.2 _ (Nat.ne_of_gt hel)).trans hT
    have new : ObjOk X.prog X.w (upd H s.heap.objs.size (.tup [.int (i : Nat), .str ⟨#[c]⟩])) h'' s.heap.objs.size (.tup [.int (i : Nat), .str ⟨#[c]⟩]) :=
      ⟨by show 2 ≤ sizeLine; decide, [.int i tk, .str ⟨#[c]⟩ ut], .cons ⟨_, rfl⟩ (.cons ⟨_, rfl⟩ .nil), ⟨_, hT2, rfl, _, rfl⟩⟩
    have I1 : Inv X pins σ (upd H s.heap.objs.size (.tup [.int (i : Nat), .str ⟨#[c]⟩])) { s with heap := h'', toks := tk + 1 } :=
      I.turnedNew (ch := [e, it]) (fun b ob hb q => (sb.2 b (fun z => hb (by simp [z]))).trans (hk b ob (fun z => hb (by simp [z])) (fun z => hb (by simp [z])) q)) hf (Nat.le_refl _) new
    refine ⟨.ref s.heap.objs.size, _, I1, rfl, ⟨_, c, rfl, I.hok.fresh (Nat.le_refl _), rfl, hcx⟩, ⟨⟨.str ⟨#[c]⟩ ut, ?_⟩, ?_, hne⟩, fun b hb => ?_⟩
    · have e1 : ((i + 1 : Nat) : Int) = (i : Int) + 1 := by omega
      rw [e1]; exact he'
    · obtain ⟨o, q, r⟩ := hit'
      exact ⟨o, (sb.2 it (Ne.symm hne)).trans q, r⟩
    · have hb' : b < s.heap.objs.size := by
        have e' : b = e ∨ b = it := by simpa using hb
        rcases e' with z | z
        · rw [z]; exact hel
        · rw [z]; exact hil
      rw [upd_ne (Nat.ne_of_lt hb')]
      exact (hf b hb).1
  done := by
    intro X hP hw hK hc i pins s σ H E I hf st hg
    subst hP hw hK
    obtain ⟨⟨old, he⟩, hit, hne⟩ := st
    obtain ⟨f0, f1, f2, f3, f4, f5⟩ := hf it (by simp)
    have hh : X.A.in1.handled = none := I.ok.hd hc
    have hx : x.cps[i]? = none := Array.getElem?_eq_none hg
    have fin : ∀ (n : Nat) (Q : Option Value → Shared → Prop), (∀ h', Heap.ExtBut it s.heap h' → Q none { s with heap := h' }) → wpAny (model X.prog X.w) X.A (pyNext (.ref e)) Q E s := by
      intro n Q hQ
      have D : Draws X.prog X.w X.A.in1 it [it] i (fun _ _ => False) (fun j h => j = i ∧ h.IsStrIter it ty x t i) := {
        live := fun _ _ st => let ⟨o, ho, _⟩ := st.2; ⟨o, ho⟩
        frame := fun _ _ _ st hk => let ⟨o, ho, r⟩ := st.2; ⟨st.1, o, hk it (by simp) o ho, r⟩
        item := fun j s Q E hj st hQ => absurd st.1 (by omega)
        done := fun s Q E st hE => by
          rcases hty with q | q
          · rw [q] at st; exact wpAny_nextOf_ascii_end hh st.2 hx hE
          · rw [q] at st; exact wpAny_nextOf_wide_end hh st.2 hx hE }
      exact wpAny_pyNext_enum_endD D he ⟨rfl, hit⟩ hQ
    exact fin 0 _ fun h' eb => ⟨rfl, I.turned (t' := s.toks) (fun b o hb q => eb b o hb q) f0 f1 f3 f4 f5⟩
  self := fun A i s Q E st h => let ⟨⟨_, he⟩, _⟩ := st; wpAny_pyIter_enum he h
def iEnumA (K : PySem.W.Frag) (ta : TA) : TI := fun σ H R => ta σ H fun vs H1 => ∃ v, vs = [v] ∧ ((∃ a xs, v = .ref a ∧ SqL K H1 a xs ∧ R (Ite K a) H1) ∨ ∃ x, v = .str x ∧ R (Itse x) H1)
theorem pi_enumA {X : Cx} {e : Expr} {ta : TA} {p pos tpos : Pos} {elts : List Expr} {kk : Nat} (hg : Gl X "enumerate") (hm : X.mg "enumerate" = none) (ha : PA X [e] ta) (hs : starEach [e] X.env = [(false, eval e X.env)] := by rfl) :
    PI X (.Tuple elts kk tpos) (.Call (.Name "enumerate" p) [e] [] pos) (iEnumA X.K ta) := by
  refine ⟨fun pins s σ H R I h => ?_⟩
  refine Call_ (ld_blt I hg hm boot_enumerate (PyProof.Rows.callWith_type1 (thn (ha.run pos pins s σ H _ I h) fun us s1 ⟨vs, H1, I1, r1, q1⟩ => ?_) hs rfl))
  obtain ⟨v, ex, q⟩ := q1
  subst ex
  cases r1 with
  | cons r rr =>
    cases rr
    have fp : ∀ b, b ∈ [s1.heap.objs.size + 1, s1.heap.objs.size] → FpOk X pins H1 b := fun b hb => by
      have e' : b = s1.heap.objs.size + 1 ∨ b = s1.heap.objs.size := by simpa using hb
      have hle : s1.heap.objs.size ≤ b := by
        rcases e' with z | z
        · rw [z]; exact Nat.le_add_right _ _
        · rw [z]; exact Nat.le_refl _
      exact I1.fpOk hle (I1.hok.fresh hle)
    rcases q with ⟨a, xs, rfl, hq, q⟩ | ⟨x, rfl, q⟩
    · cases r
      obtain ⟨its, rv, p', hz⟩ := I1.list hq
      refine call_enumerate_list p'.isList fun h' he hit hsz hk => wpAny_pyIter_enum he ?_
      have I2 : Inv X pins σ H1 { s1 with heap := h' } := I1.kept (t' := s1.toks) hk
      exact ⟨s1.heap.objs.size + 1, [s1.heap.objs.size + 1, s1.heap.objs.size], _, _, H1, rfl, I2, turn_enum a (s1.heap.objs.size + 1) s1.heap.objs.size, ⟨⟨.none, he⟩, hit, Nat.succ_ne_self _⟩, fp, q⟩
    · obtain ⟨t, rfl⟩ := r
      refine call_enumerate_str fun h' he hit hsz hk => wpAny_pyIter_enum he ?_
      have I2 : Inv X pins σ H1 { s1 with heap := h' } := I1.kept (t' := s1.toks) hk
      refine ⟨s1.heap.objs.size + 1, [s1.heap.objs.size + 1, s1.heap.objs.size], _, _, H1, rfl, I2, turn_enumS (s1.heap.objs.size + 1) s1.heap.objs.size x t (strIterType x) ?_, ⟨⟨.none, he⟩, hit, Nat.succ_ne_self _⟩, fp, q⟩
      unfold strIterType
      split
      · exact .inl rfl
      · exact .inr rfl
def pairI (xs : List D) : List D := xs.mapIdx fun i d => .tup [.int (i : Nat), d]
def W.enumSrc (w : W) (h : Hd) : Option Src := match w with
  | .l xs => some (.fx (pairI xs))
  | .v (.str s) => some (.fx (pairI (s.map fun c => .str [c])))
  | .v (.obj n) => match h[n]? with
    | some (.lst _) => some (.re fun i h => match h[n]? with
      | some (.lst xs) => some (xs[i]?.map fun d => .tup [.int (i : Nat), d])
      | _ => none)
    | _ => none
  | _ => none
def sEnum (f : FV) : FS := fun σ h => (f σ h).bind fun w h => R.ofO (w.enumSrc h) h
theorem src_enumL {vs : List V} {xs : List D} (ha : ∀ α H, Gr α0 H0 α H → (∃ hd, Rl K α hd H) → SqL K H a vs ∧ RelDs K α H xs vs) : SrcOk K (Ite K a) (fun i _ => some (pairI xs)[i]?) α0 H0 := by
  intro i α hd H g R
  obtain ⟨hq, hx⟩ := ha α H g ⟨hd, R⟩
  refine ⟨fun e => ⟨vs, hq, ?_⟩, fun d e => ?_⟩
  · rw [hx.length]
    have := List.getElem?_eq_none_iff.mp (Option.some.inj e)
    simpa [pairI] using this
  · have e := Option.some.inj e
    unfold pairI at e
    rw [List.getElem?_mapIdx, Option.map_eq_some_iff] at e
    obtain ⟨d, ed, rfl⟩ := e
    obtain ⟨v, ev, rv⟩ := hx.get ed
    refine ⟨⟨vs, v, hq, ev⟩, fun x H' y => ?_⟩
    obtain ⟨T, x', rfl, hT, rfl, y⟩ := y
    have e2 := y vs hq
    rw [ev] at e2
    cases e2
    have g2 := Gr.upd R hT (.tup [.int (i : Nat), v])
    exact ⟨g2, R.upd hT _, ⟨T, _, rfl, upd_same, ⟨_, _, rfl, rfl, _, _, rfl, rv.gr R g2, rfl⟩⟩⟩
theorem src_enumO {n : Nat} (h0 : α0[n]? = some a) : SrcOk K (Ite K a) (fun i h => match h[n]? with
      | some (.lst xs) => some (xs[i]?.map fun d => D.tup [.int (i : Nat), d])
      | _ => none) α0 H0 := by
  intro i α hd H g R
  have hn := g.get h0
  have at' : ∀ {z : Option D}, (match hd[n]? with
      | some (.lst xs) => some (xs[i]?.map fun d => D.tup [.int (i : Nat), d])
      | _ => none) = some z → ∃ xs vs, H a = some (.lst vs) ∧ RelDs K α H xs vs ∧ (xs[i]?.map fun d => D.tup [.int (i : Nat), d]) = z := by
    intro z e
    split at e
    · rename_i xs ho
      obtain ⟨vs, e2, hx⟩ := R.ob n _ a ho hn
      exact ⟨xs, vs, e2, hx, Option.some.inj e⟩
    · cases e
  refine ⟨fun e => ?_, fun d e => ?_⟩
  · obtain ⟨xs, vs, e2, hx, e3⟩ := at' e
    rw [Option.map_eq_none_iff] at e3
    exact ⟨vs, SqL.of e2, by rw [hx.length]; exact List.getElem?_eq_none_iff.mp e3⟩
  · obtain ⟨xs, vs, e2, hx, e3⟩ := at' e
    obtain ⟨d, ed, rfl⟩ := Option.map_eq_some_iff.mp e3
    obtain ⟨v, ev, rv⟩ := hx.get ed
    refine ⟨⟨vs, v, SqL.of e2, ev⟩, fun x H' y => ?_⟩
    obtain ⟨T, x', rfl, hT, rfl, y⟩ := y
    have e4 := y vs (SqL.of e2)
    rw [ev] at e4
    cases e4
    have g2 := Gr.upd R hT (.tup [.int (i : Nat), v])
    exact ⟨g2, R.upd hT _, ⟨T, _, rfl, upd_same, ⟨_, _, rfl, rfl, _, _, rfl, rv.gr R g2, rfl⟩⟩⟩
theorem src_enumS (s : List Nat) : SrcOk K (Itse (mkS s)) (fun i _ => some (pairI (s.map fun c => D.str [c]))[i]?) α0 H0 := by
  intro i α hd H g R
  refine ⟨fun e => ?_, fun d e => ?_⟩
  · have e2 := List.getElem?_eq_none_iff.mp (Option.some.inj e)
    show s.toArray.size ≤ i
    simpa [pairI] using e2
  · have e := Option.some.inj e
    unfold pairI at e
    rw [List.getElem?_mapIdx, Option.map_eq_some_iff] at e
    obtain ⟨d, ed, rfl⟩ := e
    rw [List.getElem?_map, Option.map_eq_some_iff] at ed
    obtain ⟨c, ec, rfl⟩ := ed
    refine ⟨?_, fun x H' y => ?_⟩
    · show i < s.toArray.size
      simpa using (List.getElem?_eq_some_iff.mp ec).1
    · obtain ⟨T, c', rfl, hT, rfl, ec'⟩ := y
      have : (mkS s).cps[i]? = s[i]? := by simp [mkS]
      rw [this, ec] at ec'
      cases ec'
      have g2 := Gr.upd R hT (.tup [.int (i : Nat), .str ⟨#[c]⟩])
      exact ⟨g2, R.upd hT _, ⟨T, _, rfl, upd_same, ⟨_, _, rfl, rfl, _, _, rfl, rfl, rfl⟩⟩⟩
theorem i_enum {e : Expr} {f : FV} {p pos tpos : Pos} {elts : List Expr} {kk : Nat} (hg : Gl X "enumerate") (hm : X.mg "enumerate" = none) (he : EOk X f e) : IOk X (.Tuple elts kk tpos) (sEnum f) (.Call (.Name "enumerate" p) [e] [] pos) := by
  refine ⟨PI.weak (pi_enumA hg hm (pa_cons he.pe pa_nil (star_cons he.pl _ _)) (by rw [star_cons he.pl]; rfl)) fun σ H Q q => ?_, folded_no rfl _⟩
  obtain ⟨α, σd, hd, src, hd', R, S, e1, q⟩ := srcs_of q
  obtain ⟨w, h1, ef, e2⟩ := bind_ok_of e1
  obtain ⟨e3, rfl⟩ := ofO_ok e2
  refine ⟨α, σd, hd, R, S, ?_⟩
  rw [ef]
  intro α' H' v g R' r n
  refine ⟨v, rfl, ?_⟩
  cases w with
  | l xs =>
    cases e3
    obtain ⟨b, vs, rfl, hb, hn, hx⟩ := r
    exact .inl ⟨b, vs, rfl, SqL.of hb, q α' H' _ g R' (src_enumL (vs := vs) fun α2 H2 g2 R2 => ⟨SqL.of (g2.fr b _ hb hn), hx.gr R' g2⟩)⟩
  | v d =>
    cases d with
    | str t =>
      cases e3
      cases (show v = V.str (mkS t) from r)
      exact .inr ⟨_, rfl, q α' H' _ g R' (src_enumS t)⟩
    | obj n =>
      simp only [W.enumSrc] at e3
      split at e3
      · rename_i xs ho
        cases e3
        obtain ⟨b, vs, eb, rfl, hb, hx⟩ := lst_of R' r ho
        exact .inl ⟨b, vs, rfl, SqL.of hb, q α' H' _ g R' (src_enumO eb)⟩
      · cases e3
    | _ => cases e3
end DL
namespace DL
open PySem PySem.Spec PyProof.Rows L2
variable {X : Cx}
def lookT (kvs : List D) (s : List Nat) : Option D := kvs.findSome? fun d => match d with
  | .tup [.str k, v] => if k = s then some v else none
  | _ => none
def vGd (o : Option D) (f : FV) : FV := fun σ h => (f σ h).bind fun w h => match o, w with
  | some (.tup kvs), .v (.str s) => R.ofO ((lookT kvs s).map .v) h
  | _, _ => .no
def GdOk (K : PySem.W.Frag) (w : World) (mg : Str → Option Value) (x : Str) (kvs : List D) : Prop := ∃ a, mg x = some (.ref a) ∧ ∀ s v, lookT kvs s = some v → ∃ z, KDct K w a (mkS s) z ∧ ∀ α H, RelD K α H v z
theorem e_gd {x : Str} {kvs : List D} {f : FV} {e : Expr} {p p2 : Pos} (hg : Gl X x) (hm : GdOk X.K X.w X.mg x kvs) (hd : (x == ("__debug__" : Str)) = false) (he : EOk X f e) (hs : PlainIx e) : EOk X (vGd (some (.tup kvs)) f) (.Subscript (.Name x p) e p2) := by
  obtain ⟨a, hm, hk⟩ := hm
  refine ⟨TV.mono_iff (pe_ix ix_kdict (pe_glob (v := V.ref a) hg hm rfl hd) he.pe hs) fun σ H Q q => ?_, rfl⟩
  obtain ⟨α, σd, hd, R, S, q⟩ := q
  show TV X.K f σ H fun y H2 => rIxD X.K X.w (V.ref a) y H2 Q
  refine ⟨α, σd, hd, R, S, ?_⟩
  unfold vGd at q
  cases e1 : f σd hd with
  | ok w h1 =>
    rw [e1] at q
    cases w with
    | v d =>
      cases d with
      | str s =>
        have q : PoW X.K α H (DL.R.ofO ((lookT kvs s).map .v) h1) Q := q
        cases e2 : lookT kvs s with
        | none => rw [e2] at q; exact q.elim
        | some d =>
          rw [e2] at q
          intro α' H' v g R' r n
          cases (show v = V.str (mkS s) from r)
          obtain ⟨z, hz, rz⟩ := hk s d e2
          exact ⟨a, mkS s, z, rfl, rfl, hz, q α' H' z g R' (rz _ _) trivial⟩
      | _ => exact q.elim
    | l xs => exact q.elim
  | ex => rw [e1] at q; exact q.elim
  | no => rw [e1] at q; exact q.elim
theorem gd_of {K : PySem.W.Frag} {w : World} {mg : Str → Option Value} {x : Str} {a : Addr} {es : Array DictEntry} {n : Nat} {kvs : List (List Nat × List Nat)} (hm : mg x = some (.ref a)) (hl : K.lookup a = some ⟨.type "dict", none, .dict es n, #[]⟩) (hk : PySem.W.KeysLit w.params es.toList)
    (hv : ∀ p ∈ kvs, ∃ u, PySem.W.nsIn K a (mkS p.1) = some (some u) ∧ RelV (V.str (mkS p.2)) u) : GdOk K w mg x (kvs.map fun p => .tup [.str p.1, .str p.2]) := by
  refine ⟨a, hm, fun s v e => ?_⟩
  unfold lookT at e
  obtain ⟨d, hd, e⟩ := List.exists_of_findSome?_eq_some e
  obtain ⟨p, hp, rfl⟩ := List.mem_map.mp hd
  simp only at e
  split at e
  · rename_i hs
    cases e
    obtain ⟨u, h1, h2⟩ := hv p hp
    subst hs
    exact ⟨_, ⟨es, n, u, hl, hk, h1, h2⟩, fun _ _ => rfl⟩
  · cases e
end DL
namespace DL
open PySem PySem.Spec PyProof.Rows L2 RT
variable {K : PySem.W.Frag}
variable {α α' α'' α1 α0 : List Addr} {H H' H'' H1 H0 : Hp} {hd hd' hd1 : Hd} {a p : Addr}
variable {X : Cx}
theorem rev_get {xs : List D} {i : Nat} {d : D} (e : xs.reverse[i]? = some d) : i < xs.length ∧ xs[xs.length - 1 - i]? = some d := by
  have hl := (List.getElem?_eq_some_iff.mp e).1
  rw [List.length_reverse] at hl
  rw [List.getElem?_reverse hl] at e
  exact ⟨hl, e⟩
theorem src_revL {vs : List V} {xs : List D} {n : Nat} (hn : n = xs.length) (ha : ∀ α H, Gr α0 H0 α H → (∃ hd, Rl K α hd H) → SqL K H a vs ∧ RelDs K α H xs vs) : SrcOk K (Itv K a n) (fun i _ => some xs.reverse[i]?) α0 H0 := by
  intro i α hd H g R
  obtain ⟨hq, hx⟩ := ha α H g ⟨hd, R⟩
  refine ⟨fun e => ?_, fun d e => ?_⟩
  · have := List.getElem?_eq_none_iff.mp (Option.some.inj e)
    rw [List.length_reverse] at this
    show n ≤ i
    omega
  · obtain ⟨hi, ed⟩ := rev_get (Option.some.inj e)
    obtain ⟨v, ev, rv⟩ := hx.get ed
    subst hn
    refine ⟨⟨hi, vs, v, hq, ev⟩, fun x H' y => ?_⟩
    obtain ⟨rfl, y⟩ := y
    have e2 := y vs hq
    rw [ev] at e2
    cases e2
    exact ⟨Gr.refl _ _, R, rv⟩
theorem src_revT {vs : List V} {xs : List D} {n : Nat} (hn : n = xs.length) (ha : ∀ α H, Gr α0 H0 α H → (∃ hd, Rl K α hd H) → H a = some (.tup vs) ∧ RelDs K α H xs vs) : SrcOk K (ItvT K a n) (fun i _ => some xs.reverse[i]?) α0 H0 := by
  intro i α hd H g R
  obtain ⟨hq, hx⟩ := ha α H g ⟨hd, R⟩
  refine ⟨fun e => ?_, fun d e => ?_⟩
  · have := List.getElem?_eq_none_iff.mp (Option.some.inj e)
    rw [List.length_reverse] at this
    show n ≤ i
    omega
  · obtain ⟨hi, ed⟩ := rev_get (Option.some.inj e)
    obtain ⟨v, ev, rv⟩ := hx.get ed
    subst hn
    refine ⟨⟨hi, vs, v, SqT.of hq, ev⟩, fun x H' y => ?_⟩
    obtain ⟨rfl, y⟩ := y
    have e2 := y vs (SqT.of hq)
    rw [ev] at e2
    cases e2
    exact ⟨Gr.refl _ _, R, rv⟩
def revSrc (w : W) : Option Src := match w with
  | .l xs => some (.fx xs.reverse)
  | .v (.tup xs) => some (.fx xs.reverse)
  | .v (.ro xs) => some (.fx xs.reverse)
  | _ => none
def sRev (f : FV) : FS := fun σ h => (f σ h).bind fun w h => R.ofO (revSrc w) h
theorem i_rev {tg e : Expr} {f : FV} {p pos : Pos} (hg : Gl X "reversed") (hm : X.mg "reversed" = none) (he : EOk X f e) : IOk X tg (sRev f) (.Call (.Name "reversed" p) [e] [] pos) := by
  refine ⟨PI.weak (pi_revA hg hm he.pe (star_cons he.pl _ _)) fun σ H Q q => ?_, fun _ => rfl⟩
  obtain ⟨α, σd, hd, s, hd', R, S, e0, q⟩ := srcs_of q
  obtain ⟨w, h1, ef, e1⟩ := bind_ok_of e0
  obtain ⟨e2, rfl⟩ := ofO_ok e1
  refine ⟨α, σd, hd, R, S, ?_⟩
  rw [ef]
  intro α1 H1 v g1 R1 r n
  cases w with
  | l xs =>
    cases e2
    obtain ⟨b, vs, rfl, hb, hn, hx⟩ := r
    refine ⟨b, vs, rfl, .inl ⟨SqL.of hb, q α1 H1 _ g1 R1 (src_revL (vs := vs) hx.length fun α' H' g R' => ⟨SqL.of (g.fr b _ hb hn), hx.gr R1 g⟩)⟩⟩
  | v d =>
    cases d with
    | tup xs =>
      cases e2
      obtain ⟨b, vs, rfl, hb, hx⟩ := r
      exact ⟨b, vs, rfl, .inr ⟨SqT.of hb, q α1 H1 _ g1 R1 (src_revT (vs := vs) hx.length fun α' H' g R' => ⟨sqT_gr R1 g hb, hx.gr R1 g⟩)⟩⟩
    | ro xs =>
      cases e2
      obtain ⟨b, vs, rfl, hb, hx⟩ := r
      exact ⟨b, vs, rfl, .inl ⟨hb.sq, q α1 H1 _ g1 R1 (src_revL (vs := vs) hx.length fun α' H' g R' => ⟨(ro_gr R1 g hb).sq, hx.gr R1 g⟩)⟩⟩
    | _ => cases e2
end DL
namespace DL
open PySem PySem.Spec PyProof.Rows L2
variable {K : PySem.W.Frag}
variable {α α' α'' α1 : List Addr} {H H' H'' H1 : Hp} {hd hd' hd1 : Hd} {a p : Addr}
variable {X : Cx}
def insO (i : Int) (d : D) (n : Nat) (h : Hd) : R W := match h[n]? with
  | some (.lst xs) => if xs.length < sizeLine ∧ 0 ≤ i ∧ i < 2 ^ 63 then .ok (.v .non) (h.set n (.lst (xs.take i.toNat ++ [d] ++ xs.drop i.toNat))) else .no
  | _ => .no
def mtIns (o x z : W) (h : Hd) : R W := match o, x, z with
  | .v (.obj n), .v (.int i), .v d => insO i d n h
  | _, _, _ => .no
theorem e_insert {f g g' : FV} {o e e' : Expr} {apos cpos : Pos} (ho : EOk X f o) (he : EOk X g e) (he' : EOk X g' e') (hl : line1 apos cpos = true) : EOk X (v3m isL f g (vSet g') mtIns) (.Call (.Attribute o "insert" apos) [e, e'] [] cpos) := by
  refine ⟨TV.mono_iff (pe_bm PySem.F.plainAttrs_list PySem.F.slot_list_insert PySem.F.type_list_insert mt_insert ho.pe (pa_cons he.pe (pa_cons (e_set he').pe pa_nil (star_cons he'.pl _ _)) (star_cons he.pl _ _)) (attr_no ho.pl _ _) (few2 he.pl he'.pl) hl (star_cons he.pl _ _) (stars_any (es := [e']) (by rw [List.all_cons, he'.pl]; rfl))) fun σ H Q q => ?_, rfl⟩
  obtain ⟨α, σd, hd, R, S, q⟩ := q
  have q : PoW X.K α H ((f σd hd).bind fun x h => if isL x h = true then (g σd h).bind fun y h => (vSet g' σd h).bind fun z h => mtIns x y z h else .no) Q := q
  refine TV.seq R S q.ok fun x hd1 α1 H1 v1 e1 g1 R1 S1 rx nx => ?_
  rw [e1] at q
  have q := q.from g1 R1
  split at q
  · rename_i hc
    refine ⟨isL_at R1 rx hc, ?_⟩
    refine TV.seq R1 S1 q.ok fun y hd2 α2 H2 v2 e2 g2 R2 S2 ry ny => ?_
    rw [e2] at q
    have q := q.from g2 R2
    refine TV.seq R2 S2 q.ok fun z hd3 α3 H3 v3 e3 g3 R3 S3 rz nz => ?_
    rw [e3] at q
    have q := q.from g3 R3
    have rx := (rx.gr R1 g2).gr R2 g3
    have ry := ry.gr R2 g3
    cases x with
    | l xs => exact q.elim
    | v d =>
      cases d with
      | obj n =>
        cases y with
        | l ys => exact q.elim
        | v dy =>
          cases dy with
          | int i =>
            cases z with
            | l zs => exact q.elim
            | v dz =>
              have q : PoW X.K α3 H3 (insO i dz n hd3) Q := q
              unfold insO at q
              split at q
              · rename_i xs hx0
                obtain ⟨b, vs, ea, rfl, hb, hx⟩ := lst_of R3 rx hx0
                split at q
                · rename_i hz
                  cases (show v2 = V.int i from ry)
                  have one : RelDs X.K α3 H3 [dz] [v3] := ⟨v3, [], rfl, rz, rfl⟩
                  refine ⟨b, vs, i, v3, rfl, rfl, hb, by rw [hx.length]; exact hz.1, hz.2.1, hz.2.2, ?_⟩
                  exact q.setO (d := .non) R3 ea hb rfl (RelO.newLst R3 ea hb rfl (((hx.take _).append one).append (hx.drop _))) rfl
                · exact q.elim
              · exact q.elim
          | _ => exact q.elim
      | _ => exact q.elim
  · exact q.elim
end DL
namespace DL
open PySem PySem.Spec PyProof.Rows L2

variable {K : PySem.W.Frag}
variable {α α' α'' α1 α0 : List Addr} {H H' H'' H1 H0 : Hp} {hd hd' hd1 : Hd} {a p : Addr}
variable {X : Cx}
def wipeD (σ : Sd) : List Nat → Sd
  | [] => σ
  | v :: vs => (wipeD σ vs).set v none
theorem RelS.setN {σd : Sd} {σ : L2.St} (S : RelS K α H σd σ) (i : Nat) : RelS K α H (σd.set i none) (σ.set i none) := by
  refine ⟨by simp [S.len], fun j e he => ?_⟩
  by_cases hj : j = i
  · subst hj
    by_cases hl : j < σd.length
    · rw [List.getElem?_set_self hl] at he
      cases he
    · rw [List.getElem?_eq_none (by simpa using hl)] at he
      cases he
  · rw [List.getElem?_set_ne (Ne.symm hj)] at he
    rw [List.getElem?_set_ne (Ne.symm hj)]
    exact S.ix j e he
theorem RelS.wipe {σd : Sd} {σ : L2.St} (S : RelS K α H σd σ) : ∀ vs : List Nat, RelS K α H (wipeD σd vs) (wipe σ vs)
  | [] => S
  | v :: vs => (RelS.wipe S vs).setN v
theorem wipe_get {σ : L2.St} {vs : List Nat} {i : Nat} (h : i ∈ vs) (hl : i < σ.length) : (wipe σ vs)[i]? = some none := by
  induction vs with
  | nil => cases h
  | cons v vs ih =>
    show ((wipe σ vs).set v none)[i]? = some none
    by_cases e : v = i
    · subst e
      rw [List.getElem?_set_self (by rw [wipe_length]; exact hl)]
    · rw [List.getElem?_set_ne e]
      rcases List.mem_cons.mp h with z | z
      · exact absurd z.symm e
      · exact ih z
theorem wipe_eq {σ σ' : L2.St} {vs : List Nat} (o : Out vs (wipe σ vs) σ') : wipe σ' vs = wipe σ vs := by
  apply List.ext_getElem?
  intro i
  have hlen : σ'.length = σ.length := by rw [o.1, wipe_length]
  by_cases hi : i ∈ vs
  · by_cases hl : i < σ.length
    · rw [wipe_get hi hl, wipe_get hi (by rw [hlen]; exact hl)]
    · rw [List.getElem?_eq_none (by rw [wipe_length, hlen]; omega), List.getElem?_eq_none (by rw [wipe_length]; omega)]
  · rw [wipe_out hi, o.2 i hi]
abbrev FC := D → Hd → R (Option D)
def compFx (b : FC) : List D → Hd → R (List D)
  | [], h => .ok [] h
  | d :: ds, h => (b d h).bind fun o h => (compFx b ds h).bind fun r h => .ok (match o with
    | some y => y :: r
    | none => r) h
def compRe (g : Nat → Hd → Option (Option D)) (b : FC) : Nat → Nat → Hd → R (List D)
  | 0, _, _ => .no
  | m + 1, i, h => match g i h with
    | none => .no
    | some none => .ok [] h
    | some (some d) => (b d h).bind fun o h => (compRe g b m (i + 1) h).bind fun r h => .ok (match o with
      | some y => y :: r
      | none => r) h
def FU : Nat := 2 ^ 62
def compS (s : Src) (b : FC) (h : Hd) : R (List D) := match s with
  | .fx xs => compFx b xs h
  | .re g => compRe g b FU 0 h
theorem compFx_re (b : FC) (xs : List D) : ∀ (i : Nat) (h : Hd), i ≤ xs.length → compRe (fun i _ => some xs[i]?) b (xs.length - i + 1) i h = compFx b (xs.drop i) h := by
  intro i
  generalize hn : xs.length - i = n
  induction n generalizing i with
  | zero =>
    intro h hi
    have e : xs[i]? = none := List.getElem?_eq_none (by omega)
    have e2 : xs.drop i = [] := List.drop_eq_nil_of_le (by omega)
    rw [e2]
    simp only [compRe, e]
    rfl
  | succ n ih =>
    intro h hi
    have hl : i < xs.length := by omega
    have e : xs[i]? = some xs[i] := List.getElem?_eq_getElem hl
    rw [List.drop_eq_getElem_cons hl]
    have e3 : compRe (fun i _ => some xs[i]?) b (n + 1 + 1) i h = (b xs[i] h).bind fun o h => (compRe (fun i _ => some xs[i]?) b (n + 1) (i + 1) h).bind fun r h => .ok (match o with
      | some y => y :: r
      | none => r) h := by
      rw [compRe]
      simp only [e]
    rw [e3]
    show _ = ((b xs[i] h).bind fun o h => (compFx b (xs.drop (i + 1)) h).bind fun r h => .ok (match o with
      | some y => y :: r
      | none => r) h)
    congr 1
    funext o h
    rw [ih (i + 1) (by omega) h (by omega)]
theorem compS_re (s : Src) (b : FC) (h : Hd) : ∃ m, compS s b h = compRe s.get b m 0 h := by
  cases s with
  | fx xs => exact ⟨xs.length - 0 + 1, by rw [show (Src.fx xs).get = fun i _ => some xs[i]? from rfl, compFx_re b xs 0 h (Nat.zero_le _)]; rfl⟩
  | re g => exact ⟨FU, rfl⟩
def turnF (tg : Tg) (c : FB) (f : FV) (own : List Nat) (σ : Sd) : FC := fun d h => match tg.put d (wipeD σ own) with
  | none => .no
  | some σ' => (c σ' h).bind fun b h => if b = true then (vSet f σ' h).bind fun w h => match w with
    | .v y => .ok (some y) h
    | .l _ => .no else .ok none h
def vLc (s : FS) (tg : Tg) (c : FB) (f : FV) (own : List Nat) : FV := fun σ h => (s σ h).bind fun s h => (compS s (turnF tg c f own σ) h).bind fun ys h => if ys.length ≤ sizeLine then .ok (.l ys) h else .no
theorem Gr.over {D : Addr} {o : HO} (g : Gr α H α' H') (hD : H D = Option.none) : Gr α H α' (L2.upd H' D o) :=
  ⟨g.pre, fun b u hb hn => by rw [upd_ne (ne_of_none hb hD)]; exact g.fr b u hb hn, fun b w u hb => by rw [upd_ne (ne_of_none hb hD)]; exact g.fz b w u hb⟩
section
variable {D : Addr} {vs ws : List V}
theorem over_tup (hD : H D = some (.lst vs)) : ∀ b us, H b = some (.tup us) → upd H D (.lst ws) b = some (.tup us) := fun b us e => by
  rw [upd_ne fun z => by subst z; rw [hD] at e; cases e]
  exact e
theorem over_ro (hD : H D = some (.lst vs)) : ∀ b us, IsRo K H b us → IsRo K (upd H D (.lst ws)) b us := fun b us e => by
  rcases e with ⟨o, e⟩ | e
  · refine .inl ⟨o, ?_⟩
    rw [upd_ne fun z => by subst z; rw [hD] at e; cases e]
    exact e
  · exact .inr e
theorem over_xt (hD : H D = some (.lst vs)) : ∀ b us, IsXt H b us → IsXt (upd H D (.lst ws)) b us := fun b us ⟨o, e, d⟩ => ⟨o, by
  rw [upd_ne fun z => by subst z; rw [hD] at e; cases e]
  exact e, d⟩
theorem Rl.over (R : Rl K α hd H) (hn : D ∉ α) (hD : H D = some (.lst vs)) : Rl K α hd (L2.upd H D (.lst ws)) :=
  ⟨R.len, R.nd, fun n o b h1 h2 => (R.ob n o b h1 h2).mono (fun _ _ e => e) (over_tup hD) ⟨over_ro hD, over_xt hD⟩ (upd_ne fun z => hn (z ▸ List.mem_of_getElem? h2))⟩
end
theorem TV_lc {s : FS} {tg : Tg} {c : FB} {f : FV} {own : List Nat} {σ : L2.St} {Q : VK} (ht : ∀ i ∈ tg.slots, i ∈ own) (q : TV K (vLc s tg c f own) σ H Q) : tLc (TIs K s) (gT K tg) (TB K c) (TV K (vSet f)) own σ H Q := by
  obtain ⟨α, σd, hd, R, S, q⟩ := q
  have q : PoW K α H ((s σd hd).bind fun s h => (compS s (turnF tg c f own σd) h).bind fun ys h => if ys.length ≤ sizeLine then .ok (.l ys) h else .no) Q := q
  obtain ⟨w0, h0, e0⟩ := q.ok
  obtain ⟨src, hd1, es, e1⟩ := bind_ok_of e0
  rw [es] at q
  refine ⟨α, σd, hd, R, S, ?_⟩
  rw [es]
  intro α1 H1 J g1 R1 ok Da hD
  have q : PoW K α1 H1 ((compS src (turnF tg c f own σd) hd1).bind fun ys h => if ys.length ≤ sizeLine then .ok (.l ys) h else .no) Q := q.from g1 R1
  obtain ⟨m0, em⟩ := compS_re src (turnF tg c f own σd) hd1
  rw [em] at q
  have S1 := S.gr R g1
  have nD1 := R1.none_out hD
  refine ⟨fun i m H => ∃ α hd acc vs, Gr α1 H1 α H ∧ Rl K α hd H ∧ Da ∉ α ∧ H Da = some (.lst vs) ∧ RelDs K α H acc vs ∧
      PoW K α1 H1 ((compRe src.get (turnF tg c f own σd) m i hd).bind fun ys h => if (acc ++ ys).length ≤ sizeLine then .ok (.l (acc ++ ys)) h else .no) Q,
    ⟨m0, α1, hd1, [], [], Gr.upd R1 hD _, R1.upd hD _, nD1, upd_same, rfl, q⟩, ?_⟩
  rintro i m H2 ⟨α2, hd2, acc, vs, g2, R2, nD2, eD2, rx, q⟩
  cases m with
  | zero => exact q.elim
  | succ m =>
    have gH : Gr α1 H1 α2 H2 := g2
    simp only [compRe] at q
    obtain ⟨stop, go⟩ := ok i α2 hd2 H2 gH R2
    cases eg : src.get i hd2 with
    | none => rw [eg] at q; exact q.elim
    | some o =>
      cases o with
      | none =>
        rw [eg] at q
        refine .inl ⟨stop eg, ?_⟩
        have q : PoW K α1 H1 (if (acc ++ []).length ≤ sizeLine then .ok (.l (acc ++ [])) hd2 else .no) Q := q
        rw [List.append_nil] at q
        split at q
        · refine q α2 H2 _ gH R2 ⟨Da, vs, rfl, eD2, nD2, rx⟩ fun b eb => ?_
          cases eb
          exact hD
        · exact q.elim
      | some d =>
        rw [eg] at q
        obtain ⟨go1, go2⟩ := go d eg
        refine .inr ⟨go1, fun H' => ∃ α hd acc vs, Gr α1 H1 α H' ∧ Rl K α hd H' ∧ Da ∉ α ∧ H' Da = some (.lst vs) ∧ RelDs K α H' acc vs ∧
          PoW K α1 H1 ((compRe src.get (turnF tg c f own σd) m (i + 1) hd).bind fun ys h => if (acc ++ ys).length ≤ sizeLine then .ok (.l (acc ++ ys)) h else .no) Q,
          fun H' z => ⟨m, Nat.lt_succ_self _, z⟩, fun x H3 y => ?_⟩
        obtain ⟨g3, R3, rd⟩ := go2 x H3 y
        simp only at q
        obtain ⟨w1, h1, e5⟩ := q.ok
        obtain ⟨ys1, hd5, e6, _⟩ := bind_ok_of e5
        obtain ⟨o1, hd4, e7, _⟩ := bind_ok_of e6
        have e7' := e7
        simp only [turnF] at e7
        split at e7
        · cases e7
        · rename_i σd' ep
          have S3 : RelS K α2 H3 (wipeD σd own) (wipe σ own) := (((S1.gr R1 gH).gr R2 g3).wipe own)
          refine ⟨α2, wipeD σd own, hd2, d, σd', R3, S3, rd, ep, fun σ' S' out => ⟨wipe_eq (out.mono ht), ?_⟩⟩
          have eD3 : H3 Da = some (.lst vs) := g3.fr Da _ eD2 nD2
          have rx3 := rx.gr R2 g3
          obtain ⟨b, hd3, eb, e8⟩ := bind_ok_of e7
          refine ⟨α2, σd', hd2, R3, S', ?_⟩
          rw [eb]
          intro α4 H4 g4 R4
          have nD4 := g4.notin eD3 nD2
          have eD4 : H4 Da = some (.lst vs) := g4.fr Da _ eD3 nD2
          have rx4 := rx3.gr R3 g4
          cases b with
          | false =>
            rw [if_neg Bool.false_ne_true]
            cases e8
            refine ⟨α4, hd4, acc, vs, (g2.trans g3).trans g4, R4, nD4, eD4, rx4, ?_⟩
            rw [e7'] at q
            simp only [DL.R.bind_ok] at q
            cases e9 : compRe src.get (turnF tg c f own σd) m (i + 1) hd4 with
            | ok zs hd6 => rw [e9] at q; exact q
            | ex => rw [e9] at q; exact q
            | no => rw [e9] at q; exact q
          | true =>
            rw [if_pos rfl]
            rw [if_pos rfl] at e8
            obtain ⟨w5, hd5', e9, e10⟩ := bind_ok_of e8
            refine ⟨α4, σd', hd3, R4, S'.gr R3 g4, ?_⟩
            rw [e9]
            intro α5 H5 y5 g5 R5 r5 _
            cases w5 with
            | l _ => cases e10
            | v y5d =>
              cases e10
              have nD5 := g5.notin eD4 nD4
              have eD5 : H5 Da = some (.lst vs) := g5.fr Da _ eD4 nD4
              have rx5 := rx4.gr R4 g5
              rw [e7'] at q
              simp only [DL.R.bind_ok] at q
              have q' : PoW K α1 H1 ((compRe src.get (turnF tg c f own σd) m (i + 1) hd4).bind fun ys h => if (acc ++ [y5d] ++ ys).length ≤ sizeLine then .ok (.l (acc ++ [y5d] ++ ys)) h else .no) Q := by
                cases e11 : compRe src.get (turnF tg c f own σd) m (i + 1) hd4 with
                | ok zs hd6 =>
                  rw [e11] at q
                  have q : PoW K α1 H1 (if (acc ++ y5d :: zs).length ≤ sizeLine then .ok (.l (acc ++ y5d :: zs)) hd6 else .no) Q := q
                  show PoW K α1 H1 (if (acc ++ [y5d] ++ zs).length ≤ sizeLine then .ok (.l (acc ++ [y5d] ++ zs)) hd6 else .no) Q
                  rw [List.append_assoc]
                  exact q
                | ex => rw [e11] at q; exact q
                | no => rw [e11] at q; exact q
              have small : acc.length < sizeLine := by
                obtain ⟨_, _, e12⟩ := q'.ok
                obtain ⟨zs, _, _, e13⟩ := bind_ok_of e12
                split at e13
                · rename_i hz
                  rw [List.length_append, List.length_append] at hz
                  simp only [List.length_singleton] at hz
                  omega
                · cases e13
              refine ⟨vs, eD5, by rw [rx5.length]; exact small, α5, hd4, acc ++ [y5d], vs ++ [y5], (((g2.trans g3).trans g4).trans g5).over hD, R5.over nD5 eD5, nD5, upd_same, ?_, q'⟩
              exact (rx5.append (es := [y5d]) (show RelDs K α5 H5 [y5d] [y5] from ⟨y5, [], rfl, r5, rfl⟩)).mono (fun _ _ e => e) (over_tup eD5) ⟨over_ro eD5, over_xt eD5⟩
end DL
namespace DL
open PySem PySem.Spec PyProof.Rows L2

variable {K : PySem.W.Frag}
variable {α α' α'' α1 α0 : List Addr} {H H' H'' H1 H0 : Hp} {hd hd' hd1 : Hd} {a p : Addr}
variable {X : Cx}
variable {Y : Ys} {Wx : WX}
inductive Fl where
  | nx (σ : Sd) | rt (w : W) | bk (σ : Sd) | ct (σ : Sd) | xc (c : Nat) (fs : List D) (σ : Sd)
abbrev FSt := Sd → Hd → R Fl
def PoS (K : PySem.W.Frag) (Y : Ys) (Wx : WX) (α : List Addr) (H : Hp) (r : R Fl) (D : Ends) : Prop := match r with
  | .ok (.nx σd') hd' => ∀ α' H' σ', Gr α H α' H' → Rl K α' hd' H' → RelS K α' H' σd' σ' → D.nx σ' H'
  | .ok (.bk σd') hd' => ∀ α' H' σ', Gr α H α' H' → Rl K α' hd' H' → RelS K α' H' σd' σ' → D.bk σ' H'
  | .ok (.ct σd') hd' => ∀ α' H' σ', Gr α H α' H' → Rl K α' hd' H' → RelS K α' H' σd' σ' → D.ct σ' H'
  | .ok (.rt w) hd' => ∀ α' H' v, Gr α H α' H' → Rl K α' hd' H' → RelW K α' H' w v → NewW H w v → D.rt v H'
  | .ok (.xc c fs σd') hd' => ∀ α' H' σ' (C : Addr) (ns : List Str) (d : Addr) (vs : List V), Gr α H α' H' → Rl K α' hd' H' → RelS K α' H' σd' σ' → Y[c]? = some (C, ns) → fs.length = ns.length → H' d = some (.xd (xfs ns vs)) → RelDs K α' H' fs vs → Wx (.ref C) (some d) σ' H'
  | _ => False
def TSd (K : PySem.W.Frag) (Y : Ys) (Wx : WX) (f : FSt) : TS := fun D σ H => ∃ α σd hd, Rl K α hd H ∧ RelS K α H σd σ ∧ PoS K Y Wx α H (f σd hd) D
theorem PoS.from {r : R Fl} {D : Ends} (g : Gr α H α1 H1) (R1 : Rl K α1 hd1 H1) (h : PoS K Y Wx α H r D) : PoS K Y Wx α1 H1 r D := by
  cases r with
  | ok w hd' =>
    cases w with
    | nx σ => exact fun α' H' σ' g' R' S' => h α' H' σ' (g.trans g') R' S'
    | bk σ => exact fun α' H' σ' g' R' S' => h α' H' σ' (g.trans g') R' S'
    | ct σ => exact fun α' H' σ' g' R' S' => h α' H' σ' (g.trans g') R' S'
    | rt w => exact fun α' H' v g' R' rw n => h α' H' v (g.trans g') R' rw (n.back g R1)
    | xc c fs σ => exact fun α' H' σ' C ns d vs g' R' => h α' H' σ' C ns d vs (g.trans g') R'
  | ex => exact h
  | no => exact h
theorem PoS.ok {r : R Fl} {D : Ends} (h : PoS K Y Wx α H r D) : ∃ b h, r = .ok b h := by
  cases r with
  | ok b h' => exact ⟨b, h', rfl⟩
  | _ => exact h.elim
def sNil : FSt := fun σ h => .ok (.nx σ) h
def sCons (f g : FSt) : FSt := fun σ h => (f σ h).bind fun r h => match r with
  | .nx σ' => g σ' h
  | r => .ok r h
theorem ss_nil : PSs X [] (TSd X.K Y Wx sNil) := by
  refine PSs.weak pss_nil fun D σ H q => ?_
  obtain ⟨α, σd, hd, R, S, q⟩ := q
  exact q α H σ (Gr.refl _ _) R S
theorem ss_cons {f g : FSt} {st : Stmt} {sts : List Stmt} (h : PS X st (TSd X.K Y Wx f)) (hs : PSs X sts (TSd X.K Y Wx g)) : PSs X (st :: sts) (TSd X.K Y Wx (sCons f g)) := by
  refine PSs.weak (pss_cons h hs) fun D σ H q => ?_
  obtain ⟨α, σd, hd, R, S, q⟩ := q
  have q : PoS X.K Y Wx α H ((f σd hd).bind fun r h => match r with
    | .nx σ' => g σ' h
    | r => .ok r h) D := q
  refine ⟨α, σd, hd, R, S, ?_⟩
  cases e : f σd hd with
  | ok r hd' =>
    rw [e] at q
    cases r with
    | nx σ1 => exact fun α' H' σ' g' R' S' => ⟨α', σ1, hd', R', S', q.from g' R'⟩
    | bk σ1 => exact q
    | ct σ1 => exact q
    | rt w => exact q
    | xc c fs σ1 => exact q
  | ex => rw [e] at q; exact q.elim
  | no => rw [e] at q; exact q.elim
theorem s_pass {pos : Pos} : PS X (.Pass pos) (TSd X.K Y Wx sNil) := by
  refine PS.weak ps_pass fun D σ H q => ?_
  obtain ⟨α, σd, hd, R, S, q⟩ := q
  exact q α H σ (Gr.refl _ _) R S
def sBrk : FSt := fun σ h => .ok (.bk σ) h
def sCnt : FSt := fun σ h => .ok (.ct σ) h
theorem s_brk {pos : Pos} : PS X (.Break pos) (TSd X.K Y Wx sBrk) := by
  refine PS.weak ps_break fun D σ H q => ?_
  obtain ⟨α, σd, hd, R, S, q⟩ := q
  exact q α H σ (Gr.refl _ _) R S
theorem s_cnt {pos : Pos} : PS X (.Continue pos) (TSd X.K Y Wx sCnt) := by
  refine PS.weak ps_continue fun D σ H q => ?_
  obtain ⟨α, σd, hd, R, S, q⟩ := q
  exact q α H σ (Gr.refl _ _) R S
def sExpr (f : FV) : FSt := fun σ h => (f σ h).bind fun _ h => .ok (.nx σ) h
theorem s_expr {f : FV} {e : Expr} {pos : Pos} (he : EOk X f e) (hn : noComp e = true) : PS X (.Expr e pos) (TSd X.K Y Wx (sExpr f)) := by
  refine PS.weak (ps_expr he.pe (swaps_no hn _ _ _)) fun D σ H q => ?_
  obtain ⟨α, σd, hd, R, S, q⟩ := q
  have q : PoS X.K Y Wx α H ((f σd hd).bind fun _ h => .ok (.nx σd) h) D := q
  refine TV.seq R S q.ok fun x hd1 α1 H1 v1 e g R1 S1 r n => ?_
  rw [e] at q
  exact q α1 H1 σ g R1 S1
def sRet (f : FV) : FSt := fun σ h => (f σ h).bind fun w h => .ok (.rt w) h
theorem s_ret {f : FV} {e : Expr} {pos : Pos} (he : EOk X f e) : PS X (.Return (some e) pos) (TSd X.K Y Wx (sRet f)) := by
  refine PS.weak (ps_ret he.pe) fun D σ H q => ?_
  obtain ⟨α, σd, hd, R, S, q⟩ := q
  have q : PoS X.K Y Wx α H ((f σd hd).bind fun w h => .ok (.rt w) h) D := q
  refine TV.seq R S q.ok fun x hd1 α1 H1 v1 e g R1 S1 r n => ?_
  rw [e] at q
  exact q α1 H1 v1 g R1 r n
def sRetN : FSt := fun _ h => .ok (.rt (.v .non)) h
theorem s_retN {pos : Pos} : PS X (.Return none pos) (TSd X.K Y Wx sRetN) := by
  refine PS.weak ps_retN fun D σ H q => ?_
  obtain ⟨α, σd, hd, R, S, q⟩ := q
  exact q α H .non (Gr.refl _ _) R rfl trivial
def sIf (c : FB) (f g : FSt) : FSt := fun σ h => (c σ h).bind fun b h => if b = true then f σ h else g σ h
theorem s_if {c : FB} {f g : FSt} {e : Expr} {a b : List Stmt} {pos : Pos} (hc : PT X e (TB X.K c)) (ha : PSs X a (TSd X.K Y Wx f)) (hb : PSs X b (TSd X.K Y Wx g)) : PS X (.If e a b pos) (TSd X.K Y Wx (sIf c f g)) := by
  refine PS.weak (ps_if hc ha hb) fun D σ H q => ?_
  obtain ⟨α, σd, hd, R, S, q⟩ := q
  have q : PoS X.K Y Wx α H ((c σd hd).bind fun b h => if b = true then f σd h else g σd h) D := q
  refine TB.seq R S q.ok fun x hd1 α1 H1 e g1 R1 S1 => ?_
  rw [e] at q
  have q := q.from g1 R1
  cases x with
  | true => exact ⟨α1, σd, hd1, R1, S1, q⟩
  | false => exact ⟨α1, σd, hd1, R1, S1, q⟩
def sPut (t : Tg) (f : FV) : FSt := fun σ h => (vSet f σ h).bind fun w h => match w with
  | .v d => match t.put d σ with
    | some σ' => .ok (.nx σ') h
    | none => .no
  | .l _ => .no
theorem sPut_go {t : Tg} {f : FV} {g : TG} {D : Ends} {σ : L2.St} (weak : ∀ v σ H Q, gT K t v σ H Q → g v σ H Q) (q : TSd K Y Wx (sPut t f) D σ H) : TV K (vSet f) σ H fun v H1 => g v σ H1 D.nx := by
  obtain ⟨α, σd, hd, R, S, q⟩ := q
  have q : PoS K Y Wx α H ((vSet f σd hd).bind fun w h => match w with
    | .v d => match t.put d σd with
      | some σ' => .ok (.nx σ') h
      | none => .no
    | .l _ => .no) D := q
  refine TV.seq R S q.ok fun x hd1 α1 H1 v1 e g1 R1 S1 r n => weak _ _ _ _ ?_
  rw [e] at q
  cases x with
  | l xs => exact q.elim
  | v d =>
    simp only at q
    split at q
    · rename_i σd' ep
      exact ⟨α1, σd, hd1, d, σd', R1, S1, r, ep, fun σ' S' _ => q α1 H1 σ' g1 R1 S'⟩
    · exact q.elim
theorem s_set {i : Nat} {f : FV} {x : Str} {e : Expr} {pos pos' : Pos} (hN : X.N.Nodup) (hi : X.N[i]? = some x) (hx : Loc X.env.scope x) (hf : X.fn x = true ∨ X.env.scope.names.lookup x = some .local) (he : EOk X f e) (hn : noComp e = true) :
    PS X (.Assign [.Name x pos'] e pos) (TSd X.K Y Wx (sPut (.nm i) f)) := by
  refine PS.weak (ps_set hN hi hx (e_set he).pe (swaps_no hn _ _ _) hf) fun D σ H q => ?_
  exact sPut_go (g := gName i) (fun v σ H Q z => by
    obtain ⟨α, σd, hd, d, σd', R, S, r, e, q⟩ := z
    cases e
    exact q _ (S.set r _) (Out.set _ _ _)) q
theorem s_asg {t : Tg} {f : FV} {tg e : Expr} {pos : Pos} (he : EOk X f e) (ht : PG X tg (gT X.K t)) (hs : swapsWithSole [tg] e pos.line X.env = pure false) (hw : swappedStores [tg] e X.env = pure none)
    (h1 : (assignEach [tg] X.env).map (·.2) = [assign tg X.env]) : PS X (.Assign [tg] e pos) (TSd X.K Y Wx (sPut t f)) :=
  PS.weak (ps_asg (e_set he).pe ht hs hw h1) fun D σ H q => sPut_go (fun _ _ _ _ z => z) q
theorem s_setLc {s : FS} {tg : Tg} {c : FB} {f : FV} {i : Nat} {y : Str} {py : Pos} {elt te iter : Expr} {ifs : List Expr} {scope : Scope} {own : List (Str × Nat)} {pos spos : Pos} (hc : X.calm = true) (hN : X.N.Nodup) (hy : X.N[i]? = some y) (hyl : X.env.scope.names.lookup y = some .local)
    (hsw : swapsWith (.ListComp elt [⟨te, iter, ifs, 0⟩] scope pos) (some (.Name y py)) spos.line X.env = pure true) (hi : IOk X te s iter) (ok : BlkOk X.N X.env.scope scope own)
    (hg : ∀ (s : Shared) (H : Hp) (C : Addr) (cl : List (Str × Addr)) (fp : List Addr), PG (X.blk s H scope (compEnvC scope cl C X.env) fp) te (gT X.K tg)) (ht : ∀ (s : Shared) (H : Hp) (C : Addr) (cl : List (Str × Addr)) (fp : List Addr), PTs (X.blk s H scope (compEnvC scope cl C X.env) fp) ifs (TB X.K c))
    (he : ∀ (s : Shared) (H : Hp) (C : Addr) (cl : List (Str × Addr)) (fp : List Addr), EOk (X.blk s H scope (compEnvC scope cl C X.env) fp) f elt) (hsl : ∀ i ∈ tg.slots, i ∈ own.map (·.2)) :
    PS X (.Assign [.Name y py] (.ListComp elt [⟨te, iter, ifs, 0⟩] scope pos) spos) (TSd X.K Y Wx (sPut (.nm i) (vLc s tg c f (own.map (·.2))))) := by
  refine PS.weak (ps_setLc (te := TV X.K (vSet f)) hc hN hy hyl hsw hi.pi ok hg ht (fun s H C cl fp => (e_set (he s H C cl fp)).pe) hi.fold) fun D σ H q => ?_
  refine TV_lc hsl (TV_set (sPut_go (g := gName i) (fun v σ H Q z => ?_) q))
  obtain ⟨α, σd, hd, d, σd', R, S, r, e, q⟩ := z
  cases e
  exact q _ (S.set r _) (Out.set _ _ _)
theorem e_lc {s : FS} {tg : Tg} {c : FB} {f : FV} {elt te iter : Expr} {ifs : List Expr} {scope : Scope} {own : List (Str × Nat)} {pos : Pos} (hc : X.calm = true) (hN : X.N.Nodup) (hi : IOk X te s iter) (ok : BlkOk X.N X.env.scope scope own)
    (hg : ∀ (s : Shared) (H : Hp) (C : Addr) (cl : List (Str × Addr)) (fp : List Addr), PG (X.blk s H scope (compEnvC scope cl C X.env) fp) te (gT X.K tg)) (ht : ∀ (s : Shared) (H : Hp) (C : Addr) (cl : List (Str × Addr)) (fp : List Addr), PTs (X.blk s H scope (compEnvC scope cl C X.env) fp) ifs (TB X.K c))
    (he : ∀ (s : Shared) (H : Hp) (C : Addr) (cl : List (Str × Addr)) (fp : List Addr), EOk (X.blk s H scope (compEnvC scope cl C X.env) fp) f elt) (hsl : ∀ i ∈ tg.slots, i ∈ own.map (·.2)) :
    EOk X (vLc s tg c f (own.map (·.2))) (.ListComp elt [⟨te, iter, ifs, 0⟩] scope pos) :=
  ⟨TV.mono_iff (pe_lc (te := TV X.K (vSet f)) hc hN hi.pi ok hg ht (fun s H C cl fp => (e_set (he s H C cl fp)).pe) hi.fold) fun σ H Q q => TV_lc hsl q, rfl⟩
def sPar (is : List Nat) (fs : List FV) : FSt := fun σ h => (vSeq fs σ h).bind fun ds h => match Tg.puts (is.map .nm) ds σ with
  | some σ' => .ok (.nx σ') h
  | none => .no
theorem s_par {i j : Nat} {fs : List FV} {x y : Str} {a b : Expr} {px py pt pos : Pos} {kt k2 : Nat} {pt2 : Pos} (hc : X.calm = true) (hN : X.N.Nodup) (hi : X.N[i]? = some x) (hj : X.N[j]? = some y) (hij : i ≠ j)
    (hx : X.env.scope.names.lookup x = some .local) (hy : X.env.scope.names.lookup y = some .local) (h : EsOk X fs [a, b])
    (hw : swappedStores [.Tuple [.Name x px, .Name y py] kt pt] (.Tuple [a, b] k2 pt2) X.env = pure (some [x, y])) (hs : swapsWithSole [.Tuple [.Name x px, .Name y py] kt pt] (.Tuple [a, b] k2 pt2) pos.line X.env = pure false) :
    PS X (.Assign [.Tuple [.Name x px, .Name y py] kt pt] (.Tuple [a, b] k2 pt2) pos) (TSd X.K Y Wx (sPar [i, j] fs)) := by
  refine PS.weak (ps_par hc hN hi hj hij hx hy (a_seq h) hw hs) fun D σ H q => ?_
  obtain ⟨α, σd, hd, R, S, q⟩ := q
  have q : PoS X.K Y Wx α H ((vSeq fs σd hd).bind fun ds h => match Tg.puts ([i, j].map .nm) ds σd with
    | some σ' => .ok (.nx σ') h
    | none => .no) D := q
  refine TL.seq R S q.ok fun ds hd1 α1 H1 vs e g1 R1 S1 rs => ?_
  rw [e] at q
  cases e1 : Tg.puts ([i, j].map .nm) ds σd with
  | none => rw [e1] at q; exact q.elim
  | some σ' =>
    rw [e1] at q
    cases ds with
    | nil => cases e1
    | cons d ds =>
      cases ds with
      | nil => cases e1
      | cons d2 ds =>
        cases ds with
        | cons _ _ => cases e1
        | nil =>
          obtain ⟨v, vr, rfl, r1, v2, vr2, rfl, r2, r3⟩ := rs
          rw [show vr2 = [] from r3]
          cases e1
          exact ⟨v, v2, rfl, q α1 H1 _ g1 R1 ((S1.set r1 i).set r2 j)⟩
def augI (op : Operator) (i : Int) (y : W) (h : Hd) : R W := match op, y with
  | .Add, .v (.int j) => .ok (.v (.int (i + j))) h
  | .Sub, .v (.int j) => .ok (.v (.int (i - j))) h
  | .Mult, .v (.int j) => if wide i || wide j then .ok (.v (.int (i * j))) h else .no
  | .FloorDiv, .v (.int j) => if 0 < j ∧ j < 1073741824 then .ok (.v (.int (i / j))) h else .no
  | .Mod, .v (.int j) => if 0 < j then .ok (.v (.int (i % j))) h else .no
  | _, _ => .no
def augW (op : Operator) (x y : W) (h : Hd) : R W := match op, x with
  | .Add, .v (.obj n) => match h[n]?, y.lst h with
    | some (.lst xs), some ys => if xs.length + ys.length ≤ sizeLine then .ok (.v (.obj n)) (h.set n (.lst (xs ++ ys))) else .no
    | _, _ => .no
  | op, .v (.int i) => augI op i y h
  | .Add, .v (.str s) => match y with
    | .v (.str t) => if s.length + t.length ≤ sizeLine then .ok (.v (.str (s ++ t))) h else .no
    | _ => .no
  | _, _ => .no
def rA (K : PySem.W.Frag) (op : Operator) : TIp := fun x y H Q => ∃ α hd wx wy, Rl K α hd H ∧ RelW K α H wx x ∧ RelW K α H wy y ∧ PoW K α H (augW op wx wy hd) Q
theorem ip_of {op : Operator} {r : R2} (h : OpR X (inplaceOp op) r) : PIp X op r := fun pins s σ H x y v u Q I rx ry q => h pins s σ H x y v u Q I rx ry q
theorem ipW (op : Operator) : PIp X op (rA X.K op) := by
  intro pins s σ H x y v u Q I rx ry h
  obtain ⟨α, hd, wx, wy, R, rwx, rwy, h⟩ := h
  cases wx with
  | l xs => cases op <;> exact h.elim
  | v dx =>
    cases dx with
    | int i =>
      cases (show x = V.int i from rwx)
      have e : augW op (.v (.int i)) wy hd = augI op i wy hd := by cases op <;> rfl
      rw [e] at h
      cases wy with
      | l ys => cases op <;> exact h.elim
      | v dy =>
        cases dy with
        | int j =>
          cases (show y = V.int j from rwy)
          cases op with
          | Add => exact iop_add pins s σ H _ _ v u Q I rx ry ⟨i, j, rfl, rfl, h.old (d := .int (i + j)) R rfl⟩
          | Sub => exact iop_sub pins s σ H _ _ v u Q I rx ry ⟨i, j, rfl, rfl, h.old (d := .int (i - j)) R rfl⟩
          | Mult =>
            simp only [augI] at h
            split at h
            · rename_i hz
              refine iop_mul pins s σ H _ _ v u Q I rx ry ⟨i, j, rfl, rfl, ?_, h.old (d := .int (i * j)) R rfl⟩
              simp only [wide, Bool.or_eq_true, Bool.and_eq_true, decide_eq_true_eq] at hz
              exact hz
            · exact h.elim
          | FloorDiv =>
            simp only [augI] at h
            split at h
            · rename_i hz
              exact iop_fdiv pins s σ H _ _ v u Q I rx ry ⟨i, j, rfl, rfl, hz, h.old (d := .int (i / j)) R rfl⟩
            · exact h.elim
          | Mod =>
            simp only [augI] at h
            split at h
            · rename_i hz
              exact iop_mod pins s σ H _ _ v u Q I rx ry ⟨i, j, rfl, rfl, hz, h.old (d := .int (i % j)) R rfl⟩
            · exact h.elim
          | _ => exact h.elim
        | _ => cases op <;> exact h.elim
    | str t =>
      cases op with
      | Add =>
        simp only [augW] at h
        split at h
        · rename_i t'
          split at h
          · rename_i hz
            cases (show x = V.str (mkS t) from rwx)
            cases (show y = V.str (mkS t') from rwy)
            refine iop_add_str pins s σ H _ _ v u Q I rx ry ⟨_, _, rfl, rfl, by rw [mkS_len, mkS_len]; exact hz, ?_⟩
            rw [mkS_app]
            exact h.old (d := .str (t ++ t')) R rfl
          · exact h.elim
        · exact h.elim
      | _ => exact h.elim
    | obj n =>
      cases op with
      | Add =>
        simp only [augW] at h
        split at h
        · rename_i xs ys ho ey
          obtain ⟨a, vs, e1, rfl, e2, hx⟩ := lst_of R rwx ho
          obtain ⟨b, ws, rfl, e3, hy⟩ := lst_at R rwy ey
          split at h
          · rename_i hz
            refine iop_ext pins s σ H _ _ v u Q I rx ry ⟨a, b, vs, ws, rfl, rfl, e2, e3, by rw [hx.length, hy.length]; exact hz, ?_⟩
            exact h.setO (d := .obj n) R e1 e2 rfl (RelO.newLst R e1 e2 rfl (hx.append hy)) ⟨a, e1, rfl⟩
          · exact h.elim
        · exact h.elim
      | _ => exact h.elim
    | _ => cases op <;> exact h.elim
def sAug (i : Nat) (op : Operator) (f : FV) : FSt := fun σ h => (vVar i σ h).bind fun x h => (f σ h).bind fun y h => (augW op x y h).bind fun w h => match w with
  | .v d => .ok (.nx (σ.set i (some d))) h
  | .l _ => .no
theorem s_aug {i : Nat} {op : Operator} {f : FV} {x : Str} {e : Expr} {pos pos' : Pos} (hN : X.N.Nodup) (hi : X.N[i]? = some x) (hx : Loc X.env.scope x) (hf : X.fn x = true ∨ X.env.scope.names.lookup x = some .local) (he : EOk X f e) :
    PS X (.AugAssign (.Name x pos') op e pos) (TSd X.K Y Wx (sAug i op f)) := by
  refine PS.weak (ps_aug hN hi hx he.pe (ipW op) hf) fun D σ H q => ?_
  obtain ⟨α, σd, hd, R, S, q⟩ := q
  have q : PoS X.K Y Wx α H ((vVar i σd hd).bind fun x h => (f σd h).bind fun y h => (augW op x y h).bind fun w h => match w with
    | .v d => .ok (.nx (σd.set i (some d))) h
    | .l _ => .no) D := q
  simp only [vVar] at q
  cases e0 : σd[i]? with
  | none => rw [e0] at q; exact q.elim
  | some o =>
    cases o with
    | none => rw [e0] at q; exact q.elim
    | some d =>
      rw [e0] at q
      simp only [DL.R.bind_ok] at q
      obtain ⟨v, ev, rv⟩ := S.ix i d e0
      refine ⟨v, ev, ?_⟩
      refine TV.seq R S q.ok fun y hd1 α1 H1 v1 e g1 R1 S1 r n => ?_
      rw [e] at q
      have q := q.from g1 R1
      refine ⟨α1, hd1, .v d, y, R1, rv.gr R g1, r, ?_⟩
      cases e2 : augW op (.v d) y hd1 with
      | ok w hd2 =>
        rw [e2] at q
        cases w with
        | v d2 => exact fun α2 H2 v2 g2 R2 r2 _ => q α2 H2 _ g2 R2 ((S1.gr R1 g2).set r2 i)
        | l xs => exact q.elim
      | ex => rw [e2] at q; exact q.elim
      | no => rw [e2] at q; exact q.elim
def setIx (o i : W) (d : D) (h : Hd) : Option Hd := match o, i with
  | .v (.obj n), .v k => match h[n]? with
    | some (.lst xs) => match k with
      | .int j => match ixN xs.length j with
        | some m => some (h.set n (.lst (xs.set m d)))
        | none => none
      | _ => none
    | some (.dK kvs) => match k.key? with
      | some key => if kvs.length < sizeLine then some (h.set n (.dK (putK kvs key d))) else none
      | none => none
    | some (.dT kvs) => match k with
      | .tup ks => match D.keys? ks with
        | some key => if kvs.length < sizeLine then some (h.set n (.dT (putK kvs key d))) else none
        | none => none
      | _ => none
    | _ => none
  | _, _ => none
def rSt (K : PySem.W.Frag) : TSet := fun o i v H Q => ∃ α hd wo wi d hd', Rl K α hd H ∧ RelW K α H wo o ∧ RelW K α H wi i ∧ RelD K α H d v ∧ setIx wo wi d hd = some hd' ∧ ∀ H', Gr α H α H' → Rl K α hd' H' → Q H'
theorem putK_rel {d : D} {v : V} {k : DK} (r : RelD K α H d v) : ∀ {kvs : List (DK × D)} {l : List (Key × V)}, RelKK K α H kvs l → RelKK K α H (putK kvs k d) (L2.putK l k.key v) := by
  have anyE : ∀ {kvs : List (DK × D)} {l : List (Key × V)}, RelKK K α H kvs l → (l.any fun kv => decide (kv.1 = k.key)) = kvs.any fun kv => decide (kv.1 = k) := by
    intro kvs
    induction kvs with
    | nil => intro l h; rw [show l = [] from h]; rfl
    | cons kd r ih =>
      obtain ⟨k', d'⟩ := kd
      intro l h
      obtain ⟨v', lr, rfl, h1, h2⟩ := h
      rw [List.any_cons, List.any_cons, ih h2]
      congr 1
      by_cases e : k' = k
      · subst e; simp
      · simp only [e, decide_false]
        exact decide_eq_false fun z => e (DK.key_inj z)
  have mapE : ∀ {kvs : List (DK × D)} {l : List (Key × V)}, RelKK K α H kvs l → RelKK K α H (kvs.map fun kv => if kv.1 = k then (kv.1, d) else kv) (l.map fun kv => if kv.1 = k.key then (kv.1, v) else kv) := by
    intro kvs
    induction kvs with
    | nil => intro l h; rw [show l = [] from h]; rfl
    | cons kd r' ih =>
      obtain ⟨k', d'⟩ := kd
      intro l h
      obtain ⟨v', lr, rfl, h1, h2⟩ := h
      rw [List.map_cons, List.map_cons]
      by_cases e : k' = k
      · subst e
        rw [if_pos rfl, if_pos rfl]
        exact ⟨v, _, rfl, r, ih h2⟩
      · rw [if_neg e, if_neg fun z => e (DK.key_inj z)]
        exact ⟨v', _, rfl, h1, ih h2⟩
  have appE : ∀ {kvs : List (DK × D)} {l : List (Key × V)}, RelKK K α H kvs l → RelKK K α H (kvs ++ [(k, d)]) (l ++ [(k.key, v)]) := by
    intro kvs
    induction kvs with
    | nil => intro l h; rw [show l = [] from h]; exact ⟨v, [], rfl, r, rfl⟩
    | cons kd r' ih =>
      obtain ⟨k', d'⟩ := kd
      intro l h
      obtain ⟨v', lr, rfl, h1, h2⟩ := h
      exact ⟨v', _, rfl, h1, ih h2⟩
  intro kvs l h
  unfold putK L2.putK
  rw [anyE h]
  split
  · exact mapE h
  · exact appE h
theorem putT_rel {d : D} {v : V} {k : List DK} (r : RelD K α H d v) : ∀ {kvs : List (List DK × D)} {l : List (List Key × V)}, RelKT K α H kvs l → RelKT K α H (putK kvs k d) (L2.putK l (k.map DK.key) v) := by
  have anyE : ∀ {kvs : List (List DK × D)} {l : List (List Key × V)}, RelKT K α H kvs l → (l.any fun kv => decide (kv.1 = k.map DK.key)) = kvs.any fun kv => decide (kv.1 = k) := by
    intro kvs
    induction kvs with
    | nil => intro l h; rw [show l = [] from h]; rfl
    | cons kd r ih =>
      obtain ⟨k', d'⟩ := kd
      intro l h
      obtain ⟨v', lr, rfl, h1, h2⟩ := h
      rw [List.any_cons, List.any_cons, ih h2]
      congr 1
      by_cases e : k' = k
      · subst e; simp
      · simp only [e, decide_false]
        exact decide_eq_false fun z => e (keyL_inj z)
  have mapE : ∀ {kvs : List (List DK × D)} {l : List (List Key × V)}, RelKT K α H kvs l → RelKT K α H (kvs.map fun kv => if kv.1 = k then (kv.1, d) else kv) (l.map fun kv => if kv.1 = k.map DK.key then (kv.1, v) else kv) := by
    intro kvs
    induction kvs with
    | nil => intro l h; rw [show l = [] from h]; rfl
    | cons kd r' ih =>
      obtain ⟨k', d'⟩ := kd
      intro l h
      obtain ⟨v', lr, rfl, h1, h2⟩ := h
      rw [List.map_cons, List.map_cons]
      by_cases e : k' = k
      · subst e
        rw [if_pos rfl, if_pos rfl]
        exact ⟨v, _, rfl, r, ih h2⟩
      · rw [if_neg e, if_neg fun z => e (keyL_inj z)]
        exact ⟨v', _, rfl, h1, ih h2⟩
  have appE : ∀ {kvs : List (List DK × D)} {l : List (List Key × V)}, RelKT K α H kvs l → RelKT K α H (kvs ++ [(k, d)]) (l ++ [(k.map DK.key, v)]) := by
    intro kvs
    induction kvs with
    | nil => intro l h; rw [show l = [] from h]; exact ⟨v, [], rfl, r, rfl⟩
    | cons kd r' ih =>
      obtain ⟨k', d'⟩ := kd
      intro l h
      obtain ⟨v', lr, rfl, h1, h2⟩ := h
      exact ⟨v', _, rfl, h1, ih h2⟩
  intro kvs l h
  unfold putK L2.putK
  rw [anyE h]
  split
  · exact mapE h
  · exact appE h
theorem setW (hu : Deep X) : PSet X (rSt X.K) := by
  intro pins s σ H o i v ov iv u Q I ro ri rv h
  obtain ⟨α, hd, wo, wi, d, hd', R, rwo, rwi, rd, e, q⟩ := h
  cases wo with
  | l xs => cases e
  | v dd =>
    cases dd with
    | obj n =>
      cases wi with
      | l ys => cases e
      | v k =>
        obtain ⟨a, ea, rfl⟩ := rwo
        cases ro
        simp only [setIx] at e
        split at e
        · rename_i xs ho
          obtain ⟨vs, e2, hx⟩ := R.ob n _ a ho ea
          cases k with
          | int j =>
            cases (show i = V.int j from rwi)
            simp only at e
            split at e
            · rename_i m em
              cases e
              refine set_list pins s σ H (.ref a) _ v _ iv u Q I (show L2.RelV (.ref a) (Value.ref a) from rfl) ri rv ⟨a, vs, j, m, rfl, rfl, e2, by rw [hx.length]; exact em, ?_⟩
              exact q _ (Gr.set ea e2 rfl _) (R.set ea e2 rfl (RelO.newLst R ea e2 rfl (hx.set rd m)))
            · cases e
          | _ => cases e
        · rename_i kvs ho
          obtain ⟨l, e2, hx⟩ := R.ob n _ a ho ea
          split at e
          · rename_i key ek
            split at e
            · rename_i hz
              cases e
              refine d_setItem (deep1 hu) I (.inl ⟨l, key.key, e2, key_at ek rwi, by rw [relKK_len hx]; exact hz, rfl⟩) ri rv fun s' I' => ⟨_, I', ?_⟩
              have gs := Gr.set ea e2 rfl (HO.dK (L2.putK l key.key v))
              exact q _ gs (R.set ea e2 rfl (o := .dK (putK kvs key d)) ⟨_, upd_same, (putK_rel rd hx).gr R gs⟩)
            · cases e
          · cases e
        · rename_i kvs ho
          obtain ⟨l, e2, hx⟩ := R.ob n _ a ho ea
          cases k with
          | tup ks =>
            simp only at e
            split at e
            · rename_i key ek
              split at e
              · rename_i hz
                cases e
                obtain ⟨b, vs, rfl, hb, hks⟩ := rwi
                rw [keys_at ek hks] at hb
                refine d_setItem (deep1 hu) I (.inr ⟨l, key.map DK.key, b, e2, rfl, hb, by rw [relKT_len hx]; exact hz, rfl⟩) ri rv fun s' I' => ⟨_, I', ?_⟩
                have gs := Gr.set ea e2 rfl (HO.dT (L2.putK l (key.map DK.key) v))
                exact q _ gs (R.set ea e2 rfl (o := .dT (putK kvs key d)) ⟨_, upd_same, (putT_rel rd hx).gr R gs⟩)
              · cases e
            · cases e
          | _ => cases e
        · cases e
    | _ => cases e
def sSub (fo fi fe : FV) : FSt := fun σ h => (vSet fe σ h).bind fun w h => (fo σ h).bind fun o h => (fi σ h).bind fun i h => match w with
  | .v d => match setIx o i d h with
    | some h' => .ok (.nx σ) h'
    | none => .no
  | .l _ => .no
def notSl : Expr → Bool
  | .Slice _ _ _ _ => false
  | _ => true
theorem plainIx_of {e : Expr} (h : notSl e = true) : PlainIx e := by
  cases e <;> first | exact fun _ _ => rfl | (cases h)
theorem assign_sub (o : Expr) {i : Expr} (hi : notSl i = true) (pos : Pos) (env : Env) (v : Value) : assign (.Subscript o i pos) env v = (do
      let ov ← holding [v] (eval o env)
      let iv ← holding [v, ov] (eval i env)
      standAt pos
      holding [v, ov, iv] (setItem ov iv v)
      release [v, ov, iv] []) := by
  cases i <;> first | rfl | (cases hi)
theorem s_sub (hu : Deep X) {fo fi fe : FV} {o i e : Expr} {pos pos' : Pos} (ho : EOk X fo o) (hi : EOk X fi i) (he : EOk X fe e) (hsl : notSl i = true) (hs : swapsWithSole [.Subscript o i pos'] e pos.line X.env = pure false) :
    PS X (.Assign [.Subscript o i pos'] e pos) (TSd X.K Y Wx (sSub fo fi fe)) := by
  refine PS.weak (ps_asg (e_set he).pe (pg_sub ho.pe hi.pe (setW hu) (assign_sub _ hsl _ _)) hs (by rfl) (by rfl)) fun D σ H q => ?_
  obtain ⟨α, σd, hd, R, S, q⟩ := q
  have q : PoS X.K Y Wx α H ((vSet fe σd hd).bind fun w h => (fo σd h).bind fun o h => (fi σd h).bind fun i h => match w with
    | .v d => match setIx o i d h with
      | some h' => .ok (.nx σd) h'
      | none => .no
    | .l _ => .no) D := q
  refine TV.seq R S q.ok fun w hd1 α1 H1 v1 e1 g1 R1 S1 r1 n1 => ?_
  rw [e1] at q
  have q := q.from g1 R1
  refine TV.seq R1 S1 q.ok fun o hd2 α2 H2 v2 e2 g2 R2 S2 r2 n2 => ?_
  rw [e2] at q
  have q := q.from g2 R2
  refine TV.seq R2 S2 q.ok fun i hd3 α3 H3 v3 e3 g3 R3 S3 r3 n3 => ?_
  rw [e3] at q
  have q := q.from g3 R3
  cases w with
  | l xs => exact q.elim
  | v d =>
    simp only at q
    split at q
    · rename_i hd4 e4
      exact ⟨α3, hd3, o, i, d, hd4, R3, r2.gr R2 g3, r3, RelD.gr R2 g3 (RelD.gr R1 g2 r1), e4, fun H' g' R' => q α3 H' σ g' R' (S3.gr R3 g')⟩
    · exact q.elim
theorem getW (hu : Deep X) : PGet X (rB X.K getIx) := by
  intro pins s σ H x y v u Q I rx ry h
  obtain ⟨α, hd, wx, wy, R, rwx, rwy, h⟩ := h
  obtain ⟨w, e, h⟩ := ofO_W h
  have n63 := line63
  rcases getIx_cases R rwx rwy e with ⟨t, i, c, rfl, rfl, hz, e2, rfl⟩ | ⟨a, vs, i, z, d, rfl, rfl, hq, e2, rfl, r⟩ | ⟨a, z, d, rfl, g, rfl, r⟩
  · obtain ⟨t1, rfl⟩ := rx
    obtain ⟨t2, rfl⟩ := ry
    obtain ⟨j, h1, h2, h3, h4, h5⟩ := atI_get e2
    refine getItem_str (c := c) (by
      have e3 : decide (i < -(2 ^ 63 : Int)) = false := decide_eq_false (by omega)
      have e4 : decide (i ≥ 2 ^ 63) = false := decide_eq_false (by omega)
      rw [e3, e4, Bool.or_false]) (by rw [mkS_len, h1]; simpa using h2) ⟨.str ⟨#[c]⟩, H, I.tok _, ⟨_, rfl⟩, h.old (d := .str [c]) R rfl⟩
  · cases rx
    obtain ⟨t, rfl⟩ := ry
    obtain ⟨j, h1, h2, h3, h4, h5⟩ := atI_get e2
    have q := h.old R r
    rcases hq with hq | hq
    · obtain ⟨its, rr, pl, hz⟩ := I.list hq
      obtain ⟨w', ew, rw'⟩ := rr.get h2
      have hl := rr.length
      have fin : EP X pins σ Q w' s := ⟨z, H, I, rw', q⟩
      by_cases h0 : 0 ≤ i
      · have hj : i.toNat = j := by
          rw [seqIndex_of h0 h5] at h1
          exact Option.some.inj h1
        exact wpAny_getItem_list pl.isList h0 (by omega) (by rw [hj]; simpa using ew) fin
      · have hj : (i + (its.toArray.size : Int)).toNat = j := by
          rw [seqIndex_neg (by omega) h4] at h1
          rw [List.size_toArray, ← hl]
          exact Option.some.inj h1
        exact wpAny_getItem_list_neg pl.isList (by omega) (by rw [List.size_toArray] <;> omega) (by omega) (by rw [hj]; simpa using ew) fin
    · obtain ⟨its, rr, pl, hz⟩ := I.tuple hq
      obtain ⟨w', ew, rw'⟩ := rr.get h2
      have hl := rr.length
      exact getItem_tuple (j := j) pl (by omega) (by omega) (by rw [List.size_toArray, ← hl]; exact h1) (by simpa using ew) ⟨z, H, I, rw', q⟩
  · cases rx
    exact d_getItem (deep1 hu) I g ry fun w' s' I' r' => ⟨z, H, I', r', h.old R r⟩
def sAugS (fo fi : FV) (op : Operator) (fe : FV) : FSt := fun σ h => (fo σ h).bind fun o h => (fi σ h).bind fun i h => (R.ofO (getIx o i h) h).bind fun x h => (fe σ h).bind fun y h => (augW op x y h).bind fun w h => match w with
  | .v d => match setIx o i d h with
    | some h' => .ok (.nx σ) h'
    | none => .no
  | .l _ => .no
theorem s_augS (hu : Deep X) {op : Operator} {fo fi fe : FV} {o i e : Expr} {pos pos' : Pos} (ho : EOk X fo o) (hi : EOk X fi i) (he : EOk X fe e) (hsl : notSl i = true) :
    PS X (.AugAssign (.Subscript o i pos') op e pos) (TSd X.K Y Wx (sAugS fo fi op fe)) := by
  refine PS.weak (ps_augS ho.pe hi.pe (getW hu) he.pe (ipW op) (setW hu) (by
    intro ov iv new
    cases i <;> first | rfl | (cases hsl))) fun D σ H q => ?_
  obtain ⟨α, σd, hd, R, S, q⟩ := q
  have q : PoS X.K Y Wx α H ((fo σd hd).bind fun o h => (fi σd h).bind fun i h => (DL.R.ofO (getIx o i h) h).bind fun x h => (fe σd h).bind fun y h => (augW op x y h).bind fun w h => match w with
    | .v d => match setIx o i d h with
      | some h' => .ok (.nx σd) h'
      | none => .no
    | .l _ => .no) D := q
  refine TV.seq R S q.ok fun o hd1 α1 H1 v1 e1 g1 R1 S1 r1 n1 => ?_
  rw [e1] at q
  have q := q.from g1 R1
  refine TV.seq R1 S1 q.ok fun i hd2 α2 H2 v2 e2 g2 R2 S2 r2 n2 => ?_
  rw [e2] at q
  have q := q.from g2 R2
  cases e3 : getIx o i hd2 with
  | none => rw [e3] at q; exact q.elim
  | some x =>
    rw [e3] at q
    have q : PoS X.K Y Wx α2 H2 ((fe σd hd2).bind fun y h => (augW op x y h).bind fun w h => match w with
      | .v d => match setIx o i d h with
        | some h' => .ok (.nx σd) h'
        | none => .no
      | .l _ => .no) D := q
    refine ⟨α2, hd2, o, i, R2, r1.gr R1 g2, r2, ?_⟩
    rw [e3]
    intro α3 H3 v3 g3 R3 r3 n3
    have q := q.from g3 R3
    have S3 := S2.gr R2 g3
    refine TV.seq R3 S3 q.ok fun y hd4 α4 H4 v4 e4 g4 R4 S4 r4 n4 => ?_
    rw [e4] at q
    have q := q.from g4 R4
    refine ⟨α4, hd4, x, y, R4, r3.gr R3 g4, r4, ?_⟩
    cases e5 : augW op x y hd4 with
    | ex => rw [e5] at q; exact q.elim
    | no => rw [e5] at q; exact q.elim
    | ok w hd5 =>
      rw [e5] at q
      intro α5 H5 v5 g5 R5 r5 n5
      have q := q.from g5 R5
      cases w with
      | l xs => exact q.elim
      | v d =>
        simp only [DL.R.bind_ok] at q
        cases e6 : setIx o i d hd5 with
        | none => rw [e6] at q; exact q.elim
        | some hd6 =>
          rw [e6] at q
          exact ⟨α5, hd5, o, i, d, hd6, R5, (((r1.gr R1 g2).gr R2 g3).gr R3 g4).gr R4 g5, ((r2.gr R2 g3).gr R3 g4).gr R4 g5, r5, e6, fun H6 g6 R6 => q α5 H6 σ g6 R6 ((S4.gr R4 g5).gr R5 g6)⟩
end DL
namespace DL
open PySem PySem.Spec PyProof.Rows L2
variable {K : PySem.W.Frag}
variable {α α' α'' α1 : List Addr} {H H' H'' H1 : Hp} {hd hd' hd1 : Hd} {a p : Addr}
def selT (a n i : Nat) : Bool := if (1 : Int) > 0 then decide ((a : Int) ≤ (i : Int)) && decide ((i : Int) < (n : Int)) && (((i : Int) - (a : Int)) % 1 == 0) else decide ((n : Int) < (i : Int)) && decide ((i : Int) ≤ (a : Int)) && (((a : Int) - (i : Int)) % (-1) == 0)
theorem selT_eq (a n i : Nat) (h : i < n) : selT a n i = decide (a ≤ i) := by
  unfold selT
  rw [if_pos (by decide)]
  have h1 : (((i : Int) - (a : Int)) % 1 == 0) = true := by rw [Int.emod_one]; rfl
  have h2 : decide ((i : Int) < (n : Int)) = true := decide_eq_true (by omega)
  rw [h1, h2, Bool.and_true, Bool.and_true]
  congr 1
  exact propext (by omega)
theorem kept_from : ∀ (l : List Value) (k a n : Nat), k + l.length ≤ n → ((l.zipIdx k).filterMap fun (x : Value × Nat) => if selT a n x.2 = true then none else some x.1) = l.take (a - k)
  | [], k, a, n, _ => by simp
  | x :: l, k, a, n, h => by
    rw [List.length_cons] at h
    rw [List.zipIdx_cons, List.filterMap_cons, kept_from l (k + 1) a n (by omega)]
    simp only
    rw [selT_eq a n k (by omega)]
    by_cases hk : a ≤ k
    · rw [decide_eq_true hk]
      have e1 : a - k = 0 := by omega
      have e2 : a - (k + 1) = 0 := by omega
      rw [e1, e2]
      simp
    · rw [decide_eq_false hk]
      have e1 : a - k = (a - (k + 1)) + 1 := by omega
      rw [e1]
      simp
theorem bounds_tail {a n : Nat} (ha : a ≤ n) : sliceBounds (some (a : Int)) none none n = ((a : Int), (n : Int), 1) := by
  simp only [sliceBounds, Option.getD_none]
  have h1 : ¬ ((a : Int) < 0) := by omega
  simp only [h1, if_false, show (1 : Int) > 0 by decide, if_true]
  congr 1
  omega
section
variable {prog : Program} {w : World} {A : Around} {E : Value → Shared → Prop} {s : Shared}
theorem del_tail_run {l sl : Addr} {items : Array Value} {n : Nat} {vl : Value} {a : Nat} {Q : Unit → Shared → Prop} (e : s.heap.get? l = some { cls := .type "list", data := .seq items n }) (hs : s.heap.IsSliceOf sl vl .none .none) (pl : IsPart vl (some (a : Int)))
    (ha : a ≤ items.size) (hz : items.size ≤ sizeLine) (h : Q () { s with heap := s.heap.update l (Obj.mapSeq fun xs => (xs.toList.zipIdx.filterMap fun (x : Value × Nat) => if selT a items.size x.2 = true then none else some x.1).toArray) }) :
    wpAny (model prog w) A (delItem (.ref l) (.ref sl)) Q E s := by
  have hl : s.heap.IsList l items := PySem.IsL.isList e
  obtain ⟨os, hos, hcs, hds⟩ := id hs
  have isS : s.TypeIs (.ref sl) "slice" := ⟨os, hos, hcs⟩
  have hz' : ((fun xs : Array Value => (xs.toList.zipIdx.filterMap fun (x : Value × Nat) => if selT a items.size x.2 = true then none else some x.1).toArray) items).size ≤ sizeLine + 1 := by
    simp only [List.size_toArray]
    refine Nat.le_trans (List.length_filterMap_le _ _) ?_
    rw [List.length_zipIdx, Array.length_toList]
    omega
  unfold delItem
  try with_reducible refine wpAny_holding ?_
  first | refine wpAny_bind (wpAny_pure ?_) | skip
  refine wpAny_bind (wpAny_sequenceKey hl.typeIs (by decide) (wpAny_bind (wpAny_callSpecial?_slot (name := Str.ofString "__delitem__") hl.typeIs PySem.F.slot_list_delitem
    (wpAny_call_entry PySem.F.slot_list_delitem hl.typeIs PySem.F.entry_list_delitem ?_ (PySem.F.args_list_delitem_2 _ _)))))
  show wpAny _ _ (Builtin.List.listSubscript? (.ref sl) >>= _) _ _ s
  refine wpAny_bind ?_
  unfold Builtin.List.listSubscript?
  refine wpAny_bind (wpAny_specialOf isS slice_no_index ?_)
  simp only [Option.isNone_none, if_true]
  refine wpAny_pure ?_
  show wpAny _ _ (typeOf (.ref sl) >>= _) _ _ s
  refine wpAny_bind (wpAny_typeOf isS ?_)
  first
    | rw [if_neg (by decide)]
    | refine PySem.W.KFB.if_not (by decide) ?_
  rw [listSliceParts_eq]
  refine wpAny_bind (wpAny_bind (wpAny_field hos hds (x := .none) rfl (wpAny_bind (wpAny_listPart .none ?_))))
  rw [if_neg (show ¬ ((rawPart none == rawInt 0) = true) from Bool.false_ne_true)]
  refine wpAny_bind (wpAny_field hos hds (x := vl) rfl (wpAny_bind (wpAny_listPart pl ?_)))
  refine wpAny_bind (wpAny_field hos hds (x := .none) rfl (wpAny_bind (wpAny_listPart .none (wpAny_pure ?_))))
  unfold Builtin.List.listItems
  refine wpAny_bind (wpAny_bind (wpAny_seqItems e rfl (wpAny_pure ?_)))
  refine wpAny_bind (wpAny_of_eq ((sliceIndices_raw (some (a : Int)) none none items.size (by simp)).trans (congrArg (pure : Int × Int × Int → Sem (Int × Int × Int)) (bounds_tail ha))) ?_)
  refine wpAny_bind (wpAny_rule ?_)
  refine wpAny_bind (wpAny_updateSeq (f := fun xs : Array Value => (xs.toList.zipIdx.filterMap fun (x : Value × Nat) => if selT a items.size x.2 = true then none else some x.1).toArray) (hz := hz) (_hz' := hz') e rfl ?_)
  refine wpAny_bind (wpAny_letGo ?_)
  first
    | exact wpAny_pure ⟨.none, rfl, wpAny_pure h⟩
    | exact wpAny_bind (wpAny_pure (wpAny_pure ⟨.none, rfl, wpAny_pure h⟩))
end
end DL
namespace DL
open PySem PySem.Spec PyProof.Rows L2
variable {K : PySem.W.Frag}
variable {α α' α'' α1 : List Addr} {H H' H'' H1 : Hp} {hd hd' hd1 : Hd} {a p : Addr}
variable {X : Cx}
theorem PoW.newX {xs : List D} {vs : List V} {o : Obj} {Q : V → Hp → Prop} (R : Rl K α hd H) (hx : RelDs K α H xs vs) (hdn : o.dict = none) (h : PoW K α H (.ok (.v (.xt xs)) hd) Q) (hp : H p = none) : Q (.ref p) (upd H p (.frz o (.tup vs))) :=
  h α _ _ (Gr.upd R hp _) (R.upd hp _) ⟨p, vs, rfl, ⟨o, upd_same, hdn⟩, hx.gr R (Gr.upd R hp _)⟩ trivial
def blX (x : W) (h : Hd) : Option W := (x.items h).map fun xs => .v (.xt xs)
theorem c_xtup : CallR X (.type "tuple") (r1 X.K blX) := by
  intro pins s σ H xs us Q I r h
  obtain ⟨α, hd, w, x, rfl, R, rw, h⟩ := h
  obtain ⟨z, e, h2⟩ := ofO_W h
  clear h
  obtain ⟨xs, e1, rfl⟩ := Option.map_eq_some_iff.mp e
  obtain ⟨a, vs, rfl, hq, hx⟩ := items_at R rw e1
  obtain ⟨u, rfl, ru⟩ := vals1 r
  cases ru
  obtain ⟨its, rv, pl, hz⟩ := I.list hq
  refine call_tuple_list pl.isList (fun h' hk => ?_) (by rw [List.size_toArray, ← rv.length]; exact hz)
  have I1 : Inv X pins σ H { s with heap := h' } := I.kept (t' := s.toks) hk
  refine ⟨.ref h'.objs.size, _, I1.laid (t' := s.toks) (o := .frz { cls := .type "tuple", data := .seq its.toArray } (.tup vs)) (fun b o e => Heap.get?_push_of_some _ e) (Nat.le_refl _) ⟨Heap.get?_push_size _ rfl, hz, its, rv, IsTup.new _ _⟩, rfl, ?_⟩
  exact h2.newX R hx rfl (I1.hok.fresh (Nat.le_refl _))
def vXunit : FV := fun _ h => .ok (.v (.xt [])) h
theorem e_xunit {k : Nat} {pos : Pos} : EOk X vXunit (.Tuple [] k pos) := by
  refine ⟨⟨fun pins s σ H Q I hq => ?_⟩, rfl⟩
  obtain ⟨α, σd, hd, R, S, q⟩ := hq
  refine wpAny_Tuple_spliced (thn ((pa_nil (X := X)).run pos pins s σ H (fun xs H' => xs = [] ∧ H' = H) I ⟨rfl, rfl⟩) fun us s1 ⟨xs, H1, I1, r, e1, e2⟩ => ?_)
  subst e1 e2
  cases r
  refine ⟨Nat.zero_le _, .ref s1.heap.objs.size, _, I1.laid (t' := s1.toks) (o := .frz { cls := .type "tuple", data := .seq #[] } (.tup [])) (fun b u e => Heap.get?_push_of_some _ e) (Nat.le_refl _) ⟨Heap.get?_push_size _ rfl, Nat.zero_le _, [], .nil, ⟨_, Heap.get?_push_size _ rfl, rfl, _, rfl⟩⟩, rfl, ?_⟩
  exact PoW.newX R (xs := []) (vs := []) rfl rfl q (I1.hok.fresh (Nat.le_refl _))
def pairsOf : List D → Option (List (DK × D))
  | [] => some []
  | .tup [k, v] :: r => match k.key?, pairsOf r with
    | some q, some l => some ((q, v) :: l)
    | _, _ => none
  | _ :: _ => none
def mergeD (kvs more : List (DK × D)) : List (DK × D) := more.foldl (fun acc kv => putK acc kv.1 kv.2) kvs
theorem merge_rel : ∀ {more : List (DK × D)} {l : List (Key × V)} {kvs : List (DK × D)} {l0 : List (Key × V)}, RelKK K α H more l → RelKK K α H kvs l0 → RelKK K α H (mergeD kvs more) (mergeK l0 l)
  | [], l, kvs, l0, h, h0 => by rw [show l = [] from h]; exact h0
  | (k, d) :: r, l, kvs, l0, h, h0 => by
    obtain ⟨v, lr, rfl, h1, h2⟩ := h
    show RelKK K α H (mergeD (putK kvs k d) r) (mergeK (L2.putK l0 k.key v) lr)
    exact merge_rel (more := r) h2 (putK_rel h1 h0)
theorem pairs_rel : ∀ {xs : List D} {vs : List V} {kvs : List (DK × D)}, pairsOf xs = some kvs → RelDs K α H xs vs →
    ∃ (bs : List Addr) (l : List (Key × V)), vs = bs.map V.ref ∧ Paired (fun p kv => SqT K H p [kV kv.1, kv.2]) bs l ∧ RelKK K α H kvs l
  | [], vs, kvs, e, r => by cases e; exact ⟨[], [], r, .nil, rfl⟩
  | d :: xs, vs, kvs, e, r => by
    unfold pairsOf at e
    split at e
    · rename_i h; cases h
    · rename_i k v r' heq
      cases heq
      split at e
      · rename_i q l hk hl
        cases e
        obtain ⟨v0, vr, rfl, ⟨b, us, rfl, hb, hu⟩, h2⟩ := r
        obtain ⟨y, yr, rfl, hy, z, zr, rfl, hz, rfl⟩ := hu
        obtain ⟨bs, l2, rfl, P, rk⟩ := pairs_rel hl h2
        refine ⟨b :: bs, (q.key, z) :: l2, rfl, .cons ?_ P, z, l2, rfl, hz, rk⟩
        have := key_at hk hy
        rw [this] at hb
        exact SqT.of hb
      · cases e
    · cases e
theorem raw_pairs {pins : List (Addr × Obj)} {σ : L2.St} {H : Hp} {s : Shared} (I : Inv X pins σ H s) : ∀ {bs : List Addr} {l : List (Key × V)}, Paired (fun p kv => SqT X.K H p [kV kv.1, kv.2]) bs l →
    ∃ (us : List Value) (prs : List (Key × Value)), KV l prs ∧ us.length = bs.length ∧ prs.length = bs.length ∧ ∀ (j : Nat) (b : Addr) (u : Value) (q : Key × Value), bs[j]? = some b → us[j]? = some u → prs[j]? = some q → IsTup s.heap b #[u, q.2] ∧ (mixKind X.prog X.w).is q.1 u = true
  | _, _, .nil => ⟨[], [], .nil, rfl, rfl, fun j b u q e => by simp at e⟩
  | _, _, .cons (a := p) (b := kv) h t => by
    obtain ⟨us, prs, r, l1, l2, hp⟩ := raw_pairs I t
    obtain ⟨its, rv, ht, _⟩ := I.tuple h
    obtain ⟨u, y, ei, ru, ry⟩ := vals2 rv
    subst ei
    refine ⟨u :: us, (kv.1, y) :: prs, .cons ⟨rfl, ry⟩ r, by rw [List.length_cons, List.length_cons, l1], by rw [List.length_cons, List.length_cons, l2], fun j b u' q e1 e2 e3 => ?_⟩
    cases j with
    | zero =>
      cases Option.some.inj e1
      cases Option.some.inj e2
      cases Option.some.inj e3
      exact ⟨ht, kV_is (P := X.prog) (w := X.w) ru⟩
    | succ j => exact hp j b u' q (by simpa using e1) (by simpa using e2) (by simpa using e3)
def dictW (w : W) (h : Hd) : R W := match w with
  | .v (.xt xs) => match pairsOf xs with
    | some kvs => .ok (.v (.obj h.length)) (h ++ [.dK (mergeD [] kvs)])
    | none => .no
  | _ => .no
def r1x (K : PySem.W.Frag) (f : W → Hd → R W) : List V → Hp → VK → Prop := fun xs H Q => ∃ α hd w x, xs = [x] ∧ Rl K α hd H ∧ RelW K α H w x ∧ PoW K α H (f w hd) Q
theorem c_dictX (hcalm : X.calm = true) : CallR X (.type "dict") (r1x X.K dictW) := by
  intro pins s σ H xs us Q I r h
  obtain ⟨α, hd, w, x, rfl, R, rw, h⟩ := h
  obtain ⟨u, rfl, ru⟩ := vals1 r
  unfold dictW at h
  split at h
  · rename_i ds
    split at h
    · rename_i kvs ek
      obtain ⟨a, vs, rfl, ⟨o, ho, hdn⟩, hx⟩ := rw
      cases ru
      obtain ⟨bs, l, rfl, P, rk⟩ := pairs_rel ek hx
      obtain ⟨g1, hz, its, rv, o', g2, hc, n, hdat⟩ := I.hok a _ ho
      rw [g1] at g2
      cases g2
      have ei := refs_at rv
      subst ei
      obtain ⟨us, prs, rel, l1, l2, hpr⟩ := raw_pairs I P
      have len : (us.zip (prs.map (·.2))).length = bs.length := by rw [List.length_zip, List.length_map, l1, l2, Nat.min_self]
      have at_ : ∀ (j : Nat) (k v : Value), (us.zip (prs.map (·.2)))[j]? = some (k, v) → ∃ b q, bs[j]? = some b ∧ prs[j]? = some q ∧ us[j]? = some k ∧ q.2 = v := by
        intro j k v e
        obtain ⟨e1, e2⟩ := List.getElem?_zip_eq_some.mp e
        rw [List.getElem?_map, Option.map_eq_some_iff] at e2
        obtain ⟨q, e2, e3⟩ := e2
        have hj : j < bs.length := by rw [← l1]; exact (List.getElem?_eq_some_iff.mp e1).1
        exact ⟨bs[j], q, List.getElem?_eq_getElem hj, e2, e1, e3⟩
      refine PySem.call_dict_pairs (knd := mixKind X.prog X.w) (kvs := prs) (PairArg.tuple a (bs.map Value.ref).toArray (fun j => bs.getD j 0) (us.zip (prs.map (·.2)))) (I.ok.hd hcalm) ⟨⟨o, n, g1, hc, hdn, hdat⟩, by rw [List.size_toArray, List.length_map, len], fun j k v e => ?_⟩ ⟨by rw [len, l2], fun j k v e => ?_⟩ (by rw [len]; simpa using hz) fun h' tk hd' k => ?_
      · obtain ⟨b, q, e1, e2, e3, rfl⟩ := at_ j k v e
        obtain ⟨t, _⟩ := hpr j b k q e1 e3 e2
        have eg : bs.getD j 0 = b := by rw [List.getD_eq_getElem?_getD, e1]; rfl
        refine ⟨by rw [List.getElem?_toArray, List.getElem?_map, e1]; show some (Value.ref b) = some (Value.ref (bs.getD j 0)); rw [eg], .inl ?_⟩
        show Heap.IsTuple s.heap (bs.getD j 0) _
        rw [eg]
        exact t
      · obtain ⟨b, q, e1, e2, e3, rfl⟩ := at_ j k v e
        exact ⟨q.1, e2, (hpr j b k q e1 e3 e2).2⟩
      · have hm : (s.heap.objs.size == sysModules) = false := beq_eq_false_iff_ne.mpr (Nat.ne_of_gt I.big)
        have hlen : (mergeK [] l).length ≤ sizeLine := by
          refine Nat.le_trans (length_mergeK l []) ?_
          rw [List.length_nil, Nat.zero_add, rel.length, l2]
          simpa using hz
        have nw := I.hok.fresh (Nat.le_refl s.heap.objs.size)
        refine ⟨.ref s.heap.objs.size, _, I.laid (t' := tk) (o := .dK (mergeK [] l)) (fun b o e => k b o (by simp) e) (Nat.le_refl _) (show ObjOk X.prog X.w _ _ _ (.dK (mergeK [] l)) from ⟨hlen, hm, merged [] prs, KV.merge rel .nil, hd'⟩), rfl, ?_⟩
        exact PoW.newO (o := .dK (mergeD [] kvs)) R nw ⟨mergeK [] l, upd_same, merge_rel (rk.gr R (Gr.upd R nw _)) (show RelKK _ _ _ [] [] from rfl)⟩ h
    · exact h.elim
  · exact h.elim
def vDictX (f : FV) : FV := v1 f dictW
theorem e_dictX {f : FV} {e : Expr} {p pos : Pos} (hcalm : X.calm = true) (hg : Gl X "dict") (hm : X.mg "dict" = none) (he : EOk X f e) : EOk X (vDictX f) (.Call (.Name "dict" p) [e] [] pos) := by
  refine ⟨TV.mono_iff (pe_callTy (c_dictX hcalm) hg hm (by decide +kernel) (pa_cons he.pe pa_nil (star_cons he.pl _ _)) (by decide) (by decide) (star_cons he.pl _ _) (stars_any (es := []) rfl)) fun σ H Q q => ?_, rfl⟩
  obtain ⟨α, σd, hd, R, S, q⟩ := q
  have q : PoW X.K α H ((f σd hd).bind fun x h => dictW x h) Q := q
  refine TV.seq R S q.ok fun x hd1 α1 H1 v1 e g1 R1 S1 r n => ?_
  rw [e] at q
  exact ⟨α1, hd1, x, v1, rfl, R1, r, q.from g1 R1⟩
def vXtup (f : FV) : FV := vB1 blX f
theorem e_xtup {f : FV} {e : Expr} {p pos : Pos} (hg : Gl X "tuple") (hm : X.mg "tuple" = none) (he : EOk X f e) : EOk X (vXtup f) (.Call (.Name "tuple" p) [e] [] pos) :=
  e_callT c_xtup hg hm (by decide +kernel) (by decide) (by decide) he
end DL
namespace DL
open PySem PySem.Spec PyProof.Rows L2
variable {K : PySem.W.Frag}
variable {α α' α'' α1 : List Addr} {H H' H'' H1 : Hp} {hd hd' hd1 : Hd} {a p : Addr}
variable {X : Cx}
variable {Y : Ys} {Wx : WX}
def pairSeq : List (FV × FV) → Sd → Hd → R (List (DK × D))
  | [], _, h => .ok [] h
  | (f, g) :: r, σ, h => (f σ h).bind fun w h => match w with
    | .v dk => match dk.key? with
      | some k => (vSet g σ h).bind fun w h => match w with
        | .v d => (pairSeq r σ h).bind fun l h => .ok ((k, d) :: l) h
        | .l _ => .no
      | none => .no
    | .l _ => .no
def vDisp (fs : List (FV × FV)) : FV := fun σ h => (pairSeq fs σ h).bind fun l h => if l.length ≤ 15 then .ok (.v (.obj h.length)) (h ++ [.dK (mergeD [] l)]) else .no
theorem pairs_ok {σd : Sd} {σ : L2.St} : ∀ {fs : List (FV × FV)} {α : List Addr} {H : Hp} {hd hd2 : Hd} {l : List (DK × D)} {C : List (V × V) → Hp → Prop}, Rl K α hd H → RelS K α H σd σ → pairSeq fs σd hd = .ok l hd2 →
    (∀ α2 H2 l', Gr α H α2 H2 → Rl K α2 hd2 H2 → RelKK K α2 H2 l l' → C (l'.map fun kv => (kV kv.1, kv.2)) H2) → tPairs (fs.map fun q => (TV K q.1, TV K (vSet q.2))) σ H C
  | [], α, H, hd, hd2, l, C, R, S, e, k => by
    cases e
    exact k α H [] (Gr.refl _ _) R rfl
  | (f, g) :: r, α, H, hd, hd2, l, C, R, S, e, k => by
    have e : ((f σd hd).bind fun w h => match w with
      | .v dk => match dk.key? with
        | some k => (vSet g σd h).bind fun w h => match w with
          | .v d => (pairSeq r σd h).bind fun l h => .ok ((k, d) :: l) h
          | .l _ => .no
        | none => .no
      | .l _ => .no) = .ok l hd2 := e
    refine TV.seq R S ⟨_, _, e⟩ fun x h1 α1 H1 v1 e1 g1 R1 S1 r1 n1 => ?_
    rw [e1] at e
    cases x with
    | l ys => cases e
    | v dk =>
      simp only at e
      split at e
      · rename_i key ek
        refine TV.seq R1 S1 ⟨_, _, e⟩ fun y h2 α2 H2 v2 e2 g2 R2 S2 r2 n2 => ?_
        rw [e2] at e
        cases y with
        | l ys => cases e
        | v d =>
          simp only at e
          cases e3 : pairSeq r σd h2 with
          | ex => rw [e3] at e; cases e
          | no => rw [e3] at e; cases e
          | ok l3 h3 =>
            rw [e3] at e
            cases e
            refine pairs_ok (fs := r) R2 S2 e3 fun α3 H3 l' g3 R3 rk => ?_
            have := key_at ek (RelD.gr R1 g2 r1)
            subst this
            exact k α3 H3 ((key.key, v2) :: l') (g1.trans (g2.trans g3)) R3 ⟨v2, l', rfl, RelD.gr R2 g3 r2, rk⟩
      · cases e
theorem RelKK.mapk : ∀ {l : List (DK × D)} {l' : List (Key × V)}, RelKK K α H l l' → l'.length = l.length
  | [], l', h => by rw [show l' = [] from h]; rfl
  | (k, d) :: r, l', h => by
    obtain ⟨v, lr, rfl, h1, h2⟩ := h
    rw [List.length_cons, List.length_cons, RelKK.mapk h2]
theorem TV_disp {fs : List (FV × FV)} {σ : L2.St} {Q : VK} (q : TV K (vDisp fs) σ H Q) : tDisp (fs.map fun q => (TV K q.1, TV K (vSet q.2))) σ H Q := by
  obtain ⟨α, σd, hd, R, S, q⟩ := q
  have q : PoW K α H ((pairSeq fs σd hd).bind fun l h => if l.length ≤ 15 then .ok (.v (.obj h.length)) (h ++ [.dK (mergeD [] l)]) else .no) Q := q
  intro p hp
  cases e : pairSeq fs σd hd with
  | ex => rw [e] at q; exact q.elim
  | no => rw [e] at q; exact q.elim
  | ok l hd2 =>
    rw [e] at q
    have q : PoW K α H (if l.length ≤ 15 then .ok (.v (.obj hd2.length)) (hd2 ++ [.dK (mergeD [] l)]) else .no) Q := q
    split at q
    · rename_i hz
      have g0 := Gr.upd R hp (.dK [])
      have R0 := R.upd hp (.dK [])
      have out := R.none_out hp
      refine pairs_ok R0 (S.gr R g0) e fun α2 H2 l' g2 R2 rk => ?_
      have h2 : H2 p = some (.dK []) := g2.fr p _ upd_same out
      have out2 : p ∉ α2 := g2.notin (o := .dK []) upd_same out
      refine ⟨h2, l', rfl, by rw [rk.mapk]; exact hz, ?_⟩
      have gj := (g0.trans g2).join hp out2
      have Rj := R2.join out2 (o := .dK []) ⟨[], h2, rfl⟩
      have ep : (α2 ++ [p])[hd2.length]? = some p := by rw [← R2.len]; simp
      have gs := Gr.set ep h2 rfl (HO.dK (mergeK [] l'))
      have rk2 : RelKK K (α2 ++ [p]) H2 l l' := rk.mono (fun _ _ e => pre_get e) (fun _ _ q => q) ⟨fun _ _ q => q, fun _ _ q => q⟩
      have ro : RelO K (α2 ++ [p]) (L2.upd H2 p (.dK (mergeK [] l'))) p (.dK (mergeD [] l)) := ⟨_, upd_same, merge_rel (rk2.gr Rj gs) (show RelKK _ _ _ [] [] from rfl)⟩
      have Rs := Rj.set ep h2 rfl ro
      have es : (hd2 ++ [O.dK []]).set hd2.length (.dK (mergeD [] l)) = hd2 ++ [.dK (mergeD [] l)] := by simp
      rw [es] at Rs
      exact q _ _ _ (gj.trans gs) Rs ⟨p, ep, rfl⟩ trivial
    · exact q.elim
inductive PPsOk (X : Cx) : List (FV × FV) → List Expr → List Expr → Prop
  | nil : PPsOk X [] [] []
  | cons {f g : FV} {r : List (FV × FV)} {k v : Expr} {ks vs : List Expr} : EOk X f k → EOk X g v → PPsOk X r ks vs → PPsOk X ((f, g) :: r) (k :: ks) (v :: vs)
theorem PPsOk.pps {pos : Pos} : ∀ {fs : List (FV × FV)} {ks vs : List Expr}, PPsOk X fs ks vs → PPs X pos (ks.map some) vs (fs.map fun q => (TV X.K q.1, TV X.K (vSet q.2)))
  | _, _, _, .nil => pps_nil
  | _, _, _, .cons h1 h2 t => pps_cons h1.pe (e_set h2).pe t.pps
theorem PPsOk.len : ∀ {fs : List (FV × FV)} {ks vs : List Expr}, PPsOk X fs ks vs → ks.length = fs.length ∧ vs.length = fs.length
  | _, _, _, .nil => ⟨rfl, rfl⟩
  | _, _, _, .cons h1 h2 t => ⟨by rw [List.length_cons, List.length_cons, t.len.1], by rw [List.length_cons, List.length_cons, t.len.2]⟩
theorem e_disp {fs : List (FV × FV)} {ks vs : List Expr} {pos : Pos} (h : PPsOk X fs ks vs) (h0 : ks ≠ []) (h15 : ks.length ≤ 15) : EOk X (vDisp fs) (.Dict (ks.map some) vs pos) := by
  refine ⟨TV.mono_iff (pe_disp h.pps ?_ ?_ ?_ ?_) fun _ _ _ q => TV_disp q, rfl⟩
  · rw [List.all_map]; exact List.all_eq_true.mpr fun _ _ => rfl
  · rw [List.length_map, h.len.1, h.len.2]
  · intro z
    exact h0 (List.map_eq_nil_iff.mp z)
  · rw [List.length_map]; exact h15
def delO (o i : W) (h : Hd) : Option Hd := match o, i with
  | .v (.obj n), .v (.int k) => match h[n]? with
    | some (.lst xs) => if 0 ≤ k ∧ k ≤ xs.length then some (h.set n (.lst (xs.take k.toNat))) else none
    | _ => none
  | _, _ => none
def sDelF (fo fi : FV) : FSt := fun σ h => (fo σ h).bind fun o h => (fi σ h).bind fun i h => match delO o i h with
  | some h' => .ok (.nx σ) h'
  | none => .no
def tDelT (to ti : TE) : TS := fun D σ H => to σ H fun x H1 => tPart ti σ H1 fun o H2 => ∃ (l : Addr) (xs : List V) (i : Nat), x = .ref l ∧ o = some (i : Int) ∧ H2 l = some (.lst xs) ∧ i ≤ xs.length ∧ D.nx σ (upd H2 l (.lst (xs.take i)))
theorem ps_delT {o i : Expr} {to ti : TE} {p2 tpos pos : Pos} (ho : PE X o to) (hi : PE X i ti) : PS X (.Delete [.Subscript o (.Slice (some i) none none p2) tpos] pos) (tDelT to ti) := by
  refine ⟨fun pins s σ H D I h => ?_⟩
  refine wpAny_Delete (wpAny_deleteEach_cons (wpAny_delete_Subscript (thn (ho.run pins s σ H _ I h) fun u s1 ⟨x, H1, I1, rx, q1⟩ => ?_)))
  refine wpAny_Slice (thn ((po_some hi).run pins s1 σ H1 _ I1 q1) fun vl s2 ⟨o1, H2, I2, pl, l, xs, i, ex, ey, hH, hz, q⟩ => ?_)
  subst ex ey
  cases rx
  refine thn (po_none.run pins s2 σ H2 (fun o H3 => o = none ∧ H3 = H2) I2 ⟨rfl, rfl⟩) fun vu s3 ⟨o2, H3, I3, pu, e2, e3⟩ => ?_
  subst e2 e3
  rw [evalPart_none]
  refine wpAny_pure ?_
  have I4 : Inv X pins σ H3 { s3 with heap := s3.heap.push { cls := .type "slice", data := .fields #[vl, vu, .none] } } := I3.kept (t' := s3.toks) fun b ob q => Heap.get?_push_of_some _ q
  obtain ⟨z, its, n, r, hl, e⟩ := I4.lstM hH
  have eu : vu = .none := by cases pu; rfl
  subst eu
  refine del_tail_run (a := i) e (Heap.IsSliceOf.new ..) pl (by rw [List.size_toArray]; omega) (by rw [List.size_toArray]; omega) ?_
  refine wpAny_deleteEach_nil ⟨σ, _, I4.lset (its' := its.take i) (t' := s3.toks) hH e ?_ (r.take i) ?_, q⟩
  · show ((its.zipIdx.filterMap fun (x : Value × Nat) => if selT i its.toArray.size x.2 = true then none else some x.1).toArray) = (its.take i).toArray
    rw [kept_from its 0 i its.toArray.size (by rw [List.size_toArray]; omega), Nat.sub_zero]
  · rw [List.length_take]; omega
theorem s_delF {fo fi : FV} {o i : Expr} {p2 tpos pos : Pos} (ho : EOk X fo o) (hi : EOk X fi i) : PS X (.Delete [.Subscript o (.Slice (some i) none none p2) tpos] pos) (TSd X.K Y Wx (sDelF fo fi)) := by
  refine PS.weak (ps_delT ho.pe hi.pe) fun D σ H q => ?_
  obtain ⟨α, σd, hd, R, S, q⟩ := q
  have q : PoS X.K Y Wx α H ((fo σd hd).bind fun o h => (fi σd h).bind fun i h => match delO o i h with
    | some h' => .ok (.nx σd) h'
    | none => .no) D := q
  refine TV.seq R S q.ok fun w hd1 α1 H1 v1 e1 g1 R1 S1 r1 n1 => ?_
  rw [e1] at q
  have q := q.from g1 R1
  refine TV.seq R1 S1 q.ok fun o hd2 α2 H2 v2 e2 g2 R2 S2 r2 n2 => ?_
  rw [e2] at q
  have q := q.from g2 R2
  have rw2 := r1.gr R1 g2
  cases eh : delO w o hd2 with
  | none => rw [eh] at q; exact q.elim
  | some h' =>
    rw [eh] at q
    cases w with
    | l xs => cases eh
    | v dw =>
      cases dw with
      | obj n =>
        cases o with
        | l xs => cases eh
        | v dk =>
          cases dk with
          | int k =>
            simp only [delO] at eh
            split at eh
            · rename_i xs ho
              split at eh
              · rename_i hz
                cases eh
                obtain ⟨a, vs, ea, rfl, ha, hx⟩ := lst_of R2 rw2 ho
                cases (show v2 = V.int k from r2)
                refine ⟨k, rfl, a, vs, k.toNat, rfl, ?_, ha, by rw [hx.length]; omega, ?_⟩
                · have : (k.toNat : Int) = k := by omega
                  rw [this]
                · exact q α2 _ σ (Gr.set ea ha rfl _) (R2.set ea ha rfl (RelO.newLst R2 ea ha rfl (hx.take k.toNat))) (S2.gr R2 (Gr.set ea ha rfl _))
              · cases eh
            · cases eh
          | _ => cases eh
      | _ => cases eh
end DL
namespace DL
open PySem PySem.Spec PyProof.Rows L2

variable {K : PySem.W.Frag}
variable {α α' α'' α1 α0 : List Addr} {H H' H'' H1 H0 : Hp} {hd hd' hd1 : Hd} {a p : Addr}
variable {X : Cx}
variable {Y : Ys} {Wx : WX}
def whileF (c : FB) (b : FSt) : Nat → FSt
  | 0, _, _ => .no
  | m + 1, σ, h => (c σ h).bind fun t h => if t = true then (b σ h).bind fun r h => match r with
    | .nx σ' => whileF c b m σ' h
    | .ct σ' => whileF c b m σ' h
    | .bk σ' => .ok (.nx σ') h
    | .rt w => .ok (.rt w) h
    | .xc c fs σ' => .ok (.xc c fs σ') h else .ok (.nx σ) h
def sWhile (c : FB) (b : FSt) : FSt := whileF c b FU
theorem s_while {c : FB} {b : FSt} {e : Expr} {sts : List Stmt} {pos : Pos} (hp : PassesOwn (model X.prog X.w) X.A X.env X.xe) (hc : PT X e (TB X.K c)) (hb : PSs X sts (TSd X.K Y Wx b)) : PS X (.While e sts [] pos) (TSd X.K Y Wx (sWhile c b)) := by
  refine PS.weak (ps_while hp hc hb) fun D σ H q => ?_
  obtain ⟨α, σd, hd, R, S, q⟩ := q
  have q : PoS X.K Y Wx α H (whileF c b FU σd hd) D := q
  refine ⟨fun m σ2 H2 => ∃ α2 σd2 hd2, Gr α H α2 H2 ∧ Rl X.K α2 hd2 H2 ∧ RelS X.K α2 H2 σd2 σ2 ∧ PoS X.K Y Wx α2 H2 (whileF c b m σd2 hd2) D, ⟨FU, α, σd, hd, Gr.refl _ _, R, S, q⟩, ?_⟩
  rintro m σ2 H2 ⟨α2, σd2, hd2, g2, R2, S2, q⟩
  cases m with
  | zero => exact q.elim
  | succ m =>
    have q : PoS X.K Y Wx α2 H2 ((c σd2 hd2).bind fun t h => if t = true then (b σd2 h).bind fun r h => match r with
      | .nx σ' => whileF c b m σ' h
      | .ct σ' => whileF c b m σ' h
      | .bk σ' => .ok (.nx σ') h
      | .rt w => .ok (.rt w) h
      | .xc c fs σ' => .ok (.xc c fs σ') h else .ok (.nx σd2) h) D := q
    refine TB.seq R2 S2 q.ok fun t hd3 α3 H3 e g3 R3 S3 => ?_
    rw [e] at q
    have q := q.from g3 R3
    cases t with
    | false => exact q α3 H3 σ2 (Gr.refl _ _) R3 S3
    | true =>
      rw [if_pos rfl] at q ⊢
      refine ⟨fun σ4 H4 => ∃ α4 σd4 hd4, Gr α H α4 H4 ∧ Rl X.K α4 hd4 H4 ∧ RelS X.K α4 H4 σd4 σ4 ∧ PoS X.K Y Wx α4 H4 (whileF c b m σd4 hd4) D, fun σ' H' z => ⟨m, Nat.lt_succ_self _, z⟩, α3, σd2, hd3, R3, S3, ?_⟩
      cases e4 : b σd2 hd3 with
      | ok r hd4 =>
        rw [e4] at q
        cases r with
        | nx σ5 => exact fun α5 H5 σ5' g5 R5 S5 => ⟨α5, σ5, hd4, (g2.trans g3).trans g5, R5, S5, q.from g5 R5⟩
        | ct σ5 => exact fun α5 H5 σ5' g5 R5 S5 => ⟨α5, σ5, hd4, (g2.trans g3).trans g5, R5, S5, q.from g5 R5⟩
        | bk σ5 => exact q
        | rt w => exact q
        | xc c fs σ' => exact q
      | ex => rw [e4] at q; exact q.elim
      | no => rw [e4] at q; exact q.elim

abbrev FT := D → FSt
def forFx (b : FT) : List D → FSt
  | [], σ, h => .ok (.nx σ) h
  | d :: ds, σ, h => (b d σ h).bind fun r h => match r with
    | .nx σ' => forFx b ds σ' h
    | .ct σ' => forFx b ds σ' h
    | .bk σ' => .ok (.nx σ') h
    | .rt w => .ok (.rt w) h
    | .xc c fs σ' => .ok (.xc c fs σ') h
def forRe (g : Nat → Hd → Option (Option D)) (b : FT) : Nat → Nat → FSt
  | 0, _, _, _ => .no
  | m + 1, i, σ, h => match g i h with
    | none => .no
    | some none => .ok (.nx σ) h
    | some (some d) => (b d σ h).bind fun r h => match r with
      | .nx σ' => forRe g b m (i + 1) σ' h
      | .ct σ' => forRe g b m (i + 1) σ' h
      | .bk σ' => .ok (.nx σ') h
      | .rt w => .ok (.rt w) h
      | .xc c fs σ' => .ok (.xc c fs σ') h
def forS (s : Src) (b : FT) : FSt := match s with
  | .fx xs => forFx b xs
  | .re g => forRe g b FU 0
theorem forFx_re (b : FT) (xs : List D) : ∀ (i : Nat) (σ : Sd) (h : Hd), i ≤ xs.length → forRe (fun i _ => some xs[i]?) b (xs.length - i + 1) i σ h = forFx b (xs.drop i) σ h := by
  intro i
  generalize hn : xs.length - i = n
  induction n generalizing i with
  | zero =>
    intro σ h hi
    have e : xs[i]? = none := List.getElem?_eq_none (by omega)
    have e2 : xs.drop i = [] := List.drop_eq_nil_of_le (by omega)
    rw [e2]
    simp only [forRe, e]
    rfl
  | succ n ih =>
    intro σ h hi
    have hl : i < xs.length := by omega
    have e : xs[i]? = some xs[i] := List.getElem?_eq_getElem hl
    rw [List.drop_eq_getElem_cons hl]
    have e3 : forRe (fun i _ => some xs[i]?) b (n + 1 + 1) i σ h = (b xs[i] σ h).bind fun r h => match r with
      | .nx σ' => forRe (fun i _ => some xs[i]?) b (n + 1) (i + 1) σ' h
      | .ct σ' => forRe (fun i _ => some xs[i]?) b (n + 1) (i + 1) σ' h
      | .bk σ' => .ok (.nx σ') h
      | .rt w => .ok (.rt w) h
      | .xc c fs σ' => .ok (.xc c fs σ') h := by
      rw [forRe]
      simp only [e]
    rw [e3]
    show _ = (b xs[i] σ h).bind fun r h => match r with
      | .nx σ' => forFx b (xs.drop (i + 1)) σ' h
      | .ct σ' => forFx b (xs.drop (i + 1)) σ' h
      | .bk σ' => .ok (.nx σ') h
      | .rt w => .ok (.rt w) h
      | .xc c fs σ' => .ok (.xc c fs σ') h
    congr 1
    funext r h
    cases r with
    | nx σ' => exact ih (i + 1) (by omega) σ' h (by omega)
    | ct σ' => exact ih (i + 1) (by omega) σ' h (by omega)
    | bk σ' => rfl
    | rt w => rfl
    | xc c fs σ' => rfl
theorem forS_re (s : Src) (b : FT) (σ : Sd) (h : Hd) : ∃ m, forS s b σ h = forRe s.get b m 0 σ h := by
  cases s with
  | fx xs => exact ⟨xs.length - 0 + 1, by rw [show (Src.fx xs).get = fun i _ => some xs[i]? from rfl, forFx_re b xs 0 σ h (Nat.zero_le _)]; rfl⟩
  | re g => exact ⟨FU, rfl⟩
def turnS (tg : Tg) (b : FSt) : FT := fun d σ h => match tg.put d σ with
  | none => .no
  | some σ' => b σ' h
def sFor (s : FS) (tg : Tg) (b : FSt) : FSt := fun σ h => (s σ h).bind fun s h => forS s (turnS tg b) σ h
theorem s_for {s : FS} {tg : Tg} {b : FSt} {te iter : Expr} {sts : List Stmt} {pos : Pos} (hp : PassesOwn (model X.prog X.w) X.A X.env X.xe) (hc : X.calm = true) (hi : IOk X te s iter) (hg : PG X te (gT X.K tg)) (hb : PSs X sts (TSd X.K Y Wx b)) :
    PS X (.For te iter sts [] pos) (TSd X.K Y Wx (sFor s tg b)) := by
  refine PS.weak (ps_for hp hc hi.pi hg hb hi.fold) fun D σ H q => ?_
  obtain ⟨α, σd, hd, R, S, q⟩ := q
  have q : PoS X.K Y Wx α H ((s σd hd).bind fun s h => forS s (turnS tg b) σd h) D := q
  obtain ⟨w0, h0, e0⟩ := q.ok
  obtain ⟨src, hd1, es, e1⟩ := bind_ok_of e0
  rw [es] at q
  refine ⟨α, σd, hd, R, S, ?_⟩
  rw [es]
  intro α1 H1 J g1 R1 ok
  have q : PoS X.K Y Wx α1 H1 (forS src (turnS tg b) σd hd1) D := q.from g1 R1
  obtain ⟨m0, em⟩ := forS_re src (turnS tg b) σd hd1
  rw [em] at q
  have S1 := S.gr R g1
  refine ⟨fun i m σ2 H2 => ∃ α2 σd2 hd2, Gr α1 H1 α2 H2 ∧ Rl X.K α2 hd2 H2 ∧ RelS X.K α2 H2 σd2 σ2 ∧ PoS X.K Y Wx α2 H2 (forRe src.get (turnS tg b) m i σd2 hd2) D,
    ⟨m0, α1, σd, hd1, Gr.refl _ _, R1, S1, q⟩, ?_⟩
  rintro i m σ2 H2 ⟨α2, σd2, hd2, g2, R2, S2, q⟩
  cases m with
  | zero => exact q.elim
  | succ m =>
    simp only [forRe] at q
    obtain ⟨stop, go⟩ := ok i α2 hd2 H2 g2 R2
    cases eg : src.get i hd2 with
    | none => rw [eg] at q; exact q.elim
    | some o =>
      cases o with
      | none =>
        rw [eg] at q
        exact .inl ⟨stop eg, q α2 H2 σ2 (Gr.refl _ _) R2 S2⟩
      | some d =>
        rw [eg] at q
        obtain ⟨go1, go2⟩ := go d eg
        refine .inr ⟨go1, fun σ4 H4 => ∃ α4 σd4 hd4, Gr α1 H1 α4 H4 ∧ Rl X.K α4 hd4 H4 ∧ RelS X.K α4 H4 σd4 σ4 ∧ PoS X.K Y Wx α4 H4 (forRe src.get (turnS tg b) m (i + 1) σd4 hd4) D, fun σ' H' z => ⟨m, Nat.lt_succ_self _, z⟩, fun x H3 y => ?_⟩
        obtain ⟨g3, R3, rd⟩ := go2 x H3 y
        have S3 := S2.gr R2 g3
        have q := q.from g3 R3
        simp only [turnS] at q
        cases ep : tg.put d σd2 with
        | none => rw [ep] at q; exact q.elim
        | some σd3 =>
          rw [ep] at q
          refine ⟨α2, σd2, hd2, d, σd3, R3, S3, rd, ep, fun σ3 S3' _ => ⟨α2, σd3, hd2, R3, S3', ?_⟩⟩
          cases e4 : b σd3 hd2 with
          | ok r hd4 =>
            simp only [e4] at q
            cases r with
            | nx σ5 => exact fun α5 H5 σ5' g5 R5 S5 => ⟨α5, σ5, hd4, (g2.trans g3).trans g5, R5, S5, q.from g5 R5⟩
            | ct σ5 => exact fun α5 H5 σ5' g5 R5 S5 => ⟨α5, σ5, hd4, (g2.trans g3).trans g5, R5, S5, q.from g5 R5⟩
            | bk σ5 => exact q
            | rt w => exact q
            | xc c fs σ' => exact q
          | ex => simp only [e4] at q; exact q.elim
          | no => simp only [e4] at q; exact q.elim

def lockD (w : W) (h : Hd) : Option (Nat × Hd) := match w with
  | .v (.obj n) => match h[n]? with
    | some (.dK kvs) => some (n, h.set n (.lkK kvs))
    | some (.dT kvs) => some (n, h.set n (.lkT kvs))
    | _ => none
  | _ => none
def freeD (n : Nat) (h : Hd) : Option Hd := match h[n]? with
  | some (.lkK kvs) => some (h.set n (.dK kvs))
  | some (.lkT kvs) => some (h.set n (.dT kvs))
  | _ => none
def lockS (i : Nat) (f : FSt) : FSt := fun σ h => match σ[i]? with
  | some (some d) => match lockD (.v d) h with
    | some (n, h1) => (f σ h1).bind fun r h => match freeD n h with
      | some h => match r with
        | .xc _ _ _ => .no
        | r => .ok r h
      | none => .no
    | none => .no
  | _ => .no
def lockV (i : Nat) (f : FV) : FV := fun σ h => match σ[i]? with
  | some (some d) => match lockD (.v d) h with
    | some (n, h1) => (f σ h1).bind fun r h => match freeD n h with
      | some h => .ok r h
      | none => .no
    | none => .no
  | _ => .no
section
variable {od : Obj} {u : HO}
theorem un_tup (ha : H a = some (.frz od u)) : ∀ b us, H b = some (.tup us) → L2.upd H a u b = some (.tup us) := fun b us eb => by
  rw [upd_ne fun z => by subst z; rw [ha] at eb; cases eb]
  exact eb
theorem un_ro (ha : H a = some (.frz od u)) (nu : ∀ vs, u ≠ .lst vs ∧ u ≠ .tup vs) : ∀ b us, IsRo K H b us → IsRo K (L2.upd H a u) b us := fun b us eb => by
  rcases eb with ⟨o, eb⟩ | eb
  · refine .inl ⟨o, ?_⟩
    rw [upd_ne fun z => by
      subst z
      rw [ha] at eb
      cases eb
      exact (nu us).1 rfl]
    exact eb
  · exact .inr eb
theorem un_xt (ha : H a = some (.frz od u)) (nu : ∀ vs, u ≠ .lst vs ∧ u ≠ .tup vs) : ∀ b us, IsXt H b us → IsXt (L2.upd H a u) b us := fun b us eb => by
  obtain ⟨o, eb, d⟩ := eb
  refine ⟨o, ?_, d⟩
  rw [upd_ne fun z => by
    subst z
    rw [ha] at eb
    cases eb
    exact (nu us).2 rfl]
  exact eb
theorem un_rl {n : Nat} {h : Hd} {o' : O} (R : Rl K α h H) (ea : α[n]? = some a) (ha : H a = some (.frz od u)) (nu : ∀ vs, u ≠ .lst vs ∧ u ≠ .tup vs) (ro : RelO K α (L2.upd H a u) a o') : Rl K α (h.set n o') (L2.upd H a u) := by
  refine ⟨by rw [List.length_set]; exact R.len, R.nd, fun m w b h1 h2 => ?_⟩
  by_cases hm : m = n
  · subst hm
    rw [ea] at h2; cases h2
    have hl : m < h.length := by rw [← R.len]; exact (List.getElem?_eq_some_iff.mp ea).1
    rw [List.getElem?_set_self hl] at h1
    cases h1
    exact ro
  · rw [List.getElem?_set_ne (Ne.symm hm)] at h1
    refine (R.ob m w b h1 h2).mono (fun _ _ e => e) (un_tup ha) ⟨un_ro ha nu, un_xt ha nu⟩ (upd_ne fun z => ?_)
    subst z
    obtain ⟨l1, e1⟩ := List.getElem?_eq_some_iff.mp h2
    obtain ⟨l2, e2⟩ := List.getElem?_eq_some_iff.mp ea
    exact hm ((List.getElem_inj R.nd).mp (e1.trans e2.symm))
end
theorem free_at {n : Nat} {h h' : Hd} {od : Obj} {u : HO} (R : Rl K α h H) (ea : α[n]? = some a) (ha : H a = some (.frz od u)) (e : freeD n h = some h') : (∀ vs, u ≠ .lst vs ∧ u ≠ .tup vs) ∧ Rl K α h' (L2.upd H a u) := by
  unfold freeD at e
  split at e
  · rename_i kvs ho
    cases e
    obtain ⟨od', l, h0, rk⟩ := R.ob n _ a ho ea
    rw [ha] at h0
    cases h0
    have nu : ∀ vs, HO.dK l ≠ .lst vs ∧ HO.dK l ≠ .tup vs := fun vs => ⟨fun z => (nomatch z), fun z => (nomatch z)⟩
    exact ⟨nu, un_rl R ea ha nu ⟨l, upd_same, RelKK.mono (fun _ _ e => e) (un_tup ha) ⟨un_ro ha nu, un_xt ha nu⟩ _ _ rk⟩⟩
  · rename_i kvs ho
    cases e
    obtain ⟨od', l, h0, rk⟩ := R.ob n _ a ho ea
    rw [ha] at h0
    cases h0
    have nu : ∀ vs, HO.dT l ≠ .lst vs ∧ HO.dT l ≠ .tup vs := fun vs => ⟨fun z => (nomatch z), fun z => (nomatch z)⟩
    exact ⟨nu, un_rl R ea ha nu ⟨l, upd_same, RelKT.mono (fun _ _ e => e) (un_tup ha) ⟨un_ro ha nu, un_xt ha nu⟩ _ _ rk⟩⟩
  · cases e
theorem lock_at {w : W} {v : V} {n : Nat} {h1 : Hd} (R : Rl K α hd H) (r : RelW K α H w v) (e : lockD w hd = some (n, h1)) :
    ∃ a u, α[n]? = some a ∧ H a = some u ∧ Mut (some u) ∧ noFz u = true ∧ ∀ od, Rl K α h1 (L2.upd H a (.frz od u)) := by
  cases w with
  | l xs => cases e
  | v d =>
    cases d with
    | obj m =>
      obtain ⟨a, ea, _⟩ := r
      simp only [lockD] at e
      split at e
      · rename_i kvs ho
        cases e
        obtain ⟨l, h0, rk⟩ := R.ob _ _ a ho ea
        exact ⟨a, _, ea, h0, trivial, rfl, fun od => R.set ea h0 rfl (o := .lkK kvs) ⟨od, l, upd_same, rk.gr R (Gr.set ea h0 rfl _)⟩⟩
      · rename_i kvs ho
        cases e
        obtain ⟨l, h0, rk⟩ := R.ob _ _ a ho ea
        exact ⟨a, _, ea, h0, trivial, rfl, fun od => R.set ea h0 rfl (o := .lkT kvs) ⟨od, l, upd_same, rk.gr R (Gr.set ea h0 rfl _)⟩⟩
      · cases e
    | _ => cases e
theorem gr_unlock {n : Nat} {od : Obj} {u : HO} (ea : α[n]? = some a) (h0 : H a = some u) (hf : noFz u = true) (g : Gr α (L2.upd H a (.frz od u)) α' H') : Gr α H α' (L2.upd H' a u) := by
  have am : a ∈ α := List.mem_of_getElem? ea
  obtain ⟨β, rfl, hβ⟩ := g.pre
  refine ⟨⟨β, rfl, fun b hb => ?_⟩, fun b o hb hn => ?_, fun b o w hb => ?_⟩
  · obtain ⟨h1, h2⟩ := hβ b hb
    rw [upd_ne fun z => by subst z; exact h2 am] at h1
    exact ⟨h1, h2⟩
  · have nb : b ≠ a := fun z => by subst z; exact hn am
    rw [upd_ne nb]
    exact g.fr b o (by rw [upd_ne nb]; exact hb) hn
  · have nb : b ≠ a := fun z => by
      subst z
      rw [h0] at hb
      cases hb
      cases hf
    rw [upd_ne nb]
    exact g.fz b o w (by rw [upd_ne nb]; exact hb)
theorem RelS.un {od : Obj} {u : HO} {σd : Sd} {σ : L2.St} (S : RelS K α H σd σ) (ha : H a = some (.frz od u)) (nu : ∀ vs, u ≠ .lst vs ∧ u ≠ .tup vs) : RelS K α (L2.upd H a u) σd σ :=
  ⟨S.len, fun i d e => let ⟨v, h1, h2⟩ := S.ix i d e; ⟨v, h1, RelD.mono (fun _ _ e => e) (un_tup ha) ⟨un_ro ha nu, un_xt ha nu⟩ d v h2⟩⟩
theorem RelW.un {od : Obj} {u : HO} {w : W} {v : V} (r : RelW K α H w v) (ha : H a = some (.frz od u)) (nu : ∀ vs, u ≠ .lst vs ∧ u ≠ .tup vs) : RelW K α (L2.upd H a u) w v := by
  cases w with
  | v d => exact RelD.mono (fun _ _ e => e) (un_tup ha) ⟨un_ro ha nu, un_xt ha nu⟩ d v r
  | l xs =>
    obtain ⟨b, vs, e, hb, hn, hx⟩ := r
    exact ⟨b, vs, e, by rw [upd_ne fun z => by subst z; rw [ha] at hb; cases hb]; exact hb, hn, RelDs.mono (fun _ _ e => e) (un_tup ha) ⟨un_ro ha nu, un_xt ha nu⟩ _ _ hx⟩
theorem s_lock {i : Nat} {f : FSt} {st : Stmt} (h : PS X st (TSd X.K Y Wx f)) : PS X st (TSd X.K Y Wx (lockS i f)) := by
  refine PS.weak (ps_lock h) fun D σ H q => ?_
  obtain ⟨α, σd, hd, R, S, q⟩ := q
  simp only [lockS] at q
  split at q
  · rename_i d ed
    obtain ⟨v, ev, rv⟩ := S.ix i d ed
    split at q
    · rename_i n h1 el
      obtain ⟨a, u, ea, h0, mu, nf, Rk⟩ := lock_at R (w := .v d) rv el
      refine ⟨a, u, h0, mu, fun od => ⟨α, σd, h1, Rk od, S.gr R (Gr.set ea h0 nf _), ?_⟩⟩
      have lk : L2.upd H a (.frz od u) a = some (.frz od u) := upd_same
      cases ef : f σd h1 with
      | ok r hd2 =>
        rw [ef] at q
        simp only [DL.R.bind_ok] at q
        cases e3 : freeD n hd2 with
        | none => rw [e3] at q; exact q.elim
        | some hd3 =>
          rw [e3] at q
          cases r with
          | nx σ2 =>
            intro α' H' σ' g' R' S'
            have ha := g'.fz a od u lk
            obtain ⟨nu, R3⟩ := free_at R' (g'.get ea) ha e3
            exact ⟨ha, q α' _ σ' (gr_unlock ea h0 nf g') R3 (S'.un ha nu)⟩
          | bk σ2 =>
            intro α' H' σ' g' R' S'
            have ha := g'.fz a od u lk
            obtain ⟨nu, R3⟩ := free_at R' (g'.get ea) ha e3
            exact ⟨ha, q α' _ σ' (gr_unlock ea h0 nf g') R3 (S'.un ha nu)⟩
          | ct σ2 =>
            intro α' H' σ' g' R' S'
            have ha := g'.fz a od u lk
            obtain ⟨nu, R3⟩ := free_at R' (g'.get ea) ha e3
            exact ⟨ha, q α' _ σ' (gr_unlock ea h0 nf g') R3 (S'.un ha nu)⟩
          | rt w =>
            intro α' H' v' g' R' r' n'
            have ha := g'.fz a od u lk
            obtain ⟨nu, R3⟩ := free_at R' (g'.get ea) ha e3
            refine ⟨ha, q α' _ v' (gr_unlock ea h0 nf g') R3 (r'.un ha nu) ?_⟩
            cases w with
            | v _ => trivial
            | l xs =>
              intro b eb
              have hb := n' b eb
              cases e5 : H b with
              | none => rfl
              | some o =>
                by_cases z : b = a
                · subst z; rw [lk] at hb; cases hb
                · rw [upd_ne z, e5] at hb; cases hb
          | xc c fs σ2 => exact q.elim
      | ex => rw [ef] at q; exact q.elim
      | no => rw [ef] at q; exact q.elim
    · exact q.elim
  · exact q.elim
theorem e_lock {i : Nat} {f : FV} {e : Expr} (h : EOk X f e) : EOk X (lockV i f) e := by
  refine ⟨TV.mono_iff (pe_lock h.pe) fun σ H Q q => ?_, h.pl⟩
  obtain ⟨α, σd, hd, R, S, q⟩ := q
  simp only [lockV] at q
  split at q
  · rename_i d ed
    obtain ⟨v, ev, rv⟩ := S.ix i d ed
    split at q
    · rename_i n h1 el
      obtain ⟨a, u, ea, h0, mu, nf, Rk⟩ := lock_at R (w := .v d) rv el
      refine ⟨a, u, h0, mu, fun od => ⟨α, σd, h1, Rk od, S.gr R (Gr.set ea h0 nf _), ?_⟩⟩
      have lk : L2.upd H a (.frz od u) a = some (.frz od u) := upd_same
      cases ef : f σd h1 with
      | ok w hd2 =>
        rw [ef] at q
        simp only [DL.R.bind_ok] at q
        cases e3 : freeD n hd2 with
        | none => rw [e3] at q; exact q.elim
        | some hd3 =>
          rw [e3] at q
          intro α' H' v' g' R' r' n'
          have ha := g'.fz a od u lk
          obtain ⟨nu, R3⟩ := free_at R' (g'.get ea) ha e3
          refine ⟨ha, q α' _ v' (gr_unlock ea h0 nf g') R3 (r'.un ha nu) ?_⟩
          cases w with
          | v _ => trivial
          | l xs =>
            intro b eb
            have hb := n' b eb
            cases e5 : H b with
            | none => rfl
            | some o =>
              by_cases z : b = a
              · subst z; rw [lk] at hb; cases hb
              · rw [upd_ne z, e5] at hb; cases hb
      | ex => rw [ef] at q; exact q.elim
      | no => rw [ef] at q; exact q.elim
    · exact q.elim
  · exact q.elim
end DL
namespace DL
open PySem PySem.Spec PyProof.Rows L2

variable {K : PySem.W.Frag}
variable {α α' α'' α1 α0 : List Addr} {H H' H'' H1 H0 : Hp} {hd hd' hd1 : Hd} {a p : Addr}
variable {X : Cx}
variable {Y : Ys} {Wx : WX}
theorem lookup_mem {f : Str} {v : V} : ∀ {l : List (Str × V)}, (l.map (·.1)).Nodup → (f, v) ∈ l → l.lookup f = some v
  | [], _, h => by cases h
  | (g, u) :: l, nd, h => by
    rw [List.map_cons, List.nodup_cons] at nd
    rw [lookup_put]
    by_cases e : f = g
    · rw [if_pos e]
      rcases List.mem_cons.mp h with q | q
      · cases q; rfl
      · subst e
        exact absurd (List.mem_map.mpr ⟨_, q, rfl⟩) nd.1
    · rw [if_neg e]
      rcases List.mem_cons.mp h with q | q
      · cases q; exact absurd rfl e
      · exact lookup_mem nd.2 q
theorem zip_sub : ∀ (ns : List Str) (vs : List V), ((ns.zip vs).map (·.1)).Sublist ns
  | [], _ => by simp
  | _ :: _, [] => by simp
  | n :: ns, v :: vs => by
    rw [List.zip_cons_cons, List.map_cons]
    exact (zip_sub ns vs).cons₂ _
theorem xfs_get {ns : List Str} {vs : List V} {j : Nat} {f : Str} {v : V} (nd : ns.Nodup) (e : ns[j]? = some f) (e2 : vs[j]? = some v) : (xfs ns vs).lookup f = some v := by
  unfold xfs
  refine lookup_mem ?_ ?_
  · rw [List.map_reverse]
    refine (List.reverse_perm _).nodup_iff.mpr ?_
    exact nd.sublist (zip_sub ns vs)
  · rw [List.mem_reverse]
    refine List.mem_iff_getElem?.mpr ⟨j, ?_⟩
    rw [List.getElem?_zip_eq_some]
    exact ⟨e, e2⟩
def chkI (sc : Scope) : List Str → List Stmt → Bool
  | [], sts => sts.isEmpty
  | f :: fs, sts => match sts with
    | .Assign [.Attribute (.Name s _) g _] (.Name y _) _ :: r => decide (s = "self") && decide (g = f) && decide (y = f) && (match sc.names.lookup s with
      | some .local => true
      | _ => false) && (match sc.names.lookup y with
      | some .local => true
      | _ => false) && !(y == ("__debug__" : Str)) && !(y == ("__classdict__" : Str)) && chkI sc fs r
    | _ => false
def tI (K : PySem.W.Frag) (i : Nat) : List Str → TS
  | [] => tNext
  | f :: r => tSeq (tOst K f (tVar 0) (tVar i)) (tI K (i + 1) r)
theorem loc_of {o : Option NameKind} (h : (match o with
      | some .local => true
      | _ => false) = true) : o = some .local := by
  split at h
  · rfl
  · cases h
theorem inits {sc : Scope} (hs : X.env.scope = sc) (h0 : X.N[0]? = some ("self" : Str)) : ∀ (fs : List Str) (sts : List Stmt) (i : Nat), (∀ j f, fs[j]? = some f → X.N[i + j]? = some f) → chkI sc fs sts = true → PSs X sts (tI X.K i fs)
  | [], sts, i, _, h => by
    cases sts with
    | nil => exact pss_nil
    | cons => cases h
  | f :: fs, sts, i, hn, h => by
    unfold chkI at h
    split at h
    · simp only [Bool.and_eq_true, decide_eq_true_eq, Bool.not_eq_true'] at h
      obtain ⟨⟨⟨⟨⟨⟨⟨rfl, rfl⟩, rfl⟩, l1⟩, l2⟩, d1⟩, d2⟩, r⟩ := h
      refine pss_cons (ps_ost (pe_var h0 (.inl ?_)) (pe_var (hn 0 _ rfl) (.inl ?_) d1 d2)) (inits hs h0 fs _ (i + 1) (fun j g e => ?_) r)
      · rw [hs]; exact loc_of l1
      · rw [hs]; exact loc_of l2
      · rw [Nat.add_assoc, Nat.add_comm 1 j]
        exact hn (j + 1) g e
    · cases h
def spInit (C : Addr) (ns : List Str) : Sp := fun vs H Q _ => ∃ (a : Addr) (us : List V), vs = .ref a :: us ∧ us.length = ns.length ∧ H a = some (exo a C none) ∧
  ∀ (d : Addr) (H2 : Hp), H d = none → d ≠ a → H2 a = some (exo a C (some d)) → H2 d = some (exd d (xfs ns us)) → (∀ b, b ≠ a → b ≠ d → H2 b = H b) → Q .non H2
theorem xfs_app {pre : List Str} {us : List V} {f : Str} {u : V} (hl : us.length = pre.length) : xfs (pre ++ [f]) (us ++ [u]) = (f, u) :: xfs pre us := by
  unfold xfs
  rw [List.zip_append hl.symm, List.reverse_append]
  rfl
theorem tI_go {C a d : Addr} {D : Ends} {σ : L2.St} {H : Hp} (T : OexC K C) (h0 : σ[0]? = some (some (.ref a))) (hd : H d = none) (da : d ≠ a) : ∀ (fs pre : List Str) (us ws : List V) (H2 : Hp), us.length = pre.length → ws.length = fs.length → (pre.length + fs.length ≤ 900) →
    (∀ j u, ws[j]? = some u → σ[pre.length + 1 + j]? = some (some u)) → (∀ f ∈ fs, PySem.W.findIn K (.ref C) f = some none) → H2 a = some (exo a C (some d)) → H2 d = some (exd d (xfs pre us)) → (∀ b, b ≠ a → b ≠ d → H2 b = H b) →
    (∀ H3 : Hp, H3 a = some (exo a C (some d)) → H3 d = some (exd d (xfs (pre ++ fs) (us ++ ws))) → (∀ b, b ≠ a → b ≠ d → H3 b = H b) → D.nx σ H3) → tI K (pre.length + 1) fs D σ H2
  | [], pre, us, ws, H2, hl, hw, _, _, _, ea, ed, eb, q => by
    have : ws = [] := List.eq_nil_of_length_eq_zero hw
    subst this
    exact q H2 ea (by rw [List.append_nil, List.append_nil]; exact ed) eb
  | f :: fs, pre, us, ws, H2, hl, hw, hz, hs, hn, ea, ed, eb, q => by
    cases ws with
    | nil => cases hw
    | cons u ws =>
      have e1 := hs 0 u rfl
      refine ⟨u, e1, _, h0, a, C, rfl, T, hn f (List.mem_cons_self ..), .inr ⟨d, xfs pre us, ea, ed, ?_, ?_⟩⟩
      · unfold xfs
        rw [List.length_reverse, List.length_zip]
        omega
      · have ih := tI_go (D := D) (σ := σ) (H := H) T h0 hd da fs (pre ++ [f]) (us ++ [u]) ws (L2.upd H2 d (exd d ((f, u) :: xfs pre us))) (by simp [hl]) (by simpa using hw) (by simp only [List.length_append, List.length_cons, List.length_nil] at hz ⊢; omega)
          (fun j v e => by
            have := hs (j + 1) v e
            rw [List.length_append, List.length_singleton]
            rw [show pre.length + 1 + 1 + j = pre.length + 1 + (j + 1) by omega]
            exact this)
          (fun g hg => hn g (List.mem_cons_of_mem _ hg)) (by rw [upd_ne (Ne.symm da)]; exact ea) (by rw [xfs_app hl]; exact upd_same) (fun b b1 b2 => by rw [upd_ne b2]; exact eb b b1 b2)
          (fun H3 z1 z2 z3 => q H3 z1 (by rw [List.append_assoc, List.append_assoc] at z2; exact z2) z3)
        rw [List.length_append, List.length_singleton] at ih
        exact ih
structure XCls (K : PySem.W.Frag) (C : Addr) (ns : List Str) : Prop where
  oex : OexC K C
  ga : PySem.W.findIn K (.ref C) "__getattribute__" = some (some (.builtin "BaseException.__getattribute__"))
  gg : ∃ g, PySem.W.findIn K (.ref C) "__getattr__" = some g
  hd : PySem.W.hasDictIn K C = true
  no : ∀ f ∈ ns, PySem.W.findIn K (.ref C) f = some none
  nd : ns.Nodup
  sm : ns.length ≤ 900
  ini : ∃ (fI : Addr) (fd : FuncData), PySem.W.findIn K (.ref C) "__init__" = some (some (.ref fI)) ∧ PySem.W.typeIn K (.ref fI) = some (.type "function") ∧ Binds K fd ("self" :: ns) [] ∧
    ∀ (P : Program) (w : World) (mg : Str → Option Value) (base : Heap), FnOk P w K mg base CX0 1 fI fd ("self" :: ns) (spInit C ns)
theorem init_fn {qual : Str} {st : Stmt} {fI C : Addr} {fd : FuncData} {f0 : Str} {ns : List Str} (Fu : L2.Fun K "__init__" qual st fI fd) (S : FnScope ("self" :: f0 :: ns) ("self" :: f0 :: ns) (defScope st)) (T : OexC K C) (hn : ∀ f ∈ f0 :: ns, PySem.W.findIn K (.ref C) f = some none) (hz : (f0 :: ns).length ≤ 900)
    (ch : chkI (defScope st) (f0 :: ns) (defBody st) = true) {P : Program} {w : World} {mg : Str → Option Value} {base : Heap} : FnOk P w K mg base CX0 1 fI fd ("self" :: f0 :: ns) (spInit C (f0 :: ns)) := by
  refine L2.Fun.ok (k := 0) Fu S (fun vs H Q E sp => ?_) fun cdv A outer s H vs Q E hr sp => ⟨tI K 1 (f0 :: ns), ?_, ?_⟩
  · obtain ⟨a, us, rfl, hl, _⟩ := sp
    rw [List.length_cons, hl]
    rfl
  · exact inits (X := (cxOf CX0 P w K mg base ("self" :: f0 :: ns) qual (defScope st) fI cdv A outer s H E).nox) rfl rfl (f0 :: ns) _ 1 (fun j f e => by rw [Nat.add_comm]; exact e) ch
  · obtain ⟨a, us, rfl, hl, ea, q⟩ := sp
    cases us with
    | nil => cases hl
    | cons u us =>
      refine ⟨u, rfl, _, rfl, a, C, rfl, T, hn f0 (List.mem_cons_self ..), .inl ⟨ea, fun dx hdx da => ?_⟩⟩
      refine tI_go (K := K) (C := C) (a := a) (d := dx) (H := H) T rfl hdx da ns [f0] [u] us _ rfl (by simpa using hl) (by simp only [List.length_cons, List.length_nil] at hz ⊢; omega) (fun j v e => ?_) (fun f hf => hn f (List.mem_cons_of_mem _ hf)) upd_same ?_ (fun b b1 b2 => ?_) (fun H3 z1 z2 z3 => q dx H3 hdx da z1 z2 z3)
      · unfold L2.start
        have hj : j < us.length := (List.getElem?_eq_some_iff.mp e).1
        rw [List.getElem?_append_left (by simp only [List.length_map, List.length_cons, List.length_nil]; omega), List.getElem?_map]
        show Option.map some ((V.ref a :: u :: us)[1 + 1 + j]?) = _
        rw [show 1 + 1 + j = j + 1 + 1 by omega, List.getElem?_cons_succ, List.getElem?_cons_succ, e]
        rfl
      · rw [upd_ne da, upd_same]
        rfl
      · rw [upd_ne b1, upd_ne b2]
def sRaise (c : Nat) (fs : List FV) : FSt := fun σ h => (vSeq fs σ h).bind fun ds h => .ok (.xc c ds σ) h
theorem del_upd {C d a : Addr} {fs : List (Str × V)} {H1 H2 : Hp} (ha : H1 a = none) (hd : L2.upd H1 a (exo a C none) d = none) (da : d ≠ a) (eb : ∀ b, b ≠ a → b ≠ d → H2 b = L2.upd H1 a (exo a C none) b) : L2.upd (L2.del H2 a) d (.xd fs) = L2.upd H1 d (.xd fs) := by
  funext b
  by_cases b1 : b = d
  · subst b1; rw [upd_same, upd_same]
  · rw [upd_ne b1, upd_ne b1]
    by_cases b2 : b = a
    · subst b2; rw [del_same, ha]
    · rw [del_ne b2, eb b b2 b1, upd_ne b2]
theorem s_raise {c : Nat} {C : Addr} {ns : List Str} {fs : List FV} {x : Str} {e : Expr} {es : List Expr} {p pos pos2 : Pos} (hc : X.calm = true) (tk : L2.Takes X Wx) (T : XCls X.K C ns) (hY : Y[c]? = some (C, ns)) (hr : Room 2 X.A) (hg : Gl X x) (hm : X.mg x = some (.ref C)) (hl : fs.length = ns.length)
    (hdb : (x == ("__debug__" : Str)) = false) (h : EsOk X fs (e :: es)) : PS X (.Raise (some (.Call (.Name x p) (e :: es) [] pos)) none pos2) (TSd X.K Y Wx (sRaise c fs)) := by
  obtain ⟨fI, fd, iC, tI, hb, F1⟩ := T.ini
  have pl := h.plain
  rw [List.all_cons, Bool.and_eq_true] at pl
  refine PS.weak (ps_raise hc tk (pmk_oex (k := 1) T.oex iC tI (F1 _ _ _ _) hr hb .nil pass0 hg hm (a_seq h) hdb (star_cons pl.1 _ _) (stars_any pl.2))) fun D σ H q => ?_
  obtain ⟨α, σd, hd, R, S, q⟩ := q
  have q : PoS X.K Y Wx α H ((vSeq fs σd hd).bind fun ds h => .ok (.xc c ds σd) h) D := q
  refine TL.seq R S q.ok fun ds hd1 α1 H1 vs e1 g1 R1 S1 rs => ?_
  rw [e1] at q
  have dl : ds.length = ns.length := by
    cases e3 : vSeq fs σd hd with
    | ok ds2 h2 =>
      rw [e3] at e1
      have := vSeq_len e3
      cases e1
      omega
    | ex => rw [e3] at e1; cases e1
    | no => rw [e3] at e1; cases e1
  have zm := T.sm
  refine ⟨by rw [rs.length]; omega, fun a ha => ⟨a, vs ++ [], rfl, by rw [List.append_nil, rs.length]; exact dl, upd_same, fun d H2 hdn da ea ed eb => ⟨rfl, d, _, ea, ed, ?_, ?_⟩⟩⟩
  · rw [upd_ne da] at hdn; exact hdn
  · have hd1 : H1 d = none := by rw [upd_ne da] at hdn; exact hdn
    rw [del_upd ha hdn da eb, List.append_nil]
    exact q α1 _ σ C ns d vs (g1.trans (Gr.upd R1 hd1 _)) (R1.upd hd1 _) (S1.gr R1 (Gr.upd R1 hd1 _)) hY dl upd_same (rs.gr R1 (Gr.upd R1 hd1 _))
def TVX (K : PySem.W.Frag) (Y : Ys) (Wx : WX) (f : FV) : TE := fun σ H Q => ∃ α σd hd, Rl K α hd H ∧ RelS K α H σd σ ∧ PoX K Y α H (f σd hd) Q (WE Wx σ)
def PoLX (K : PySem.W.Frag) (Y : Ys) (α : List Addr) (H : Hp) (r : R (List D)) (Q : List V → Hp → Prop) (E : XK) : Prop := match r with
  | .ok w hd' => PoL K α H (.ok w hd') Q
  | .ex c fs hd' => PoX K Y α H (.ex c fs hd') (fun _ _ => True) E
  | .no => False
def TLX (K : PySem.W.Frag) (Y : Ys) (Wx : WX) (f : FL) : TA := fun σ H Q => ∃ α σd hd, Rl K α hd H ∧ RelS K α H σd σ ∧ PoLX K Y α H (f σd hd) Q (WE Wx σ)
theorem PoLX.from {r : R (List D)} {Q : List V → Hp → Prop} {E : XK} (g : Gr α H α1 H1) (h : PoLX K Y α H r Q E) : PoLX K Y α1 H1 r Q E := by
  cases r with
  | ok w h' => exact PoL.from g (r := .ok w h') h
  | ex c fs h' => exact fun α' H' C ns d vs g' R' => h α' H' C ns d vs (g.trans g') R'
  | no => exact h.elim
structure XOk (X : Cx) (Y : Ys) (Wx : WX) (f : FV) (e : Expr) : Prop where
  pe : PE X e (TVX X.K Y Wx f)
  pl : plainE e = true
inductive XsOk (X : Cx) (Y : Ys) (Wx : WX) : List FV → List Expr → Prop
  | nil : XsOk X Y Wx [] []
  | cons {f : FV} {fs : List FV} {e : Expr} {es : List Expr} : XOk X Y Wx f e → XsOk X Y Wx fs es → XsOk X Y Wx (f :: fs) (e :: es)
theorem XsOk.plain : ∀ {fs : List FV} {es : List Expr}, XsOk X Y Wx fs es → es.all plainE = true
  | _, _, .nil => rfl
  | _, _, .cons h t => by rw [List.all_cons, h.pl, t.plain]; rfl
theorem TVX.seq {B : Type} {f : FV} {k : W → Hd → R B} {σd : Sd} {σ : L2.St} {C : V → Hp → Prop} (R1 : Rl K α hd H) (S : RelS K α H σd σ) (P : R B → Prop) (no : ¬ P .no) (q : P ((f σd hd).bind k))
    (ex : ∀ c fs h, P (.ex c fs h) → PoX K Y α H (.ex c fs h) C (WE Wx σ))
    (cont : ∀ x hd1 α1 H1 v1, P (k x hd1) → Gr α H α1 H1 → Rl K α1 hd1 H1 → RelS K α1 H1 σd σ → RelW K α1 H1 x v1 → NewW H x v1 → C v1 H1) : TVX K Y Wx f σ H C := by
  refine ⟨α, σd, hd, R1, S, ?_⟩
  cases e : f σd hd with
  | ok x hd1 =>
    rw [e] at q
    exact fun α1 H1 v1 g R2 r n => cont x hd1 α1 H1 v1 q g R2 (S.gr R1 g) r n
  | ex c fs h => rw [e] at q; exact ex c fs h q
  | no => rw [e] at q; exact (no q).elim
theorem TLX.seq {B : Type} {f : FL} {k : List D → Hd → R B} {σd : Sd} {σ : L2.St} {C : List V → Hp → Prop} (R1 : Rl K α hd H) (S : RelS K α H σd σ) (P : R B → Prop) (no : ¬ P .no) (q : P ((f σd hd).bind k))
    (ex : ∀ c fs h, P (.ex c fs h) → PoX K Y α H (.ex c fs h) (fun _ _ => True) (WE Wx σ))
    (cont : ∀ x hd1 α1 H1 v1, P (k x hd1) → Gr α H α1 H1 → Rl K α1 hd1 H1 → RelS K α1 H1 σd σ → RelDs K α1 H1 x v1 → C v1 H1) : TLX K Y Wx f σ H C := by
  refine ⟨α, σd, hd, R1, S, ?_⟩
  cases e : f σd hd with
  | ok x hd1 =>
    rw [e] at q
    exact fun α1 H1 v1 g R2 r => cont x hd1 α1 H1 v1 q g R2 (S.gr R1 g) r
  | ex c fs h => rw [e] at q; exact ex c fs h q
  | no => rw [e] at q; exact (no q).elim
def vNx (f : FV) : FV := fun σ h => match f σ h with
  | .ex _ _ _ => .no
  | r => r
theorem x_of {f : FV} {e : Expr} (h : EOk X f e) : XOk X Y Wx (vNx f) e := ⟨TV.mono_iff h.pe fun σ H Q q => by
  obtain ⟨α, σd, hd, R, S, q⟩ := q
  refine ⟨α, σd, hd, R, S, ?_⟩
  simp only [vNx] at q
  cases e : f σd hd with
  | ok w h => rw [e] at q; exact q
  | ex => rw [e] at q; exact q.elim
  | no => rw [e] at q; exact q.elim, h.pl⟩
theorem x_seq : ∀ {fs : List FV} {es : List Expr}, XsOk X Y Wx fs es → PA X es (TLX X.K Y Wx (vSeq fs))
  | _, _, .nil => PA.weak pa_nil fun σ H Q q => by
    obtain ⟨α, σd, hd, R, S, q⟩ := q
    exact q α H [] (Gr.refl _ _) R rfl
  | _, _, .cons (f := f) (fs := fs) h t => PA.weak (pa_cons h.pe (x_seq t) (star_cons h.pl _ _)) fun σ H Q q => by
    obtain ⟨α, σd, hd, R, S, q⟩ := q
    have q : PoLX X.K Y α H ((f σd hd).bind fun w h => (w.settle h).bind fun d h => (vSeq fs σd h).bind fun ds h => .ok (d :: ds) h) Q (WE Wx σ) := q
    refine TVX.seq R S (fun r => PoLX X.K Y α H r Q (WE Wx σ)) (fun z => z) q (fun c fs h z => z) fun x hd1 α1 H1 v1 q g R1 S1 r n => ?_
    obtain ⟨d, hd2, α2, e2, g2, R2, r2, S2⟩ := settled g R1 r n
    rw [e2] at q
    have q : PoLX X.K Y α2 H1 ((vSeq fs σd hd2).bind fun ds h => .ok (d :: ds) h) Q (WE Wx σ) := q.from g2
    refine TLX.seq R2 (S2 S1) (fun r => PoLX X.K Y α2 H1 r Q (WE Wx σ)) (fun z => z) q (fun c fs h z => z) fun ds hd3 α3 H3 vs q g3 R3 S3 rs => ?_
    exact q α3 H3 (v1 :: vs) g3 R3 ⟨v1, vs, rfl, r2.gr R2 g3, rs⟩
theorem x_tup {fs : List FV} {es : List Expr} {k : Nat} {pos : Pos} (h : XsOk X Y Wx fs es) : XOk X Y Wx (vTup fs) (.Tuple es k pos) := by
  refine ⟨TV.mono_iff (pe_tup (x_seq h)) fun σ H Q q => ?_, rfl⟩
  obtain ⟨α, σd, hd, R, S, q⟩ := q
  have q : PoX X.K Y α H ((vSeq fs σd hd).bind fun ds h => if ds.length ≤ sizeLine then .ok (.v (.tup ds)) h else .no) Q (WE Wx σ) := q
  refine TLX.seq R S (fun r => PoX X.K Y α H r Q (WE Wx σ)) (fun z => z) q (fun c fs h z => z) fun ds hd1 α1 H1 vs q g R1 S1 rs => ?_
  split at q
  · rename_i hz
    exact ⟨by rw [rs.length]; exact hz, fun p hp => PoW.newT R1 rs (PoW.from g R1 (r := .ok _ _) q) hp⟩
  · exact q.elim
theorem x_call {k n : Nat} {f : Addr} {fd : FuncData} {ps : List Str} {cl : List D → Hd → R W} {fs : List FV} {x : Str} {e : Expr} {es : List Expr} {p pos : Pos} (tk : L2.Takes X Wx)
    (F : FnOk X.prog X.w X.K X.mg X.base (L2.CX X.prog X.w) k f fd ps (spD X.K Y n cl)) (hr : Room k X.A) (hg : Gl X x) (hm : X.mg x = some (.ref f)) (hk : PySem.W.keepIn X.K (.ref f) = true) (hb : Binds X.K fd ps [])
    (hn : fs.length = n) (hdb : (x == ("__debug__" : Str)) = false) (h : XsOk X Y Wx fs (e :: es)) : XOk X Y Wx (vCall cl [] fs) (.Call (.Name x p) (e :: es) [] pos) := by
  have pl := h.plain
  rw [List.all_cons, Bool.and_eq_true] at pl
  refine ⟨TV.mono_iff (pe_callS (E := WE Wx) F hr hg hm hk hb (fun σ => passAt tk σ) (x_seq h) hdb (star_cons pl.1 _ _) (stars_any pl.2)) fun σ H Q q => ?_, rfl⟩
  obtain ⟨α, σd, hd, R, S, q⟩ := q
  have q : PoX X.K Y α H ((vSeq fs σd hd).bind fun ds h => cl (ds ++ []) h) Q (WE Wx σ) := q
  cases e0 : vSeq fs σd hd with
  | ok ds h1 =>
    rw [e0] at q
    refine ⟨α, σd, hd, R, S, ?_⟩
    rw [e0]
    intro α1 H1 vs g1 R1 rs
    refine ⟨α1, h1, ds, R1, rs, by rw [vSeq_len e0]; exact hn, ?_⟩
    have q : PoX X.K Y α H (cl (ds ++ []) h1) Q (WE Wx σ) := q
    rw [List.append_nil] at q
    exact q.from g1 R1
  | ex c us h1 =>
    rw [e0] at q
    refine ⟨α, σd, hd, R, S, ?_⟩
    rw [e0]
    exact q
  | no => rw [e0] at q; exact q.elim
def xl {A : Type} (r : R A) (σ : Sd) (k : A → Hd → R Fl) : R Fl := match r with
  | .ok w h => k w h
  | .ex c fs h => .ok (.xc c fs σ) h
  | .no => .no
theorem TVX.xl {f : FV} {k : W → Hd → R Fl} {σd : Sd} {σ : L2.St} {C : V → Hp → Prop} {D : Ends} (R1 : Rl K α hd H) (S : RelS K α H σd σ) (q : PoS K Y Wx α H (DL.xl (f σd hd) σd k) D)
    (cont : ∀ x hd1 α1 H1 v1, PoS K Y Wx α H (k x hd1) D → Gr α H α1 H1 → Rl K α1 hd1 H1 → RelS K α1 H1 σd σ → RelW K α1 H1 x v1 → NewW H x v1 → C v1 H1) : TVX K Y Wx f σ H C := by
  refine ⟨α, σd, hd, R1, S, ?_⟩
  cases e : f σd hd with
  | ok x hd1 =>
    rw [e] at q
    exact fun α1 H1 v1 g R2 r n => cont x hd1 α1 H1 v1 q g R2 (S.gr R1 g) r n
  | ex c fs h =>
    rw [e] at q
    exact fun α' H' C ns d vs g' R' hY hl hd' rs => q α' H' σ C ns d vs g' R' (S.gr R1 g') hY hl hd' rs
  | no => rw [e] at q; exact q.elim
def sXex (f : FV) : FSt := fun σ h => xl (f σ h) σ fun _ h => .ok (.nx σ) h
theorem s_xex {f : FV} {e : Expr} {pos : Pos} (he : XOk X Y Wx f e) (hn : noComp e = true) : PS X (.Expr e pos) (TSd X.K Y Wx (sXex f)) := by
  refine PS.weak (ps_expr he.pe (swaps_no hn _ _ _)) fun D σ H q => ?_
  obtain ⟨α, σd, hd, R, S, q⟩ := q
  exact TVX.xl R S q fun x hd1 α1 H1 v1 q g R1 S1 r n => q α1 H1 σ g R1 S1
def sXret (f : FV) : FSt := fun σ h => xl (f σ h) σ fun w h => .ok (.rt w) h
theorem s_xret {f : FV} {e : Expr} {pos : Pos} (he : XOk X Y Wx f e) : PS X (.Return (some e) pos) (TSd X.K Y Wx (sXret f)) := by
  refine PS.weak (ps_ret he.pe) fun D σ H q => ?_
  obtain ⟨α, σd, hd, R, S, q⟩ := q
  exact TVX.xl R S q fun x hd1 α1 H1 v1 q g R1 S1 r n => q α1 H1 v1 g R1 r n
theorem TVX_set {f : FV} {σ : L2.St} {Q : VK} (q : TVX K Y Wx (vSet f) σ H Q) : TVX K Y Wx f σ H Q := by
  obtain ⟨α, σd, hd, R, S, q⟩ := q
  have q : PoX K Y α H ((f σd hd).bind fun w h => (w.settle h).bind fun d h => .ok (.v d) h) Q (WE Wx σ) := q
  refine TVX.seq R S (fun r => PoX K Y α H r Q (WE Wx σ)) (fun z => z) q (fun c fs h z => z) fun x hd1 α1 H1 v1 q g R1 S1 r n => ?_
  obtain ⟨d, hd2, α2, e2, g2, R2, r2, S2⟩ := settled g R1 r n
  rw [e2] at q
  exact q α2 H1 v1 g2 R2 r2 trivial
theorem x_set {f : FV} {e : Expr} (h : XOk X Y Wx f e) : XOk X Y Wx (vSet f) e := ⟨TV.mono_iff h.pe fun _ _ _ q => TVX_set q, h.pl⟩
def sXput (t : Tg) (f : FV) : FSt := fun σ h => xl (vSet f σ h) σ fun w h => match w with
  | .v d => match t.put d σ with
    | some σ' => .ok (.nx σ') h
    | none => .no
  | .l _ => .no
theorem s_xasg {t : Tg} {f : FV} {tg e : Expr} {pos : Pos} (he : XOk X Y Wx f e) (ht : PG X tg (gT X.K t)) (hs : swapsWithSole [tg] e pos.line X.env = pure false) (hw : swappedStores [tg] e X.env = pure none)
    (h1 : (assignEach [tg] X.env).map (·.2) = [assign tg X.env]) : PS X (.Assign [tg] e pos) (TSd X.K Y Wx (sXput t f)) := by
  refine PS.weak (ps_asg (x_set he).pe ht hs hw h1) fun D σ H q => ?_
  obtain ⟨α, σd, hd, R, S, q⟩ := q
  refine TVX.xl R S q fun x hd1 α1 H1 v1 q g1 R1 S1 r n => ?_
  cases x with
  | l xs => exact q.elim
  | v d =>
    simp only at q
    split at q
    · rename_i σd' ep
      exact ⟨α1, σd, hd1, d, σd', R1, S1, r, ep, fun σ' S' _ => q α1 H1 σ' g1 R1 S'⟩
    · exact q.elim
end DL
namespace DL
open PySem PySem.Spec PyProof.Rows L2

abbrev HT := Value × Option Nat × (Addr → Value → Option Addr → TS)
def clr (De : Ends) (i : Nat) : Ends := ⟨fun s h => De.nx (s.set i none) h, De.rt, fun s h => De.bk (s.set i none) h, fun s h => De.ct (s.set i none) h⟩
def sui (ts : Addr → Value → Option Addr → TS) (o : Option Nat) (De : Ends) (b : Addr) (cv : Value) (dd : Option Addr) (sg : L2.St) (Hh : Hp) : Prop := match o with
  | none => ts b cv dd De sg Hh
  | some i => ts b cv dd (clr De i) (sg.set i (some (.ref b))) Hh
def wM (K : PySem.W.Frag) (Wo : WX) (De : Ends) (st : Bool) : List HT → WX
  | [] => fun cv dd sg Hh => st = false ∧ Wo cv dd sg Hh
  | (c, o, ts) :: r => fun cv dd sg Hh => ∃ t, PySem.W.exmOne K cv c = some t ∧ (t = true → ∀ b, Hh b = none → sui ts o De b cv dd sg Hh) ∧ (t = false → wM K Wo De st r cv dd sg Hh)
def Suit (X : Cx) (sts : List Stmt) (ts : Addr → Value → Option Addr → TS) : Prop := ∀ (b : Addr) (ob : Obj) (cv : Value) (dd : Option Addr) (pz : List (Addr × Obj)), Zc cv dd ob → (∃ us, ob.data = .fields us) → PSs (X.suite b ((b, ob) :: pz)) sts (ts b cv dd)
inductive HdsM (X : Cx) (st : Bool) : List ExceptHandler → List HT → Prop
  | done : HdsM X st [] []
  | stop {hds : List ExceptHandler} : st = true → HdsM X st hds []
  | bare {x : Str} {c : Value} {ts : Addr → Value → Option Addr → TS} {q : Stmt} {su : List Stmt} {np ps : Pos} {hds : List ExceptHandler} {l : List HT} : Names X x c → Suit X (q :: su) ts → HdsM X st hds l → HdsM X st (.ExceptHandler (some (.Name x np)) none (q :: su) ps :: hds) ((c, none, ts) :: l)
  | named {x n : Str} {i : Nat} {c : Value} {ts : Addr → Value → Option Addr → TS} {q : Stmt} {su : List Stmt} {np ps : Pos} {hds : List ExceptHandler} {l : List HT} : Names X x c → X.N[i]? = some n → X.env.kindOf n = some .local → Suit X (q :: su) ts → HdsM X st hds l →
    HdsM X st (.ExceptHandler (some (.Name x np)) (some n) (q :: su) ps :: hds) ((c, some i, ts) :: l)
section
variable {X : Cx} {pq : List (Addr × Obj)} {sg : L2.St} {Hh : Hp} {sI sN : Shared} {B : Heap} {b : Addr} {cv : Value} {dd : Option Addr} {De : Ends} {Wo : WX} {h3 : Heap}
theorem off_frames {h : Heap} {o : Obj} {us : Array Value} {l : List Env} (ff : h.FunFrames B l) (e : h.get? b = some o) (ed : o.data = .fields us) : b ∉ frs l := fun hm => by
  obtain ⟨_, o2, e2, nf⟩ := ff.mem hm
  rw [e] at e2
  cases e2
  exact nf _ ed
theorem sp_back {q : Addr × Obj} {f : Flow} {s6 : Shared} (ok : X.Ok) (z : SP (X.suite b (q :: (X.pn ++ pq))) [] De f s6) : SP X pq De f s6 := by
  cases f with
  | next => obtain ⟨sg6, H6, J, w⟩ := z; exact ⟨sg6, H6, J.unsuite ok, w⟩
  | brk => obtain ⟨sg6, H6, J, w⟩ := z; exact ⟨sg6, H6, J.unsuite ok, w⟩
  | cont => obtain ⟨sg6, H6, J, w⟩ := z; exact ⟨sg6, H6, J.unsuite ok, w⟩
  | ret u => obtain ⟨v6, sg6, H6, J, r6, w⟩ := z; exact ⟨v6, sg6, H6, J.unsuite ok, r6, w⟩
theorem sp_gone {q : Addr × Obj} {f : Flow} {s6 : Shared} {i : Nat} {n : Str} {ps : Pos} (ok : X.Ok) (hN : X.N.Nodup) (hi : X.N[i]? = some n) (hl : X.env.kindOf n = some .local) (z : SP (X.suite b (q :: (X.pn ++ pq))) [] (clr De i) f s6) :
    wpAny (model X.prog X.w) X.A (do bindName X.env n .none; unbindBehindTheSuite X.env n ps) (fun _ s7 => SP X pq De f s7) X.xe s6 := by
  cases f with
  | next => obtain ⟨sg6, H6, J, w⟩ := z; exact gone_ok (J.unsuite ok) hN hi hl fun s7 J7 => ⟨_, H6, J7, w⟩
  | brk => obtain ⟨sg6, H6, J, w⟩ := z; exact gone_ok (J.unsuite ok) hN hi hl fun s7 J7 => ⟨_, H6, J7, w⟩
  | cont => obtain ⟨sg6, H6, J, w⟩ := z; exact gone_ok (J.unsuite ok) hN hi hl fun s7 J7 => ⟨_, H6, J7, w⟩
  | ret u => obtain ⟨v6, sg6, H6, J, r6, w⟩ := z; exact gone_ok (J.unsuite ok) hN hi hl fun s7 J7 => ⟨v6, _, H6, J7, r6, w⟩
theorem clauses_ok (hs : X.stack = X.env :: X.outer) (hf : X.env.frame = some X.env.locals) (hN : X.N.Nodup) (tk : L2.Takes X Wo) (J : Inv X pq sg Hh sI) (nb : ∀ y o, sI.heap.get? y = some o → y ∉ frs X.stack → B.get? y = some o) (up : sI.heap.UpToSlots h3)
    (fl : PySem.HandSPX.FlyingZ B (X.env :: X.outer) b (Zc cv dd) h3) (na : Hh b = none) (os : sN.os = sI.os) (ag : AllBare sN.gens) {st : Bool} : ∀ {hds : List ExceptHandler} {l : List HT}, HdsM X st hds l → wM X.K Wo De st l cv dd sg Hh →
    wpAny (model X.prog X.w) X.A (handleBy (.ref b) X.env hds) (SP X pq De) X.xe { sN with heap := h3 } := by
  have okx := J.ok
  have J3 : Inv X pq sg Hh { sN with heap := h3 } := J.landed nb fl.1 up os ag
  obtain ⟨o3, u3, e3, z3, d3⟩ := fl.there
  have nfr := off_frames fl.2.2.1 e3 d3
  have nL : b ≠ X.env.locals := fun z => nfr (List.mem_filterMap.mpr ⟨X.env, List.mem_cons_self, by rw [hf, z]⟩)
  have nF : b ∉ X.fs := fun hm => let ⟨e, he, q⟩ := List.mem_filterMap.mp hm; nfr (List.mem_filterMap.mpr ⟨e, List.mem_cons_of_mem _ he, q⟩)
  have S3 := J3.suite e3 d3 na nL nF
  have LT : PySem.W.Looks (model X.prog X.w) h3 (typeOf (.ref b)) cv := fun _ _ _ s k q => wpAny_typeOf_ref (k _ _ e3) (by rw [z3.1]; exact q)
  have test : ∀ {x : Str} {c : Value} {np : Pos} {Q : Value → Shared → Prop} {E : Value → Shared → Prop}, Names X x c → Q c { sN with heap := h3 } → wpAny (model X.prog X.w) (X.A.mark (some (.ref b))) (eval (.Name x np) X.env) Q E { sN with heap := h3 } := fun {x c np Q E} hc q => by
    obtain ⟨gl, db, m | ⟨m, bv, nn⟩⟩ := hc
    · exact ld_glob (X := X.suite b ((b, o3) :: (X.pn ++ pq))) S3 gl m q db
    · exact ld_blt (X := X.suite b ((b, o3) :: (X.pn ++ pq))) S3 gl m bv q nn db
  intro hds l hk
  induction hk with
  | stop e => exact fun w => absurd (e.symm.trans w.1) Bool.true_eq_false.mp
  | done =>
    intro w
    refine wpAny_handleBy_nil ?_
    obtain ⟨_, _, _, oe, vs, T, oT, ts2, he, hz, hd, h1, hr⟩ := id fl
    unfold PySem.passOn
    refine wpAny_bind (wpAny_field he hd h1 ?_)
    rw [if_neg (show ¬ ((Value.ref T == Value.none) = true) by simp)]
    have last : wpAny (model X.prog X.w) X.A (setFlight (.ref b) X.env.frame) (fun _ s4 => wpAny (model X.prog X.w) X.A (throw (.ref b) : Sem Flow) (SP X pq De) X.xe s4) X.xe { sN with heap := h3 } := by
      rw [hf]
      exact PySem.HandSPX.setFlight_upZ fl fun h4 hh4 up4 => wpAny_throw (tk _ _ ⟨b, B, sI, pq, sg, Hh, cv, dd, rfl, J, nb, up.trans up4, .inr (.inr (by rw [hs]; exact hh4)), na, os, ag, w.2⟩)
    first
      | exact wpAny_bind (wpAny_pure (wpAny_bind last))
      | exact wpAny_bind last
  | bare hc su r ih =>
    rintro ⟨t, ht, yes, no⟩
    have LM := PySem.W.exm_one (M := model X.prog X.w) J3.kIn LT ht
    refine wpAny_handleBy_cons (codeAny_handlers_test (test hc (LM.here ?_))) (by intro q; cases q)
    cases t with
    | false => exact ih (no rfl)
    | true =>
      refine codeAny_handlers_suite (PySem.HandSPX.lands_againZ fl fun h4 fl4 up4 => ?_)
      obtain ⟨o4, u4, e4, z4, d4⟩ := fl4.there
      have J4 : Inv X pq sg Hh { sN with heap := h4 } := J.landed nb fl4.1 (up.trans up4) os ag
      exact wpAny_mono ((su b o4 cv dd (X.pn ++ pq) z4 ⟨_, d4⟩).run [] _ _ Hh _ (J4.suite e4 d4 na nL nF) (yes rfl b na)) (fun f s6 z => sp_back okx z) fun _ _ z => z.elim
  | named hc hi hl su r ih =>
    rintro ⟨t, ht, yes, no⟩
    have LM := PySem.W.exm_one (M := model X.prog X.w) J3.kIn LT ht
    refine wpAny_handleBy_cons (codeAny_handlers_test (test hc (LM.here ?_))) (by intro q; cases q)
    cases t with
    | false => exact ih (no rfl)
    | true =>
      refine codeAny_handlers_suite_as (PySem.HandSPX.lands_againZ fl fun h4 fl4 up4 => ?_)
      obtain ⟨o4, u4, e4, z4, d4⟩ := fl4.there
      have J4 : Inv X pq sg Hh { sN with heap := h4 } := J.landed nb fl4.1 (up.trans up4) os ag
      refine store_ok (X := X.suite b ((b, o4) :: (X.pn ++ pq))) (v := .ref b) (J4.suite e4 d4 na nL nF) hN hi (.inl hl) rfl (fun s5 S5 => ?_) (.inr hl)
      exact wpAny_mono ((su b o4 cv dd (X.pn ++ pq) z4 ⟨_, d4⟩).run [] s5 _ Hh _ S5 (yes rfl b na)) (fun f s6 z => sp_gone okx hN hi hl z) fun _ _ z => z.elim
theorem ps_tryM {body : List Stmt} {h₀ : ExceptHandler} {hds : List ExceptHandler} {l : List HT} {pos : Pos} {tb : WX → TS} {st : Bool} (hs : X.stack = X.env :: X.outer) (hf : X.env.frame = some X.env.locals) (hN : X.N.Nodup) (tk : L2.Takes X Wo)
    (hb : ∀ (Wi : WX) (pz : List (Addr × Obj)) (xe : Value → Shared → Prop), L2.Takes (X.tr pz xe) Wi → PassesOwn (model X.prog X.w) X.A X.env xe → PSs (X.tr pz xe) body (tb Wi)) (hh : HdsM X st (h₀ :: hds) l) :
    PS X (.Try body (h₀ :: hds) [] [] pos) (fun De sg Hh => tb (wM X.K Wo De st l) De sg Hh) := by
  refine ⟨fun pq s sg Hh De Iv go => wpAny_Try_except ?_⟩
  have okx := Iv.ok
  have fr1 : X.A.frames = some (X.env :: X.outer) := by rw [okx.frames, hs]
  refine wpAny_mono ((hb (wM X.K Wo De st l) (X.pn ++ pq) (fun ev sa => wpAny (model X.prog X.w) X.A (noteFrame ev X.env) (fun _ sb => wpAny (model X.prog X.w) X.A (setFlight ev none) (fun _ sc =>
    wpAny (model X.prog X.w) X.A (handleBy ev X.env (h₀ :: hds)) (SP X pq De) X.xe sc) X.xe sb) X.xe sa) (fun u sN xx => ?_) PassesOwn.looking).run [] s sg Hh De (Iv.toTry _) go) (fun f s1 z => ?_) (fun _ _ z => z)
  · obtain ⟨b, B, sI, pz, sg2, H2, cv, dd, rfl, J2, nb, up, sky, na, os, ag, w⟩ := xx
    have sky2 : Sky B (X.env :: X.outer) b (Zc cv dd) X.env.locals sN.heap := by rw [← hs]; exact sky
    show wpAny (model X.prog X.w) X.A (noteFrame (.ref b) X.env) _ _ _
    exact Sky.land Zc.steady fr1 hf sky2 fun h3 fl3 up3 => clauses_ok hs hf hN tk (J2.ofTry okx) nb (up.trans up3) fl3 na os ag hh w
  · cases f with
    | next => obtain ⟨sg2, H2, J2, q⟩ := z; exact wpAny_execs_nil ⟨sg2, H2, J2.ofTry okx, q⟩
    | brk => obtain ⟨sg2, H2, J2, q⟩ := z; exact ⟨sg2, H2, J2.ofTry okx, q⟩
    | cont => obtain ⟨sg2, H2, J2, q⟩ := z; exact ⟨sg2, H2, J2.ofTry okx, q⟩
    | ret u => obtain ⟨v2, sg2, H2, J2, r2, q⟩ := z; exact ⟨v2, sg2, H2, J2.ofTry okx, r2, q⟩
end
end DL
namespace DL
open PySem PySem.Spec PyProof.Rows L2

inductive Ha where
  | str (s : List Nat) | int (i : Int) | fld (j : Nat)
inductive Hx where
  | one (a : Ha) | tup (as : List Ha)
inductive Hs where
  | ret (x : Hx) | set (i : Nat) (x : Hx)
structure Hn where
  c : Nat
  slot : Option Nat
  act : Hs
def Ha.val (fs : List D) : Ha → Option D
  | .str s => some (.str s)
  | .int i => some (.int i)
  | .fld j => fs[j]?
def Ha.vals (fs : List D) : List Ha → Option (List D)
  | [] => some []
  | a :: as => match a.val fs, Ha.vals fs as with
    | some d, some ds => some (d :: ds)
    | _, _ => none
def Hx.val (fs : List D) : Hx → Option D
  | .one a => a.val fs
  | .tup as => (Ha.vals fs as).map .tup
def clrO (σ : Sd) : Option Nat → Sd
  | none => σ
  | some i => σ.set i none
def inO (σ : Sd) : Option Nat → Bool
  | none => true
  | some i => decide (i < σ.length)
def Hs.run (fs : List D) (o : Option Nat) (σ : Sd) (h : Hd) (a : Hs) : R Fl := if inO σ o = true then (match a with
  | .ret x => match x.val fs with
    | some d => .ok (.rt (.v d)) h
    | none => .no
  | .set j x => match x.val fs with
    | some d => .ok (.nx (clrO ((clrO σ o).set j (some d)) o)) h
    | none => .no) else .no
def hfs (c : Nat) (fs : List D) (n : Hn) : List D := if n.c = c ∧ n.slot ≠ none then fs else []
def hand (st : Bool) (c : Nat) (fs : List D) (σ : Sd) (h : Hd) : List Hn → R Fl
  | [] => if st = true then .no else .ok (.xc c fs σ) h
  | n :: ns => if n.c = c ∨ n.c = 0 then n.act.run (hfs c fs n) n.slot σ h else hand st c fs σ h ns
def sTry (b : FSt) (st : Bool) (hs : List Hn) : FSt := fun σ h => match b σ h with
  | .ok (.xc c fs σ') h' => if c = 0 then .no else hand st c fs σ' h' hs
  | r => r

section
variable {K : PySem.W.Frag} {X : Cx} {Y : Ys} {Wo : WX}
def tXf (K : PySem.W.Frag) (b : Addr) (cv : Value) (dd : Option Addr) (f : Str) (te : TE) : TE := fun σ H Q => te σ H fun x H1 => x = .ref b ∧ ∃ (C : Addr) (ns : List Str) (dx : Addr) (fvs : List (Str × V)) (v : V), cv = .ref C ∧ XCls K C ns ∧ f ∈ ns ∧ dd = some dx ∧ H1 dx = some (.xd fvs) ∧ fvs.lookup f = some v ∧ Q v H1
theorem pe_xf {b : Addr} {ob : Obj} {cv : Value} {dd : Option Addr} {pz : List (Addr × Obj)} {e : Expr} {te : TE} {f : Str} {pos : Pos} (hz : Zc cv dd ob) (hf : ∃ us, ob.data = .fields us) (he : PE (X.suite b ((b, ob) :: pz)) e te) (hb : attributeBase e f X.env (eval e X.env) = eval e X.env) :
    PE (X.suite b ((b, ob) :: pz)) (.Attribute e f pos) (tXf X.K b cv dd f te) := by
  refine ⟨fun pins s σ H Q I h => ?_⟩
  refine attr_of hb (thn (he.run pins s σ H _ I h) fun u s1 hh => ?_)
  obtain ⟨x, H1, I1, rx, ex, C, ns, dx, fvs, v, ec, T, hm, ed, ea, el, q⟩ := hh
  subst ex
  obtain rfl : u = Value.ref b := rx
  subst ec
  subst ed
  obtain ⟨ha, _⟩ := I1.pin (b, ob) (List.mem_append_left _ List.mem_cons_self)
  obtain ⟨us, hd⟩ := hf
  have hx : ObjOk X.prog X.w H1 s1.heap dx (.xd fvs) := I1.hok dx _ ea
  obtain ⟨mA, hns, hr⟩ := hx
  obtain ⟨od, ho, hl⟩ := lookIn_ns hns
  obtain ⟨u, hu, ru⟩ := RelO.some_of (v := v) (o := mA f) (by rw [← el]; exact hr f)
  have J : PySem.W.InstAt s1.heap b ob C (some od) := ⟨ha, hz.1, by unfold PySem.W.notCls; rw [hd] <;> rfl, by rw [hz.2]; exact ho⟩
  obtain ⟨g, gg⟩ := T.gg
  exact PySem.HandSPX.exc_get I1.kIn J T.ga gg T.oex.exC (PySem.W.findObj_own T.hd (T.no f hm) rfl (by rw [hl, hu])) (handed_of ru) ⟨v, H1, I1.tok _, ru, q⟩
def tHa (K : PySem.W.Frag) (b : Addr) (cv : Value) (dd : Option Addr) (ns : List Str) (i : Nat) : Ha → TE
  | .str s => tC (.str (mkS s))
  | .int k => tC (.int k)
  | .fld j => tXf K b cv dd (ns.getD j "") (tVar i)
def tHas (K : PySem.W.Frag) (b : Addr) (cv : Value) (dd : Option Addr) (ns : List Str) (i : Nat) : List Ha → TA
  | [] => tNil
  | a :: as => tCons (tHa K b cv dd ns i a) (tHas K b cv dd ns i as)
def tHx (K : PySem.W.Frag) (b : Addr) (cv : Value) (dd : Option Addr) (ns : List Str) (i : Nat) : Hx → TE
  | .one a => tHa K b cv dd ns i a
  | .tup as => tTup (tHas K b cv dd ns i as)
def tHs (K : PySem.W.Frag) (ns : List Str) (i : Nat) (a : Hs) : Addr → Value → Option Addr → TS := fun b cv dd => match a with
  | .ret x => tSeq (tRet (tHx K b cv dd ns i x)) tNext
  | .set j x => tSeq (tAsg (tHx K b cv dd ns i x) (gName j)) tNext
def locN (sc : Scope) (x : Str) : Bool := match sc.names.lookup x with
  | some .local => true
  | _ => false
def chkHa (sc : Scope) (N : List Str) (nm : Option Str) (ns : List Str) (o : Option Nat) : Ha → Expr → Bool
  | .str s, e => match e with
    | .Constant (.str t) _ _ => decide (t = mkS s)
    | _ => false
  | .int k, e => match e with
    | .Constant (.int j) _ _ => decide (k = j)
    | _ => false
  | .fld j, e => match e with
    | .Attribute (.Name x _) f _ => decide (nm = some x) && decide (ns[j]? = some f) && locN sc x && !(x == ("__debug__" : Str)) && !(x == ("__classdict__" : Str)) && (match o with
      | some i => decide (N[i]? = some x)
      | none => false)
    | _ => false
def chkHas (sc : Scope) (N : List Str) (nm : Option Str) (ns : List Str) (o : Option Nat) : List Ha → List Expr → Bool
  | [], es => es.isEmpty
  | a :: as, es => match es with
    | e :: es => chkHa sc N nm ns o a e && chkHas sc N nm ns o as es
    | [] => false
def chkHx (sc : Scope) (N : List Str) (nm : Option Str) (ns : List Str) (o : Option Nat) : Hx → Expr → Bool
  | .one a, e => chkHa sc N nm ns o a e
  | .tup as, e => match e with
    | .Tuple es _ _ => chkHas sc N nm ns o as es
    | _ => false
def chkHs (sc : Scope) (N : List Str) (nm : Option Str) (ns : List Str) (o : Option Nat) : Hs → List Stmt → Bool
  | .ret x, sts => match sts with
    | [.Return (some e) _] => chkHx sc N nm ns o x e
    | _ => false
  | .set j x, sts => match sts with
    | [.Assign [.Name y _] e _] => decide (N[j]? = some y) && locN sc y && chkHx sc N nm ns o x e
    | _ => false
theorem locN_of {sc : Scope} {x : Str} (h : locN sc x = true) : sc.names.lookup x = some .local := by
  unfold locN at h
  split at h
  · assumption
  · cases h
section
variable {sc : Scope} {N : List Str} {nm : Option Str} {ns : List Str} {o : Option Nat} {b : Addr} {ob : Obj} {cv : Value} {dd : Option Addr} {pz : List (Addr × Obj)}
theorem ha_ok (hsc : X.env.scope = sc) (hN : X.N = N) (hz : Zc cv dd ob) (hf : ∃ us, ob.data = .fields us) : ∀ (a : Ha) (e : Expr), chkHa sc N nm ns o a e = true → PE (X.suite b ((b, ob) :: pz)) e (tHa X.K b cv dd ns (o.getD 0) a) ∧ plainE e = true
  | .str s, e, h => by
    simp only [chkHa] at h
    split at h
    · have := of_decide_eq_true h
      subst this
      exact ⟨pe_str, rfl⟩
    · cases h
  | .int k, e, h => by
    simp only [chkHa] at h
    split at h
    · have := of_decide_eq_true h
      subst this
      exact ⟨pe_int, rfl⟩
    · cases h
  | .fld j, e, h => by
    simp only [chkHa] at h
    split at h
    · rename_i x px f pos
      simp only [Bool.and_eq_true, decide_eq_true_eq, Bool.not_eq_true'] at h
      obtain ⟨⟨⟨⟨⟨h1, h2⟩, h3⟩, h4⟩, h5⟩, h6⟩ := h
      split at h6
      · rename_i i
        have e2 : ns.getD j "" = f := by rw [List.getD_eq_getElem?_getD, h2]; rfl
        refine ⟨?_, rfl⟩
        show PE _ _ (tXf X.K b cv dd (ns.getD j "") (tVar i))
        rw [e2]
        exact pe_xf hz hf (pe_var (X := X.suite b ((b, ob) :: pz)) (by show X.N[i]? = _; rw [hN]; exact of_decide_eq_true h6) (.inl (by show X.env.scope.names.lookup x = _; rw [hsc]; exact locN_of h3)) h4 h5) rfl
      · cases h6
    · cases h
theorem has_ok (hsc : X.env.scope = sc) (hN : X.N = N) (hz : Zc cv dd ob) (hf : ∃ us, ob.data = .fields us) : ∀ (as : List Ha) (es : List Expr), chkHas sc N nm ns o as es = true → PA (X.suite b ((b, ob) :: pz)) es (tHas X.K b cv dd ns (o.getD 0) as)
  | [], es, h => by
    cases es with
    | nil => exact pa_nil
    | cons => cases h
  | a :: as, es, h => by
    cases es with
    | nil => cases h
    | cons e es =>
      simp only [chkHas, Bool.and_eq_true] at h
      obtain ⟨p, pl⟩ := ha_ok hsc hN hz hf a e h.1
      exact pa_cons p (has_ok hsc hN hz hf as es h.2) (star_cons pl _ _)
theorem hx_ok (hsc : X.env.scope = sc) (hN : X.N = N) (hz : Zc cv dd ob) (hf : ∃ us, ob.data = .fields us) (x : Hx) (e : Expr) (h : chkHx sc N nm ns o x e = true) : PE (X.suite b ((b, ob) :: pz)) e (tHx X.K b cv dd ns (o.getD 0) x) ∧ noComp e = true := by
  cases x with
  | one a =>
    refine ⟨(ha_ok hsc hN hz hf a e h).1, ?_⟩
    cases a <;> (simp only [chkHx, chkHa] at h; split at h <;> first | rfl | cases h)
  | tup as =>
    simp only [chkHx] at h
    split at h
    · exact ⟨pe_tup (has_ok hsc hN hz hf as _ h), rfl⟩
    · cases h
theorem hs_ok (hsc : X.env.scope = sc) (hN : X.N = N) (nd : X.N.Nodup) (a : Hs) (sts : List Stmt) (h : chkHs sc N nm ns o a sts = true) : ∃ q su, sts = q :: su ∧ Suit X (q :: su) (tHs X.K ns (o.getD 0) a) := by
  cases a with
  | ret x =>
    simp only [chkHs] at h
    split at h
    · exact ⟨_, [], rfl, fun b ob cv dd pz hz hf => pss_cons (ps_ret (hx_ok hsc hN hz hf x _ h).1) pss_nil⟩
    · cases h
  | set j x =>
    simp only [chkHs] at h
    split at h
    · simp only [Bool.and_eq_true, decide_eq_true_eq] at h
      obtain ⟨⟨h1, h2⟩, h3⟩ := h
      refine ⟨_, [], rfl, fun b ob cv dd pz hz hf => ?_⟩
      obtain ⟨p, nc⟩ := hx_ok (b := b) (pz := pz) hsc hN hz hf x _ h3
      have lc := locN_of h2
      exact pss_cons (ps_set (X := X.suite b ((b, ob) :: pz)) (i := j) nd (by show X.N[j]? = _; rw [hN]; exact h1) (.inl (by show X.env.scope.names.lookup _ = _; rw [hsc]; exact lc)) p (swaps_no nc _ _ _) (.inr (by show X.env.scope.names.lookup _ = _; rw [hsc]; exact lc))) pss_nil
    · cases h
end
section
variable {α : List Addr} {hd : Hd} {H : Hp} {σd : Sd} {σ : L2.St} {fs : List D} {ns : List Str} {C b d : Addr} {vs : List V} {i : Nat} {cv : Value} {dd : Option Addr}
def Tell (K : PySem.W.Frag) (α : List Addr) (H : Hp) (b : Addr) (cv : Value) (dd : Option Addr) (ns : List Str) (i : Nat) (σ : L2.St) (fs : List D) : Prop := ∀ (j : Nat) (x : D), fs[j]? = some x → ∃ v, RelD K α H x v ∧ ∀ Q : VK, Q v H → tXf K b cv dd (ns.getD j "") (tVar i) σ H Q
theorem tell_nil : Tell K α H b cv dd ns i σ [] := fun j x e => by cases e
theorem tell_of (T : XCls K C ns) (S0 : σ[i]? = some (some (.ref b))) (hd' : H d = some (.xd (xfs ns vs))) (rs : RelDs K α H fs vs) (hl : fs.length ≤ ns.length) : Tell K α H b (.ref C) (some d) ns i σ fs := fun j x e => by
  obtain ⟨v, ev, rv⟩ := rs.get e
  have hj : j < ns.length := Nat.lt_of_lt_of_le (List.getElem?_eq_some_iff.mp e).1 hl
  have en : ns[j]? = some ns[j] := List.getElem?_eq_getElem hj
  refine ⟨v, rv, fun Q q => ⟨.ref b, S0, rfl, C, ns, d, _, v, rfl, T, ?_, rfl, hd', ?_, q⟩⟩
  · rw [List.getD_eq_getElem?_getD, en]; exact List.getElem_mem hj
  · rw [List.getD_eq_getElem?_getD, en]
    exact xfs_get T.nd en ev
theorem ha_val (F : Tell K α H b cv dd ns i σ fs) : ∀ (a : Ha) (x : D), a.val fs = some x → ∃ v, RelD K α H x v ∧ ∀ Q : VK, Q v H → tHa K b cv dd ns i a σ H Q
  | .str s, x, e => by cases e; exact ⟨_, rfl, fun Q q => q⟩
  | .int k, x, e => by cases e; exact ⟨_, rfl, fun Q q => q⟩
  | .fld j, x, e => F j x e
theorem has_val (F : Tell K α H b cv dd ns i σ fs) : ∀ (as : List Ha) (xs : List D), Ha.vals fs as = some xs → ∃ us, RelDs K α H xs us ∧ ∀ Q : List V → Hp → Prop, Q us H → tHas K b cv dd ns i as σ H Q
  | [], xs, e => by cases e; exact ⟨[], rfl, fun Q q => q⟩
  | a :: as, xs, e => by
    simp only [Ha.vals] at e
    split at e
    · rename_i x ys e1 e2
      cases e
      obtain ⟨v, rv, kv⟩ := ha_val F a x e1
      obtain ⟨us, ru, ku⟩ := has_val F as ys e2
      exact ⟨v :: us, ⟨v, us, rfl, rv, ru⟩, fun Q q => kv _ (ku _ q)⟩
    · cases e
theorem vals_len : ∀ {as : List Ha} {xs : List D}, Ha.vals fs as = some xs → xs.length = as.length
  | [], _, e => by cases e; rfl
  | a :: as, xs, e => by
    simp only [Ha.vals] at e
    split at e
    · rename_i x ys e1 e2
      cases e
      rw [List.length_cons, List.length_cons, vals_len e2]
    · cases e
theorem hx_val (F : Tell K α H b cv dd ns i σ fs) (R : Rl K α hd H) {x : Hx} {dv : D} (e : x.val fs = some dv) (hz : ∀ as, x = .tup as → as.length ≤ 1000) {Q : VK}
    (q : ∀ H' v, Gr α H α H' → Rl K α hd H' → RelD K α H' dv v → Q v H') : tHx K b cv dd ns i x σ H Q := by
  cases x with
  | one a =>
    obtain ⟨v, rv, k⟩ := ha_val F a dv e
    exact k _ (q H v (Gr.refl _ _) R rv)
  | tup as =>
    simp only [Hx.val, Option.map_eq_some_iff] at e
    obtain ⟨xs, e, rfl⟩ := e
    obtain ⟨us, ru, k⟩ := has_val F as xs e
    have hs := hz as rfl
    refine k _ ⟨by rw [ru.length, vals_len e, sizeLine_eq]; omega, fun p hp => q _ _ (Gr.upd R hp _) (R.upd hp _) ⟨p, us, rfl, upd_same, ru.gr R (Gr.upd R hp _)⟩⟩
end
def Hx.sml : Hx → Bool
  | .one _ => true
  | .tup as => decide (as.length ≤ 1000)
def Hs.sml : Hs → Bool
  | .ret x => x.sml
  | .set _ x => x.sml
theorem Hx.sml_of {x : Hx} (h : x.sml = true) : ∀ as, x = .tup as → as.length ≤ 1000 := fun as e => by subst e; exact of_decide_eq_true h
def clsV (Y : Ys) (c : Nat) : Value := match Y[c]? with
  | some (C, _) => .ref C
  | none => .none
def nsY (Y : Ys) (c : Nat) : List Str := match Y[c]? with
  | some (_, ns) => ns
  | none => []
def htOf (K : PySem.W.Frag) (Y : Ys) (n : Hn) : HT := (clsV Y n.c, n.slot, tHs K (nsY Y n.c) (n.slot.getD 0) n.act)
structure XWorld (K : PySem.W.Frag) (Y : Ys) : Prop where
  cls : ∀ (c : Nat) (C : Addr) (ns : List Str), Y[c]? = some (C, ns) → c ≠ 0 → XCls K C ns
  exm : ∀ (c c' : Nat) (C C' : Addr) (ns ns' : List Str), Y[c]? = some (C, ns) → Y[c']? = some (C', ns') → c ≠ 0 → PySem.W.exmOne K (.ref C) (.ref C') = some (decide (c' = 0) || decide (c' = c))
theorem RelS.clr {α : List Addr} {H : Hp} {σd : Sd} {σ : L2.St} (S : RelS K α H σd σ) (i : Nat) (v : V) : RelS K α H (σd.set i none) (σ.set i (some v)) := by
  refine ⟨by simp [S.len], fun j e he => ?_⟩
  by_cases hj : j = i
  · subst hj
    by_cases hl : j < σd.length
    · rw [List.getElem?_set_self hl] at he; cases he
    · rw [List.getElem?_eq_none (by simpa using hl)] at he; cases he
  · rw [List.getElem?_set_ne (Ne.symm hj)] at he
    rw [List.getElem?_set_ne (Ne.symm hj)]
    exact S.ix j e he
theorem act_ok {α : List Addr} {hd : Hd} {H : Hp} {σd : Sd} {σ : L2.St} {fs : List D} {ns' : List Str} {cv : Value} {dd : Option Addr} {b : Addr} {a : Hs} {o : Option Nat} {De : Ends} (R : Rl K α hd H) (S : RelS K α H σd σ)
    (F : match o with
      | none => fs = []
      | some i => σ.length ≤ i ∨ Tell K α H b cv dd ns' i (σ.set i (some (.ref b))) fs) (hz : a.sml = true) (q : PoS K Y Wo α H (a.run fs o σd hd) De) : sui (tHs K ns' (o.getD 0) a) o De b cv dd σ H := by
  unfold Hs.run at q
  split at q
  · rename_i hin
    cases o with
    | none =>
      have F : fs = [] := F
      subst F
      cases a with
      | ret x =>
        simp only at q
        cases e : x.val [] with
        | none => rw [e] at q; exact q.elim
        | some dv =>
          rw [e] at q
          exact hx_val tell_nil R e (Hx.sml_of hz) fun H' v g R' rv => q α H' v g R' rv trivial
      | set j x =>
        simp only at q
        cases e : x.val [] with
        | none => rw [e] at q; exact q.elim
        | some dv =>
          rw [e] at q
          exact hx_val tell_nil R e (Hx.sml_of hz) fun H' v g R' rv => q α H' _ g R' ((S.gr R g).set rv j)
    | some i =>
      have hi : i < σ.length := by rw [← S.len]; exact of_decide_eq_true hin
      have F : Tell K α H b cv dd ns' i (σ.set i (some (.ref b))) fs := (show σ.length ≤ i ∨ _ from F).resolve_left (by omega)
      cases a with
      | ret x =>
        simp only at q
        cases e : x.val fs with
        | none => rw [e] at q; exact q.elim
        | some dv =>
          rw [e] at q
          exact hx_val F R e (Hx.sml_of hz) fun H' v g R' rv => q α H' v g R' rv trivial
      | set j x =>
        simp only at q
        cases e : x.val fs with
        | none => rw [e] at q; exact q.elim
        | some dv =>
          rw [e] at q
          exact hx_val F R e (Hx.sml_of hz) fun H' v g R' rv => q α H' _ g R' ((((S.clr i _).gr R g).set rv j).setN i)
  · exact q.elim
theorem hand_ok (XW : XWorld K Y) {α : List Addr} {hd : Hd} {H : Hp} {σd : Sd} {σ : L2.St} {c : Nat} {fs : List D} {ns : List Str} {C d : Addr} {vs : List V} {De : Ends} {st : Bool} (hc : c ≠ 0) (hY : Y[c]? = some (C, ns)) (R : Rl K α hd H) (S : RelS K α H σd σ) (hd' : H d = some (.xd (xfs ns vs))) (rs : RelDs K α H fs vs) (hl : fs.length = ns.length) :
    ∀ (hs : List Hn), (∀ n ∈ hs, ∃ C' ns', Y[n.c]? = some (C', ns') ∧ n.act.sml = true) → PoS K Y Wo α H (hand st c fs σd hd hs) De → wM K Wo De st (hs.map (htOf K Y)) (.ref C) (some d) σ H
  | [], _, q => by
    simp only [hand] at q
    cases st with
    | true => exact q.elim
    | false => exact ⟨rfl, q α H σ C ns d vs (Gr.refl _ _) R S hY hl hd' rs⟩
  | n :: hs, hh, q => by
    obtain ⟨C', ns', e', sm⟩ := hh n (List.mem_cons_self ..)
    have ec : clsV Y n.c = .ref C' := by unfold clsV; rw [e']
    have en : nsY Y n.c = ns' := by unfold nsY; rw [e']
    simp only [hand] at q
    refine ⟨decide (n.c = 0) || decide (n.c = c), by rw [ec]; exact XW.exm c n.c C C' ns ns' hY e' hc, fun t b hb => ?_, fun t => ?_⟩
    · have hit : n.c = c ∨ n.c = 0 := by
        simp only [Bool.or_eq_true, decide_eq_true_eq] at t
        exact t.symm
      rw [if_pos hit] at q
      refine act_ok R S ?_ sm q
      unfold hfs
      cases eo : n.slot with
      | none => exact if_neg fun z => z.2 rfl
      | some i =>
        by_cases hi : i < σ.length
        · refine .inr ?_
          split
          · rename_i z
            have : ns' = ns := by
              rw [z.1, hY] at e'
              cases e'
              rfl
            rw [en, this]
            exact tell_of (XW.cls c C ns hY hc) (List.getElem?_set_self hi) hd' rs (Nat.le_of_eq hl)
          · exact tell_nil
        · exact .inl (by omega)
    · have hit : ¬ (n.c = c ∨ n.c = 0) := by
        simp only [Bool.or_eq_false_iff, decide_eq_false_iff_not] at t
        exact fun z => z.elim t.2 t.1
      rw [if_neg hit] at q
      exact hand_ok XW hc hY R S hd' rs hl hs (fun m hm => hh m (List.mem_cons_of_mem _ hm)) q
theorem s_try {tb : FSt} {body : List Stmt} {h₀ : ExceptHandler} {hds : List ExceptHandler} {hs : List Hn} {st : Bool} {pos : Pos} (XW : XWorld X.K Y) (hst : X.stack = X.env :: X.outer) (hf : X.env.frame = some X.env.locals) (hN : X.N.Nodup) (tk : L2.Takes X Wo)
    (hb : ∀ (Wi : WX) (pz : List (Addr × Obj)) (xe : Value → Shared → Prop), L2.Takes (X.tr pz xe) Wi → PassesOwn (model X.prog X.w) X.A X.env xe → PSs (X.tr pz xe) body (TSd X.K Y Wi tb)) (hh : HdsM X st (h₀ :: hds) (hs.map (htOf X.K Y)))
    (hm : ∀ n ∈ hs, ∃ C' ns', Y[n.c]? = some (C', ns') ∧ n.act.sml = true) : PS X (.Try body (h₀ :: hds) [] [] pos) (TSd X.K Y Wo (sTry tb st hs)) := by
  refine PS.weak (ps_tryM (tb := fun Wi => TSd X.K Y Wi tb) hst hf hN tk hb hh) fun De σ H q => ?_
  obtain ⟨α, σd, hd, R, S, q⟩ := q
  refine ⟨α, σd, hd, R, S, ?_⟩
  simp only [sTry] at q
  cases e : tb σd hd with
  | ok r h1 =>
    rw [e] at q
    cases r with
    | nx σ' => exact q
    | bk σ' => exact q
    | ct σ' => exact q
    | rt w => exact q
    | xc c fs σ' =>
      simp only at q
      split at q
      · exact q.elim
      · rename_i hc
        exact fun α' H' σ2 C ns d vs g' R' S' hY hl hd' rs => hand_ok XW hc hY R' S' hd' rs hl hs hm (q.from g' R')
  | ex => rw [e] at q; exact q.elim
  | no => rw [e] at q; exact q.elim
end
end DL
namespace DL
open PySem PySem.Spec PyProof.Rows L2

variable {K : PySem.W.Frag}
variable {α α' α'' α1 α0 : List Addr} {H H' H'' H1 H0 : Hp} {hd hd' hd1 : Hd} {a p : Addr}
variable {X : Cx}
def setdK {κ : Type} [DecidableEq κ] (mk : List (κ × D) → O) (kvs : List (κ × D)) (k : κ) (d : D) (n : Nat) (h : Hd) : R W :=
  if kvs.length < sizeLine then (match valK kvs k with
    | some v => .ok (.v v) h
    | none => .ok (.v d) (h.set n (mk (putK kvs k d)))) else .no
def mtSetd (o x z : W) (h : Hd) : R W := match o with
  | .v (.obj n) => match h[n]?, x, z with
    | some (.dK kvs), .v key, .v d => match key.key? with
      | some k => setdK .dK kvs k d n h
      | none => .no
    | some (.dT kvs), .v (.tup ks), .v d => match D.keys? ks with
      | some k => setdK .dT kvs k d n h
      | none => .no
    | _, _, _ => .no
  | _ => .no
section
variable {pins : List (Addr × Obj)} {σ : L2.St} {s : Shared} {u r : Value} {d : V} {b : Addr} {A : Around} {E : Value → Shared → Prop}
theorem setd_tup {kvs : List (List Key × V)} {k : List Key} {Q : Value → Shared → Prop} (hu : A.units + 1 < cLine) (I : Inv X pins σ H s) (e : H a = some (.dT kvs)) (eb : H b = some (.tup (k.map kV))) (rd : RelV d r) (hl : kvs.length < sizeLine)
    (h1 : ∀ v, L2.valV kvs k = some v → ∀ (w' : Value) (s' : Shared), Inv X pins σ H s' → RelV v w' → Q w' s') (h2 : L2.valV kvs k = none → ∀ (w' : Value) (s' : Shared), Inv X pins σ (upd H a (.dT (L2.putK kvs k d))) s' → RelV d w' → Q w' s') :
    wpAny (model X.prog X.w) A (call (.builtin "dict.setdefault") [.ref a, .ref b, r]) Q E s := by
  obtain ⟨z, hd, xs, rel, dd⟩ := dt_of I.hok e
  have hz : xs.length ≤ sizeLine := by rw [← Paired.length rel]; exact z
  have rv := rel.val k
  refine call_setdefault_heap (hsz := hz) (tupleKind_room_in1 hu) (key_of I.hok eb) hd dd (fun q hq => ?_) fun hn h' dd' hs => ?_
  · rw [hq] at rv
    cases q0 : L2.valV kvs k with
    | none => rw [q0] at rv; exact (show False from rv).elim
    | some v0 => rw [q0] at rv; exact h1 v0 q0 _ _ (I.tok _) rv
  · rw [hn] at rv
    cases q0 : L2.valV kvs k with
    | some v0 => rw [q0] at rv; exact (show False from rv).elim
    | none =>
      have hl2 : (L2.putK kvs k d).length ≤ sizeLine := by
        have := length_putK kvs k d
        omega
      obtain ⟨q, es, ep, hq, g2, g3, g4, _, g5⟩ := dd'
      have J := d_write (t' := s.toks) (ob := .dT (L2.putK kvs k d)) I (by rw [e]; exact True.intro) hs ⟨q, hq⟩ (show ObjOk X.prog X.w _ h' a (.dT (L2.putK kvs k d)) from ⟨hl2, hd, _, (rel.put k eb rd).keeps fun c ys ec => (by rw [upd_ne (fun z => by subst z; rw [e] at ec; cases ec)]; exact ec), q, es, ep, hq, g2, g3, g4, g5⟩)
      exact h2 q0 _ _ (J.tok _) rd
end
theorem valK_rel {k : DK} : ∀ {kvs : List (DK × D)} {l : List (Key × V)}, RelKK K α H kvs l → (match valK kvs k with
    | some d => ∃ v, L2.valV l k.key = some v ∧ RelD K α H d v
    | none => L2.valV l k.key = none)
  | [], l, h => by rw [show l = [] from h]; rfl
  | (k', d') :: r, l, h => by
    obtain ⟨v, lr, rfl, h1, h2⟩ := h
    unfold valK L2.valV
    rw [List.find?_cons, List.find?_cons]
    by_cases e : k' = k
    · subst e
      simp only [decide_true, Option.map_some]
      exact ⟨v, rfl, h1⟩
    · rw [decide_eq_false e, decide_eq_false (fun z => e (DK.key_inj z))]
      exact valK_rel h2
theorem valT_rel {k : List DK} : ∀ {kvs : List (List DK × D)} {l : List (List Key × V)}, RelKT K α H kvs l → (match valK kvs k with
    | some d => ∃ v, L2.valV l (k.map DK.key) = some v ∧ RelD K α H d v
    | none => L2.valV l (k.map DK.key) = none)
  | [], l, h => by rw [show l = [] from h]; rfl
  | (k', d') :: r, l, h => by
    obtain ⟨v, lr, rfl, h1, h2⟩ := h
    unfold valK L2.valV
    rw [List.find?_cons, List.find?_cons]
    by_cases e : k' = k
    · subst e
      simp only [decide_true, Option.map_some]
      exact ⟨v, rfl, h1⟩
    · rw [decide_eq_false e, decide_eq_false (fun z => e (keyL_inj z))]
      exact valT_rel h2
def rSetd (K : PySem.W.Frag) : V → V → V → Hp → VK → Prop := fun x y z H Q => ∃ α hd wx wy d, Rl K α hd H ∧ RelW K α H wx x ∧ RelW K α H wy y ∧ RelD K α H d z ∧ PoW K α H (mtSetd wx wy (.v d) hd) Q
theorem mt_setd (hu : Deep X) {pins : List (Addr × Obj)} {σ : L2.St} {s : Shared} {x y z : V} {xv yv zv : Value} {Q : VK} (I : Inv X pins σ H s) (rx : RelV x xv) (ry : RelV y yv) (rz : RelV z zv) (h : rSetd X.K x y z H Q) :
    wpAny (model X.prog X.w) X.A (call (.builtin "dict.setdefault") [xv, yv, zv]) (EP X pins σ Q) X.xe s := by
  obtain ⟨α, hd, wx, wy, d, R, rwx, rwy, rd, h⟩ := h
  cases wx with
  | l xs => exact h.elim
  | v dx =>
    cases dx with
    | obj n =>
      obtain ⟨a, ea, rfl⟩ := rwx
      cases rx
      simp only [mtSetd] at h
      split at h
      · rename_i kvs key d' ho ez
        cases ez
        obtain ⟨l, e2, rk⟩ := R.ob n _ a ho ea
        split at h
        · rename_i k ek
          unfold setdK at h
          split at h
          · rename_i hl
            have ey := key_at ek rwy
            subst ey
            have hl2 : l.length < sizeLine := by rw [relKK_len rk]; exact hl
            have vr := valK_rel (k := k) rk
            refine d_setd I e2 ry rz hl2 (fun v hv w' s' I' rw' => ?_) fun hn w' s' I' rw' => ?_
            · cases e3 : valK kvs k with
              | none => rw [e3] at vr; rw [vr] at hv; cases hv
              | some d0 =>
                rw [e3] at vr h
                obtain ⟨v0, ev, rv⟩ := vr
                rw [ev] at hv
                cases hv
                exact ⟨_, H, I', rw', h.old R rv⟩
            · cases e3 : valK kvs k with
              | some d0 =>
                rw [e3] at vr
                obtain ⟨v0, ev, rv⟩ := vr
                rw [ev] at hn
                cases hn
              | none =>
                rw [e3] at h
                have gs := Gr.set ea e2 rfl (HO.dK (L2.putK l k.key z))
                exact ⟨z, _, I', rw', h α _ z gs (R.set ea e2 rfl (o := .dK (putK kvs k d)) ⟨_, upd_same, (putK_rel rd rk).gr R gs⟩) (rd.gr R gs) trivial⟩
          · exact h.elim
        · exact h.elim
      · rename_i kvs ks d' ho ez
        cases ez
        obtain ⟨l, e2, rk⟩ := R.ob n _ a ho ea
        split at h
        · rename_i k ek
          unfold setdK at h
          split at h
          · rename_i hl
            obtain ⟨b, us, rfl, hb, hks⟩ := rwy
            cases ry
            rw [keys_at ek hks] at hb
            have hl2 : l.length < sizeLine := by rw [relKT_len rk]; exact hl
            have vr := valT_rel (k := k) rk
            refine setd_tup (deep1 hu) I e2 hb rz hl2 (fun v hv w' s' I' rw' => ?_) fun hn w' s' I' rw' => ?_
            · cases e3 : valK kvs k with
              | none => rw [e3] at vr; rw [vr] at hv; cases hv
              | some d0 =>
                rw [e3] at vr h
                obtain ⟨v0, ev, rv⟩ := vr
                rw [ev] at hv
                cases hv
                exact ⟨_, H, I', rw', h.old R rv⟩
            · cases e3 : valK kvs k with
              | some d0 =>
                rw [e3] at vr
                obtain ⟨v0, ev, rv⟩ := vr
                rw [ev] at hn
                cases hn
              | none =>
                rw [e3] at h
                have gs := Gr.set ea e2 rfl (HO.dT (L2.putK l (k.map DK.key) z))
                exact ⟨z, _, I', rw', h α _ z gs (R.set ea e2 rfl (o := .dT (putK kvs k d)) ⟨_, upd_same, (putT_rel rd rk).gr R gs⟩) (rd.gr R gs) trivial⟩
          · exact h.elim
        · exact h.elim
      · exact h.elim
    | _ => exact h.elim
theorem setd_l {x y : W} {zs : List D} {h : Hd} : mtSetd x y (.l zs) h = .no := by
  cases x with
  | l xs => rfl
  | v d =>
    cases d with
    | obj n =>
      simp only [mtSetd]
      split
      · rename_i e; cases e
      · rename_i e; cases e
      · rfl
    | _ => rfl
def tSetdD (K : PySem.W.Frag) (td ty tx : TE) : TE := fun σ H Q => td σ H fun x H1 => ∃ a, x = .ref a ∧ IsD H1 a ∧ ty σ H1 fun y H2 => tx σ H2 fun z H3 => rSetd K x y z H3 Q
theorem pe_setdD (hu : Deep X) {o e f : Expr} {td ty tx : TE} {apos cpos : Pos} (ho : PE X o td) (he : PE X e ty) (hf : PE X f tx) (m : L2.M2 X o "setdefault" apos e f cpos) : PE X (.Call (.Attribute o "setdefault" apos) [e, f] [] cpos) (tSetdD X.K td ty tx) := by
  refine ⟨fun pins s σ H Q I h => ?_⟩
  refine wpAny_Call_method m.base m.few m.line PySem.F.plainAttrs_dict PySem.F.slot_dict_setdefault PySem.F.type_dict_setdefault (thn (ho.run pins s σ H _ I h) fun xv s1 ⟨x, H1, I1, rx, a, ex, dd, q1⟩ => ?_)
  subst ex
  cases rx
  obtain ⟨t1, t2, _⟩ := isD_at I1 dd
  refine ⟨t1, t2, ?_⟩
  rw [m.trees]
  exact Calls.callWith_builtin rfl (Calls.evalArgs_plain (Calls.spliced_cons (thn (he.run pins s1 σ H1 _ I1 q1) fun yv s2 ⟨y, H2, I2, ry, q2⟩ =>
    Calls.spliced_cons (thn (hf.run pins s2 σ H2 _ I2 q2) fun zv s3 ⟨z, H3, I3, rz, q3⟩ => Calls.spliced_nil (mt_setd hu I3 (show L2.RelV (V.ref a) (Value.ref a) from rfl) ry rz q3)))))
theorem e_setd (hu : Deep X) {f g g' : FV} {o e e' : Expr} {apos cpos : Pos} (ho : EOk X f o) (he : EOk X g e) (he' : EOk X g' e') (hl : line1 apos cpos = true) : EOk X (v3m isDk f (vSet g) (vSet g') mtSetd) (.Call (.Attribute o "setdefault" apos) [e, e'] [] cpos) := by
  refine ⟨TV.mono_iff (pe_setdD hu ho.pe (e_set he).pe (e_set he').pe (m2_of ho.pl he.pl he'.pl hl)) fun σ H Q q => ?_, rfl⟩
  obtain ⟨α, σd, hd, R, S, q⟩ := q
  have q : PoW X.K α H ((f σd hd).bind fun x h => if isDk x h = true then (vSet g σd h).bind fun y h => (vSet g' σd h).bind fun z h => mtSetd x y z h else .no) Q := q
  refine TV.seq R S q.ok fun x hd1 α1 H1 v1 e g1 R1 S1 rx nw => ?_
  rw [e] at q
  have q := q.from g1 R1
  split at q
  · rename_i hc
    obtain ⟨a, ea, da⟩ := isD_of R1 rx hc
    refine ⟨a, ea, da, ?_⟩
    refine TV.seq R1 S1 q.ok fun y hd2 α2 H2 v2 e2 g2 R2 S2 r2 n2 => ?_
    rw [e2] at q
    have q := q.from g2 R2
    refine TV.seq R2 S2 q.ok fun z hd3 α3 H3 v3 e3 g3 R3 S3 r3 n3 => ?_
    rw [e3] at q
    have q := q.from g3 R3
    have rx := (rx.gr R1 g2).gr R2 g3
    have r2 := r2.gr R2 g3
    cases z with
    | l zs => rw [setd_l] at q; exact q.elim
    | v z' => exact ⟨α3, hd3, x, y, z', R3, rx, r2, r3, q⟩
  · exact q.elim
abbrev FL2 := D → Hd → R (List D)
def compFxL (b : FL2) : List D → Hd → R (List D)
  | [], h => .ok [] h
  | d :: ds, h => (b d h).bind fun ys h => (compFxL b ds h).bind fun r h => .ok (ys ++ r) h
def compReL (g : Nat → Hd → Option (Option D)) (b : FL2) : Nat → Nat → Hd → R (List D)
  | 0, _, _ => .no
  | m + 1, i, h => match g i h with
    | none => .no
    | some none => .ok [] h
    | some (some d) => (b d h).bind fun ys h => (compReL g b m (i + 1) h).bind fun r h => .ok (ys ++ r) h
def compSL (s : Src) (b : FL2) (h : Hd) : R (List D) := match s with
  | .fx xs => compFxL b xs h
  | .re g => compReL g b FU 0 h
theorem compFxL_re (b : FL2) (xs : List D) : ∀ (i : Nat) (h : Hd), i ≤ xs.length → compReL (fun i _ => some xs[i]?) b (xs.length - i + 1) i h = compFxL b (xs.drop i) h := by
  intro i
  generalize hn : xs.length - i = n
  induction n generalizing i with
  | zero =>
    intro h hi
    have e : xs[i]? = none := List.getElem?_eq_none (by omega)
    have e2 : xs.drop i = [] := List.drop_eq_nil_of_le (by omega)
    rw [e2]
    simp only [compReL, e]
    rfl
  | succ n ih =>
    intro h hi
    have hl : i < xs.length := by omega
    have e : xs[i]? = some xs[i] := List.getElem?_eq_getElem hl
    rw [List.drop_eq_getElem_cons hl]
    have e3 : compReL (fun i _ => some xs[i]?) b (n + 1 + 1) i h = (b xs[i] h).bind fun ys h => (compReL (fun i _ => some xs[i]?) b (n + 1) (i + 1) h).bind fun r h => .ok (ys ++ r) h := by
      rw [compReL]
      simp only [e]
    rw [e3]
    show _ = ((b xs[i] h).bind fun ys h => (compFxL b (xs.drop (i + 1)) h).bind fun r h => .ok (ys ++ r) h)
    congr 1
    funext ys h
    rw [ih (i + 1) (by omega) h (by omega)]
theorem compSL_re (s : Src) (b : FL2) (h : Hd) : ∃ m, compSL s b h = compReL s.get b m 0 h := by
  cases s with
  | fx xs => exact ⟨xs.length - 0 + 1, by rw [show (Src.fx xs).get = fun i _ => some xs[i]? from rfl, compFxL_re b xs 0 h (Nat.zero_le _)]; rfl⟩
  | re g => exact ⟨FU, rfl⟩
def turnF2 (tg : Tg) (c : FB) (s1 : FS) (tg1 : Tg) (c1 : FB) (f : FV) (own own1 : List Nat) (σ : Sd) : FL2 := fun d h => match tg.put d (wipeD σ own) with
  | none => .no
  | some σ' => (c σ' h).bind fun b h => if b = true then (s1 σ' h).bind fun s1 h => compS s1 (turnF tg1 c1 f own1 σ') h else .ok [] h
def vLc2 (s : FS) (tg : Tg) (c : FB) (s1 : FS) (tg1 : Tg) (c1 : FB) (f : FV) (own own1 : List Nat) : FV := fun σ h => (s σ h).bind fun s h => (compSL s (turnF2 tg c s1 tg1 c1 f own own1 σ) h).bind fun ys h => if ys.length ≤ sizeLine then .ok (.l ys) h else .no
theorem q_more {α1 : List Addr} {H1 : Hp} {Q : VK} {acc : List D} {y : D} {r : R (List D)} {k : List D → Hd → R (List D)}
    (q : PoW K α1 H1 ((r.bind fun ys h => .ok (y :: ys) h).bind fun ys h => (k ys h).bind fun zs h => if (acc ++ zs).length ≤ sizeLine then .ok (.l (acc ++ zs)) h else .no) Q)
    (hk : ∀ ys h, k (y :: ys) h = (k ys h).bind fun zs h => .ok (y :: zs) h) :
    PoW K α1 H1 (r.bind fun ys h => (k ys h).bind fun zs h => if (acc ++ [y] ++ zs).length ≤ sizeLine then .ok (.l (acc ++ [y] ++ zs)) h else .no) Q := by
  cases r with
  | ok ys h =>
    have q : PoW K α1 H1 ((k (y :: ys) h).bind fun zs h => if (acc ++ zs).length ≤ sizeLine then .ok (.l (acc ++ zs)) h else .no) Q := q
    rw [hk] at q
    show PoW K α1 H1 ((k ys h).bind fun zs h => if (acc ++ [y] ++ zs).length ≤ sizeLine then .ok (.l (acc ++ [y] ++ zs)) h else .no) Q
    cases e : k ys h with
    | ok zs h2 =>
      rw [e] at q
      have q : PoW K α1 H1 (if (acc ++ y :: zs).length ≤ sizeLine then .ok (.l (acc ++ y :: zs)) h2 else .no) Q := q
      show PoW K α1 H1 (if (acc ++ [y] ++ zs).length ≤ sizeLine then .ok (.l (acc ++ [y] ++ zs)) h2 else .no) Q
      rw [List.append_assoc]
      exact q
    | ex => rw [e] at q; exact q
    | no => rw [e] at q; exact q
  | ex => exact q
  | no => exact q
structure GrZ (Da : Addr) (α : List Addr) (H : Hp) (α' : List Addr) (H' : Hp) : Prop where
  pre : ∃ β, α' = α ++ β ∧ ∀ a ∈ β, H a = none ∧ a ∉ α
  fr : ∀ a o, H a = some o → a ∉ α → a ≠ Da → H' a = some o
  fz : ∀ a o u, H a = some (.frz o u) → H' a = some (.frz o u)
  off : Da ∉ α'
  at_ : ∃ vs, H' Da = some (.lst vs)
theorem GrZ.get {Da : Addr} (g : GrZ Da α H α' H') {n : Nat} (h : α[n]? = some a) : α'[n]? = some a := by
  obtain ⟨β, rfl, _⟩ := g.pre
  rw [List.getElem?_append_left (List.getElem?_eq_some_iff.mp h).1]
  exact h
theorem GrZ.self {Da : Addr} {vs : List V} (n : Da ∉ α) (e : H Da = some (.lst vs)) : GrZ Da α H α H := ⟨⟨[], by simp, by simp⟩, fun _ _ h _ _ => h, fun _ _ _ h => h, n, vs, e⟩
theorem GrZ.trans {Da : Addr} (z : GrZ Da α H α' H') (g : Gr α' H' α'' H'') : GrZ Da α H α'' H'' := by
  obtain ⟨β, rfl, hβ⟩ := z.pre
  obtain ⟨γ, rfl, hγ⟩ := g.pre
  obtain ⟨vs, ev⟩ := z.at_
  have keep := g.fr Da _ ev z.off
  refine ⟨⟨β ++ γ, by simp, fun a ha => ?_⟩, fun a o h n nd => ?_, fun a o u h => g.fz a o u (z.fz a o u h), g.notin ev z.off, vs, keep⟩
  · rcases List.mem_append.mp ha with h | h
    · exact hβ a h
    · obtain ⟨h1, h2⟩ := hγ a h
      have h3 : a ∉ α := fun q => h2 (List.mem_append_left _ q)
      refine ⟨?_, h3⟩
      cases e : H a with
      | none => rfl
      | some o =>
        by_cases q : a = Da
        · subst q; rw [ev] at h1; cases h1
        · rw [z.fr a o e h3 q] at h1; cases h1
  · refine g.fr a o (z.fr a o h n nd) fun hm => ?_
    rcases List.mem_append.mp hm with q | q
    · exact n q
    · rw [(hβ a q).1] at h; cases h
theorem GrZ.over {Da : Addr} {ws : List V} (z : GrZ Da α H α' H') : GrZ Da α H α' (L2.upd H' Da (.lst ws)) := by
  obtain ⟨vs, ev⟩ := z.at_
  exact ⟨z.pre, fun a o h n nd => by rw [upd_ne nd]; exact z.fr a o h n nd, fun a o u h => by
    have := z.fz a o u h
    rw [upd_ne fun q => by subst q; rw [ev] at this; cases this]
    exact this, z.off, ws, upd_same⟩
def SrcZ (Da : Addr) (K : PySem.W.Frag) (J : It) (g : Nat → Hd → Option (Option D)) (α0 : List Addr) (H0 : Hp) : Prop :=
  ∀ (i : Nat) (α : List Addr) (hd : Hd) (H : Hp), GrZ Da α0 H0 α H → Rl K α hd H → (g i hd = some none → J.stop i H) ∧
    ∀ d, g i hd = some (some d) → J.go i H ∧ ∀ x H', J.yld i H x H' → Gr α H α H' ∧ Rl K α hd H' ∧ RelD K α H' d x
def TIz (K : PySem.W.Frag) (f : FS) : TI := fun σ H Q => ∃ α σd hd, Rl K α hd H ∧ RelS K α H σd σ ∧ match f σd hd with
  | .ok s hd' => ∀ α' H' J, Gr α H α' H' → Rl K α' hd' H' → (∀ Da vs, H Da = some (.lst vs) → Da ∉ α → SrcZ Da K J s.get α' H') → Q J H'
  | _ => False
theorem RelDs.grz {Da : Addr} {vs0 : List V} (R : Rl K α hd H) (eD : H Da = some (.lst vs0)) (g : GrZ Da α H α' H') {ds : List D} {vs : List V} (h : RelDs K α H ds vs) : RelDs K α' H' ds vs :=
  RelDs.mono (fun _ _ e => g.get e) (fun a us q => g.fr a _ q (R.out q fun z => z) fun z => by subst z; rw [eD] at q; cases q)
    ⟨fun a us q => by
      rcases q with ⟨o, q⟩ | q
      · exact .inl ⟨o, g.fz a o _ q⟩
      · exact .inr q, fun a us q => let ⟨o, e, dn⟩ := q; ⟨o, g.fz a o _ e, dn⟩⟩ ds vs h
section
variable {Da : Addr}
theorem srcz_list {vs : List V} {xs : List D} (ha : ∀ α H, GrZ Da α0 H0 α H → SqL K H a vs ∧ RelDs K α H xs vs) : SrcZ Da K (Itl K a) (fun i _ => some xs[i]?) α0 H0 := by
  intro i α hd H g R
  obtain ⟨hq, hx⟩ := ha α H g
  refine ⟨fun e => ⟨vs, hq, ?_⟩, fun d e => ?_⟩
  · rw [hx.length]
    exact List.getElem?_eq_none_iff.mp (Option.some.inj e)
  · obtain ⟨v, ev, rv⟩ := hx.get (Option.some.inj e)
    refine ⟨⟨vs, v, hq, ev⟩, fun x H' y => ?_⟩
    obtain ⟨rfl, y⟩ := y
    have e2 := y vs hq
    rw [ev] at e2
    cases e2
    exact ⟨Gr.refl _ _, R, rv⟩
theorem srcz_re {n : Nat} (h0 : α0[n]? = some a) : SrcZ Da K (Itl K a) (fun i h => match h[n]? with
      | some (.lst xs) => some xs[i]?
      | _ => none) α0 H0 := by
  intro i α hd H g R
  have hn := g.get h0
  exact src_re (α0 := α) (H0 := H) hn i α hd H (Gr.refl _ _) R
theorem srcz_tup {vs : List V} {xs : List D} (ha : ∀ α H, GrZ Da α0 H0 α H → H a = some (.tup vs) ∧ RelDs K α H xs vs) : SrcZ Da K (Itt K a) (fun i _ => some xs[i]?) α0 H0 := by
  intro i α hd H g R
  obtain ⟨hq, hx⟩ := ha α H g
  refine ⟨fun e => ⟨vs, SqT.of hq, ?_⟩, fun d e => ?_⟩
  · rw [hx.length]
    exact List.getElem?_eq_none_iff.mp (Option.some.inj e)
  · obtain ⟨v, ev, rv⟩ := hx.get (Option.some.inj e)
    refine ⟨⟨vs, v, SqT.of hq, ev⟩, fun x H' y => ?_⟩
    obtain ⟨rfl, y⟩ := y
    have e2 := y vs (SqT.of hq)
    rw [ev] at e2
    cases e2
    exact ⟨Gr.refl _ _, R, rv⟩
theorem srcz_str (s : List Nat) : SrcZ Da K (Its (mkS s)) (fun i _ => some (s.map fun c => D.str [c])[i]?) α0 H0 := fun i α hd H _ R => src_str (α0 := α) (H0 := H) s i α hd H (Gr.refl _ _) R
theorem srcz_ints (lo : Int) (n : Nat) : SrcZ Da K (Itr lo n) (fun i _ => some ((List.range n).map fun (k : Nat) => D.int (lo + k))[i]?) α0 H0 := fun i α hd H _ R => src_ints (α0 := α) (H0 := H) lo n i α hd H (Gr.refl _ _) R
end
theorem pyIter_Z {tg : Expr} {pins : List (Addr × Obj)} {s : Shared} {σ : L2.St} {w : W} {v : V} {u : Value} {src : Src} {Q : It → Hp → Prop} {Hb : Hp} {αb : List Addr} (I : Inv X pins σ H s) (ru : RelV v u) (R : Rl X.K α hd H) (gb : Gr αb Hb α H) (r : RelW X.K α H w v) (nw : NewW Hb w v) (e : w.src hd = some src)
    (go : ∀ J, (∀ Da vs, Hb Da = some (.lst vs) → Da ∉ αb → SrcZ Da X.K J src.get α H) → Q J H) : wpAny (model X.prog X.w) X.A (pyIter u) (PIE X pins σ tg Q) X.xe s := by
  have lists : ∀ {b : Addr} {vs : List V}, u = .ref b → SqL X.K H b vs → Q (Itl X.K b) H → wpAny (model X.prog X.w) X.A (pyIter u) (PIE X pins σ tg Q) X.xe s := by
    intro b vs eu hq q
    subst eu
    obtain ⟨us, rv, pl, _⟩ := I.list hq
    refine wpAny_pyIter_list pl.isList ⟨_, [_], _, _, _, rfl, I.kept (t' := s.toks) fun c o z => Heap.get?_push_of_some _ z, turn_list b _, ⟨_, Heap.get?_push_size _ rfl, rfl, rfl⟩, fun c hc => ?_, q⟩
    cases List.mem_singleton.mp hc
    exact I.fpOk (Nat.le_refl _) I.fresh
  have fD : ∀ {Da : Addr} {vs : List V}, Hb Da = some (.lst vs) → Da ∉ αb → H Da = some (.lst vs) := fun e n => gb.fr _ _ e n
  cases w with
  | l xs =>
    cases e
    obtain ⟨b, vs, rfl, hb, hn, hx⟩ := r
    refine lists ru (SqL.of hb) (go _ fun Da ws eD nD => srcz_list (vs := vs) fun α' H' g => ⟨SqL.of (g.fr b _ hb hn fun z => ?_), hx.grz R (fD eD nD) g⟩)
    subst z
    rw [nw _ rfl] at eD
    cases eD
  | v d =>
    cases d with
    | tup xs =>
      cases e
      obtain ⟨b, vs, rfl, hb, hx⟩ := r
      cases ru
      obtain ⟨us, rv, pt, _⟩ := I.tuple (SqT.of hb)
      refine wpAny_pyIter_tuple (show s.heap.IsTuple b us.toArray from pt) ⟨_, [_], _, _, _, rfl, I.kept (t' := s.toks) fun c o z => Heap.get?_push_of_some _ z, turn_tuple b _, ⟨_, Heap.get?_push_size _ rfl, rfl, rfl⟩, fun c hc => ?_,
        go _ fun Da ws eD nD => srcz_tup fun α' H' g => ⟨g.fr b _ hb (R.out hb fun z => z) fun z => (by subst z; rw [fD eD nD] at hb; cases hb), hx.grz R (fD eD nD) g⟩⟩
      cases List.mem_singleton.mp hc
      exact I.fpOk (Nat.le_refl _) I.fresh
    | ro xs =>
      cases e
      obtain ⟨b, vs, rfl, hb, hx⟩ := r
      refine lists ru hb.sq (go _ fun Da ws eD nD => srcz_list (vs := vs) fun α' H' g => ⟨IsRo.sq ?_, hx.grz R (fD eD nD) g⟩)
      rcases hb with ⟨o, q⟩ | q
      · exact .inl ⟨o, g.fz b o _ q⟩
      · exact .inr q
    | str t =>
      cases e
      cases (show v = V.str (mkS t) from r)
      obtain ⟨k, rfl⟩ := ru
      cases hk : (mkS t).cps.all (· < 128) with
      | false => exact wpAny_pyIter_wide hk (pi_one (tk := s.toks) I _ (turn_str _ (mkS t) k "str_iterator" (.inr rfl)) ⟨_, Heap.get?_push_size _ rfl, rfl, rfl⟩ (go _ fun Da ws eD nD => srcz_str t))
      | true => exact wpAny_pyIter_ascii hk (pi_one (tk := s.toks) I _ (turn_str _ (mkS t) k "str_ascii_iterator" (.inl rfl)) ⟨_, Heap.get?_push_size _ rfl, rfl, rfl⟩ (go _ fun Da ws eD nD => srcz_str t))
    | obj n =>
      simp only [W.src] at e
      split at e
      · rename_i xs ho
        cases e
        obtain ⟨b, vs, eb, rfl, hb, hx⟩ := lst_of R r ho
        exact lists ru (SqL.of hb) (go _ fun Da ws eD nD => srcz_re eb)
      · cases e
    | _ => cases e
theorem srcs_z {f : FS} {σ : L2.St} {Q : It → Hp → Prop} (q : TIz K f σ H Q) : ∃ α σd hd s hd', Rl K α hd H ∧ RelS K α H σd σ ∧ f σd hd = .ok s hd' ∧ ∀ α' H' J, Gr α H α' H' → Rl K α' hd' H' → (∀ Da vs, H Da = some (.lst vs) → Da ∉ α → SrcZ Da K J s.get α' H') → Q J H' := by
  obtain ⟨α, σd, hd, R, S, q⟩ := q
  cases e : f σd hd with
  | ok s hd' => rw [e] at q; exact ⟨α, σd, hd, s, hd', R, S, e, q⟩
  | ex => rw [e] at q; exact q.elim
  | no => rw [e] at q; exact q.elim
theorem z_val {tg e : Expr} {f : FV} (he : EOk X f e) : PI X tg e (TIz X.K (sVal f)) := by
  refine ⟨fun pins s σ H Q I q => ?_⟩
  obtain ⟨α, σd, hd, src, hd', R, S, e1, q⟩ := srcs_z q
  obtain ⟨w, h1, ef, e2⟩ := bind_ok_of e1
  obtain ⟨e3, rfl⟩ := ofO_ok e2
  refine thn (he.pe.run pins s σ H (fun v H' => ∃ α', Gr α H α' H' ∧ Rl X.K α' hd' H' ∧ RelW X.K α' H' w v ∧ NewW H w v) I ⟨α, σd, hd, R, S, ?_⟩) fun u s1 ⟨v, H1, I1, ru, α1, g1, R1, r1, n1⟩ => ?_
  · rw [ef]
    exact fun α' H' v g R' r n => ⟨α', g, R', r, n⟩
  · exact pyIter_Z I1 ru R1 g1 r1 n1 e3 fun J ok => q α1 H1 J g1 R1 ok
theorem z_rng1 {tg e : Expr} {f : FV} {p pos : Pos} (hg : Gl X "range") (hm : X.mg "range" = none) (he : EOk X f e) : PI X tg (.Call (.Name "range" p) [e] [] pos) (TIz X.K (sRng1 f)) := by
  refine PI.weak (pi_range1 hg hm (pa_cons he.pe pa_nil (star_cons he.pl _ _)) (by rw [star_cons he.pl]; rfl)) fun σ H Q q => ?_
  obtain ⟨α, σd, hd, src, hd', R, S, e1, q⟩ := srcs_z q
  obtain ⟨w, h1, ef, e2⟩ := bind_ok_of e1
  refine ⟨α, σd, hd, R, S, ?_⟩
  rw [ef]
  intro α' H' v g R' r n
  cases w with
  | l xs => cases e2
  | v d =>
    cases d with
    | int j =>
      obtain ⟨e3, rfl⟩ := ofO_ok e2
      obtain ⟨b, rfl⟩ := rng_ok e3
      refine ⟨j, by rw [show v = V.int j from r], b.2.2.1, b.2.2.2, q α' H' _ g R' fun Da ws eD nD => ?_⟩
      rw [Int.sub_zero]
      exact srcz_ints 0 j.toNat
    | _ => cases e2
theorem z_rng2 {tg e e' : Expr} {f f' : FV} {p pos : Pos} (hg : Gl X "range") (hm : X.mg "range" = none) (he : EOk X f e) (he' : EOk X f' e') : PI X tg (.Call (.Name "range" p) [e, e'] [] pos) (TIz X.K (sRng2 f f')) := by
  refine PI.weak (pi_range2 hg hm (pa_cons he.pe (pa_cons he'.pe pa_nil (star_cons he'.pl _ _)) (star_cons he.pl _ _)) (by rw [star_cons he.pl, star_cons he'.pl]; rfl) (by rw [star_cons he'.pl]; rfl)) fun σ H Q q => ?_
  obtain ⟨α, σd, hd, src, hd', R, S, e1, q⟩ := srcs_z q
  obtain ⟨w, h1, ef, e2⟩ := bind_ok_of e1
  obtain ⟨w', h2, ef', e3⟩ := bind_ok_of e2
  refine ⟨α, σd, hd, R, S, ?_⟩
  rw [ef]
  intro α' H' v g R' r n
  refine ⟨α', σd, h1, R', S.gr R g, ?_⟩
  rw [ef']
  intro α'' H'' v' g' R'' r' n'
  cases w with
  | l xs => cases e3
  | v d =>
    cases w' with
    | l xs => cases d <;> cases e3
    | v d' =>
      cases d with
      | int i =>
        cases d' with
        | int j =>
          obtain ⟨e4, rfl⟩ := ofO_ok e3
          obtain ⟨b, rfl⟩ := rng_ok e4
          exact ⟨i, j, by rw [show v = V.int i from r, show v' = V.int j from r'], b, q α'' H'' _ (g.trans g') R'' fun Da ws eD nD => srcz_ints i _⟩
        | _ => cases e3
      | _ => cases e3
theorem TV_lc2 {s s1 : FS} {tg tg1 : Tg} {c c1 : FB} {f : FV} {own own1 : List Nat} {σ : L2.St} {Q : VK} (ht : ∀ i ∈ tg.slots, i ∈ own) (ht1 : ∀ i ∈ tg1.slots, i ∈ own1) (q : TV K (vLc2 s tg c s1 tg1 c1 f own own1) σ H Q) :
    tLc2 (TIs K s) (gT K tg) (TB K c) (TIz K s1) (gT K tg1) (TB K c1) (TV K (vSet f)) own own1 σ H Q := by
  obtain ⟨α, σd, hd, R, S, q⟩ := q
  have q : PoW K α H ((s σd hd).bind fun s h => (compSL s (turnF2 tg c s1 tg1 c1 f own own1 σd) h).bind fun ys h => if ys.length ≤ sizeLine then .ok (.l ys) h else .no) Q := q
  obtain ⟨w0, h0, e0⟩ := q.ok
  obtain ⟨src, hd1, es, e1⟩ := bind_ok_of e0
  rw [es] at q
  refine ⟨α, σd, hd, R, S, ?_⟩
  rw [es]
  intro α1 H1 J g1 R1 ok Da hD
  have q : PoW K α1 H1 ((compSL src (turnF2 tg c s1 tg1 c1 f own own1 σd) hd1).bind fun ys h => if ys.length ≤ sizeLine then .ok (.l ys) h else .no) Q := q.from g1 R1
  obtain ⟨m0, em⟩ := compSL_re src (turnF2 tg c s1 tg1 c1 f own own1 σd) hd1
  rw [em] at q
  have S1 := S.gr R g1
  have nD1 := R1.none_out hD
  refine ⟨fun i m H => ∃ α hd acc vs, Gr α1 H1 α H ∧ Rl K α hd H ∧ Da ∉ α ∧ H Da = some (.lst vs) ∧ RelDs K α H acc vs ∧
      PoW K α1 H1 ((compReL src.get (turnF2 tg c s1 tg1 c1 f own own1 σd) m i hd).bind fun ys h => if (acc ++ ys).length ≤ sizeLine then .ok (.l (acc ++ ys)) h else .no) Q,
    ⟨m0, α1, hd1, [], [], Gr.upd R1 hD _, R1.upd hD _, nD1, upd_same, rfl, q⟩, ?_⟩
  rintro i m H2 ⟨α2, hd2, acc, vs, g2, R2, nD2, eD2, rx, q⟩
  cases m with
  | zero => exact q.elim
  | succ m =>
    have gH : Gr α1 H1 α2 H2 := g2
    simp only [compReL] at q
    obtain ⟨stop, go⟩ := ok i α2 hd2 H2 gH R2
    cases eg : src.get i hd2 with
    | none => rw [eg] at q; exact q.elim
    | some o =>
      cases o with
      | none =>
        rw [eg] at q
        refine .inl ⟨stop eg, ?_⟩
        have q : PoW K α1 H1 (if (acc ++ []).length ≤ sizeLine then .ok (.l (acc ++ [])) hd2 else .no) Q := q
        rw [List.append_nil] at q
        split at q
        · refine q α2 H2 _ gH R2 ⟨Da, vs, rfl, eD2, nD2, rx⟩ fun b eb => ?_
          cases eb
          exact hD
        · exact q.elim
      | some d =>
        rw [eg] at q
        obtain ⟨go1, go2⟩ := go d eg
        refine .inr ⟨go1, fun H' => ∃ α hd acc vs, Gr α1 H1 α H' ∧ Rl K α hd H' ∧ Da ∉ α ∧ H' Da = some (.lst vs) ∧ RelDs K α H' acc vs ∧
          PoW K α1 H1 ((compReL src.get (turnF2 tg c s1 tg1 c1 f own own1 σd) m (i + 1) hd).bind fun ys h => if (acc ++ ys).length ≤ sizeLine then .ok (.l (acc ++ ys)) h else .no) Q,
          fun H' z => ⟨m, Nat.lt_succ_self _, z⟩, fun x H3 y => ?_⟩
        obtain ⟨g3, R3, rd⟩ := go2 x H3 y
        simp only [turnF2] at q
        cases ep : tg.put d (wipeD σd own) with
        | none => rw [ep] at q; exact q.elim
        | some σd' =>
          rw [ep] at q
          have S3 : RelS K α2 H3 (wipeD σd own) (wipe σ own) := (((S1.gr R1 gH).gr R2 g3).wipe own)
          refine ⟨α2, wipeD σd own, hd2, d, σd', R3, S3, rd, ep, fun σ' S' out => ⟨wipe_eq (out.mono ht), ?_⟩⟩
          have eD3 : H3 Da = some (.lst vs) := g3.fr Da _ eD2 nD2
          have rx3 := rx.gr R2 g3
          simp only at q
          cases eb : c σd' hd2 with
          | ex => rw [eb] at q; exact q.elim
          | no => rw [eb] at q; exact q.elim
          | ok b hd3 =>
            rw [eb] at q
            refine ⟨α2, σd', hd2, R3, S', ?_⟩
            rw [eb]
            intro α4 H4 g4 R4
            have nD4 := g4.notin eD3 nD2
            have eD4 : H4 Da = some (.lst vs) := g4.fr Da _ eD3 nD2
            have rx4 := rx3.gr R3 g4
            have S4 := S'.gr R3 g4
            cases b with
            | false =>
              rw [if_neg Bool.false_ne_true]
              refine ⟨α4, hd3, acc, vs, (g2.trans g3).trans g4, R4, nD4, eD4, rx4, ?_⟩
              simp only [DL.R.bind_ok, if_neg Bool.false_ne_true] at q
              cases e9 : compReL src.get (turnF2 tg c s1 tg1 c1 f own own1 σd) m (i + 1) hd3 with
              | ok zs hd6 => rw [e9] at q; exact q
              | ex => rw [e9] at q; exact q
              | no => rw [e9] at q; exact q
            | true =>
              rw [if_pos rfl]
              simp only [DL.R.bind_ok, if_true] at q
              cases es1 : s1 σd' hd3 with
              | ex => rw [es1] at q; exact q.elim
              | no => rw [es1] at q; exact q.elim
              | ok src1 hd4 =>
                rw [es1] at q
                refine ⟨α4, σd', hd3, R4, S4, ?_⟩
                rw [es1]
                intro α5 H5 J1 g5 R5 ok1
                have nD5 := g5.notin eD4 nD4
                have eD5 : H5 Da = some (.lst vs) := g5.fr Da _ eD4 nD4
                have rx5 := rx4.gr R4 g5
                have S5 := S4.gr R4 g5
                obtain ⟨n0, en⟩ := compS_re src1 (turnF tg1 c1 f own1 σd') hd4
                simp only [DL.R.bind_ok, en] at q
                have gA := ((g2.trans g3).trans g4).trans g5
                let kk : List D → Hd → DL.R (List D) := fun ys h => (compReL src.get (turnF2 tg c s1 tg1 c1 f own own1 σd) m (i + 1) h).bind fun zs h => .ok (ys ++ zs) h
                have hk : ∀ y ys h, kk (y :: ys) h = (kk ys h).bind fun zs h => .ok (y :: zs) h := fun y ys h => by
                  show (compReL src.get (turnF2 tg c s1 tg1 c1 f own own1 σd) m (i + 1) h).bind _ = ((compReL src.get (turnF2 tg c s1 tg1 c1 f own own1 σd) m (i + 1) h).bind _).bind _
                  cases compReL src.get (turnF2 tg c s1 tg1 c1 f own own1 σd) m (i + 1) h <;> rfl
                have q : PoW K α1 H1 ((compRe src1.get (turnF tg1 c1 f own1 σd') n0 0 hd4).bind fun ys h => (kk ys h).bind fun zs h => if (acc ++ zs).length ≤ sizeLine then .ok (.l (acc ++ zs)) h else .no) Q := by
                  cases e9 : compRe src1.get (turnF tg1 c1 f own1 σd') n0 0 hd4 with
                  | ok ys h => rw [e9] at q; exact q
                  | ex => rw [e9] at q; exact q
                  | no => rw [e9] at q; exact q
                have okz := ok1 Da vs eD4 nD4
                refine ⟨fun j k H => ∃ α hd acc vs, Gr α1 H1 α H ∧ GrZ Da α5 H5 α H ∧ Rl K α hd H ∧ Da ∉ α ∧ H Da = some (.lst vs) ∧ RelDs K α H acc vs ∧
                    PoW K α1 H1 ((compRe src1.get (turnF tg1 c1 f own1 σd') k j hd).bind fun ys h => (kk ys h).bind fun zs h => if (acc ++ zs).length ≤ sizeLine then .ok (.l (acc ++ zs)) h else .no) Q, ⟨n0, α5, hd4, acc, vs, gA, .self nD5 eD5, R5, nD5, eD5, rx5, q⟩, ?_⟩
                rintro j k H6 ⟨α6, hd6, acc6, vs6, g6, z6, R6, nD6, eD6, rx6, q⟩
                cases k with
                | zero => exact q.elim
                | succ k =>
                  simp only [compRe] at q
                  obtain ⟨stop1, gon⟩ := okz j α6 hd6 H6 z6 R6
                  cases eg1 : src1.get j hd6 with
                  | none => rw [eg1] at q; exact q.elim
                  | some o1 =>
                    cases o1 with
                    | none =>
                      rw [eg1] at q
                      refine .inl ⟨stop1 eg1, α6, hd6, acc6, vs6, g6, R6, nD6, eD6, rx6, ?_⟩
                      have q : PoW K α1 H1 ((kk [] hd6).bind fun zs h => if (acc6 ++ zs).length ≤ sizeLine then .ok (.l (acc6 ++ zs)) h else .no) Q := q
                      have ek : kk [] hd6 = compReL src.get (turnF2 tg c s1 tg1 c1 f own own1 σd) m (i + 1) hd6 := by
                        show (compReL src.get (turnF2 tg c s1 tg1 c1 f own own1 σd) m (i + 1) hd6).bind _ = _
                        cases compReL src.get (turnF2 tg c s1 tg1 c1 f own own1 σd) m (i + 1) hd6 <;> rfl
                      rw [ek] at q
                      exact q
                    | some d1 =>
                      rw [eg1] at q
                      obtain ⟨gn1, gn2⟩ := gon d1 eg1
                      refine .inr ⟨gn1, fun H => ∃ α hd acc vs, Gr α1 H1 α H ∧ GrZ Da α5 H5 α H ∧ Rl K α hd H ∧ Da ∉ α ∧ H Da = some (.lst vs) ∧ RelDs K α H acc vs ∧
                        PoW K α1 H1 ((compRe src1.get (turnF tg1 c1 f own1 σd') k (j + 1) hd).bind fun ys h => (kk ys h).bind fun zs h => if (acc ++ zs).length ≤ sizeLine then .ok (.l (acc ++ zs)) h else .no) Q,
                        fun H' z => ⟨k, Nat.lt_succ_self _, z⟩, fun x1 H7 y1 => ?_⟩
                      obtain ⟨g7, R7, rd1⟩ := gn2 x1 H7 y1
                      simp only at q
                      cases et : turnF tg1 c1 f own1 σd' d1 hd6 with
                      | ex => rw [et] at q; exact q.elim
                      | no => rw [et] at q; exact q.elim
                      | ok o2 hd8 =>
                        rw [et] at q
                        simp only [DL.R.bind_ok] at q
                        have et2 := et
                        simp only [turnF] at et
                        split at et
                        · cases et
                        · rename_i σd1 ep1
                          have S7 : RelS K α6 H7 (wipeD σd' own1) (wipe σ' own1) := by
                            have base : RelS K α6 H6 σd' σ' := ⟨S5.len, fun n dd e => by
                              obtain ⟨v, ev, rv⟩ := S5.ix n dd e
                              refine ⟨v, ev, RelD.mono (fun _ _ e => z6.get e) (fun b us q => z6.fr b _ q (R5.out q fun z => z) fun z => by subst z; rw [eD5] at q; cases q) ⟨fun b us q => ?_, fun b us q => let ⟨o, e, dn⟩ := q; ⟨o, z6.fz b o _ e, dn⟩⟩ dd v rv⟩
                              rcases q with ⟨o, q⟩ | q
                              · exact .inl ⟨o, z6.fz b o _ q⟩
                              · exact .inr q⟩
                            exact (base.gr R6 g7).wipe own1
                          refine ⟨α6, wipeD σd' own1, hd6, d1, σd1, R7, S7, rd1, ep1, fun σ3 S8 out1 => ⟨wipe_eq (out1.mono ht1), ?_⟩⟩
                          have eD7 : H7 Da = some (.lst vs6) := g7.fr Da _ eD6 nD6
                          have rx7 := rx6.gr R6 g7
                          obtain ⟨b1, hd9, eb1, e10⟩ := bind_ok_of et
                          refine ⟨α6, σd1, hd6, R7, S8, ?_⟩
                          rw [eb1]
                          intro α9 H9 g9 R9
                          have nD9 := g9.notin eD7 nD6
                          have eD9 : H9 Da = some (.lst vs6) := g9.fr Da _ eD7 nD6
                          have rx9 := rx7.gr R7 g9
                          have z9 := (z6.trans g7).trans g9
                          have gg9 := (g6.trans g7).trans g9
                          cases b1 with
                          | false =>
                            rw [if_neg Bool.false_ne_true]
                            cases e10
                            refine ⟨α9, hd8, acc6, vs6, gg9, z9, R9, nD9, eD9, rx9, ?_⟩
                            cases e11 : compRe src1.get (turnF tg1 c1 f own1 σd') k (j + 1) hd8 with
                            | ok zs hh => rw [e11] at q; exact q
                            | ex => rw [e11] at q; exact q
                            | no => rw [e11] at q; exact q
                          | true =>
                            rw [if_pos rfl]
                            rw [if_pos rfl] at e10
                            obtain ⟨w5, hd5', e12, e13⟩ := bind_ok_of e10
                            refine ⟨α9, σd1, hd9, R9, S8.gr R7 g9, ?_⟩
                            rw [e12]
                            intro αA HA yA gB RA rA _
                            cases w5 with
                            | l _ => cases e13
                            | v yd =>
                              cases e13
                              have nDA := gB.notin eD9 nD9
                              have eDA : HA Da = some (.lst vs6) := gB.fr Da _ eD9 nD9
                              have rxA := rx9.gr R9 gB
                              have q' := q_more q (hk yd)
                              have small : acc6.length < sizeLine := by
                                obtain ⟨_, _, e14⟩ := q'.ok
                                obtain ⟨ys0, _, _, e15⟩ := bind_ok_of e14
                                obtain ⟨zs, _, _, e16⟩ := bind_ok_of e15
                                split at e16
                                · rename_i hz
                                  rw [List.length_append, List.length_append] at hz
                                  simp only [List.length_singleton] at hz
                                  omega
                                · cases e16
                              refine ⟨vs6, eDA, by rw [rxA.length]; exact small, αA, hd8, acc6 ++ [yd], vs6 ++ [yA], (gg9.trans gB).over hD, (z9.trans gB).over, RA.over nDA eDA, nDA, upd_same, ?_, q'⟩
                              exact (rxA.append (es := [yd]) (show RelDs K αA HA [yd] [yA] from ⟨yA, [], rfl, rA, rfl⟩)).mono (fun _ _ e => e) (over_tup eDA) ⟨over_ro eDA, over_xt eDA⟩
theorem e_lc2 {s s1 : FS} {tg tg1 : Tg} {c c1 : FB} {f : FV} {elt te iter te1 iter1 : Expr} {ifs ifs1 : List Expr} {scope : Scope} {own : List (Str × Nat)} {own1 : List Nat} {pos : Pos} (hc : X.calm = true) (hN : X.N.Nodup) (hi : IOk X te s iter) (ok : BlkOk X.N X.env.scope scope own) (hv : ∀ i ∈ own1, i ∈ own.map (·.2))
    (hg : ∀ (s : Shared) (H : Hp) (C : Addr) (cl : List (Str × Addr)) (fp : List Addr), PG (X.blk s H scope (compEnvC scope cl C X.env) fp) te (gT X.K tg)) (ht : ∀ (s : Shared) (H : Hp) (C : Addr) (cl : List (Str × Addr)) (fp : List Addr), PTs (X.blk s H scope (compEnvC scope cl C X.env) fp) ifs (TB X.K c))
    (hi1 : ∀ (s : Shared) (H : Hp) (C : Addr) (cl : List (Str × Addr)) (fp : List Addr), PI (X.blk s H scope (compEnvC scope cl C X.env) fp) te1 iter1 (TIz X.K s1))
    (hg1 : ∀ (s : Shared) (H : Hp) (C : Addr) (cl : List (Str × Addr)) (fp : List Addr), PG (X.blk s H scope (compEnvC scope cl C X.env) fp) te1 (gT X.K tg1)) (ht1 : ∀ (s : Shared) (H : Hp) (C : Addr) (cl : List (Str × Addr)) (fp : List Addr), PTs (X.blk s H scope (compEnvC scope cl C X.env) fp) ifs1 (TB X.K c1))
    (he : ∀ (s : Shared) (H : Hp) (C : Addr) (cl : List (Str × Addr)) (fp : List Addr), EOk (X.blk s H scope (compEnvC scope cl C X.env) fp) f elt) (hsl : ∀ i ∈ tg.slots, i ∈ own.map (·.2)) (hsl1 : ∀ i ∈ tg1.slots, i ∈ own1) (hf1 : ∀ (env : Env) (x : Value), foldedSetIterable iter1 env x = pure x) :
    EOk X (vLc2 s tg c s1 tg1 c1 f (own.map (·.2)) own1) (.ListComp elt [⟨te, iter, ifs, 0⟩, ⟨te1, iter1, ifs1, 0⟩] scope pos) :=
  ⟨TV.mono_iff (pe_lc2 (te := TV X.K (vSet f)) hc hN hi.pi ok hv hg ht hi1 hg1 ht1 (fun s H C cl fp => (e_set (he s H C cl fp)).pe) hi.fold hf1) fun σ H Q q => TV_lc2 hsl hsl1 q, rfl⟩
theorem s_setLc2 {Y : Ys} {Wx : WX} {s s1 : FS} {tg tg1 : Tg} {c c1 : FB} {f : FV} {i : Nat} {y : Str} {py : Pos} {elt te iter te1 iter1 : Expr} {ifs ifs1 : List Expr} {scope : Scope} {own : List (Str × Nat)} {own1 : List Nat} {pos spos : Pos} (hc : X.calm = true) (hN : X.N.Nodup) (hy : X.N[i]? = some y) (hyl : X.env.scope.names.lookup y = some .local)
    (hsw : swapsWith (.ListComp elt [⟨te, iter, ifs, 0⟩, ⟨te1, iter1, ifs1, 0⟩] scope pos) (some (.Name y py)) spos.line X.env = pure true) (hi : IOk X te s iter) (ok : BlkOk X.N X.env.scope scope own) (hv : ∀ i ∈ own1, i ∈ own.map (·.2))
    (hg : ∀ (s : Shared) (H : Hp) (C : Addr) (cl : List (Str × Addr)) (fp : List Addr), PG (X.blk s H scope (compEnvC scope cl C X.env) fp) te (gT X.K tg)) (ht : ∀ (s : Shared) (H : Hp) (C : Addr) (cl : List (Str × Addr)) (fp : List Addr), PTs (X.blk s H scope (compEnvC scope cl C X.env) fp) ifs (TB X.K c))
    (hi1 : ∀ (s : Shared) (H : Hp) (C : Addr) (cl : List (Str × Addr)) (fp : List Addr), PI (X.blk s H scope (compEnvC scope cl C X.env) fp) te1 iter1 (TIz X.K s1))
    (hg1 : ∀ (s : Shared) (H : Hp) (C : Addr) (cl : List (Str × Addr)) (fp : List Addr), PG (X.blk s H scope (compEnvC scope cl C X.env) fp) te1 (gT X.K tg1)) (ht1 : ∀ (s : Shared) (H : Hp) (C : Addr) (cl : List (Str × Addr)) (fp : List Addr), PTs (X.blk s H scope (compEnvC scope cl C X.env) fp) ifs1 (TB X.K c1))
    (he : ∀ (s : Shared) (H : Hp) (C : Addr) (cl : List (Str × Addr)) (fp : List Addr), EOk (X.blk s H scope (compEnvC scope cl C X.env) fp) f elt) (hsl : ∀ i ∈ tg.slots, i ∈ own.map (·.2)) (hsl1 : ∀ i ∈ tg1.slots, i ∈ own1) (hf1 : ∀ (env : Env) (x : Value), foldedSetIterable iter1 env x = pure x) :
    PS X (.Assign [.Name y py] (.ListComp elt [⟨te, iter, ifs, 0⟩, ⟨te1, iter1, ifs1, 0⟩] scope pos) spos) (TSd X.K Y Wx (sPut (.nm i) (vLc2 s tg c s1 tg1 c1 f (own.map (·.2)) own1))) := by
  refine PS.weak (ps_setLc2 (te := TV X.K (vSet f)) hc hN hy hyl hsw hi.pi ok hv hg ht hi1 hg1 ht1 (fun s H C cl fp => (e_set (he s H C cl fp)).pe) hi.fold hf1) fun D σ H q => ?_
  refine TV_lc2 hsl hsl1 (TV_set (sPut_go (g := gName i) (fun v σ H Q z => ?_) q))
  obtain ⟨α, σd, hd, d, σd', R, S, r, e, q⟩ := z
  cases e
  exact q _ (S.set r _) (Out.set _ _ _)
end DL
namespace DL
open PySem PySem.Spec PyProof.Rows L2

variable {K : PySem.W.Frag}
variable {α α' α'' α1 α0 : List Addr} {H H' H'' H1 H0 : Hp} {hd hd' hd1 : Hd} {a p : Addr}
variable {X : Cx}
def kvD (kv : List DK × D) : D := .tup [.tup (kv.1.map DK.d), kv.2]
def sortI1 (w : W) (h : Hd) : Option W := match w with
  | .v (.obj n) => match h[n]? with
    | some (.dT kvs) => match D.pys (kvs.map kvD) with
        | some ps => if srtOk ps = true then some (.l (sortPy (kvs.map kvD))) else none
        | none => none
    | _ => none
  | _ => none
def vSi (f : FV) : FV := fun σ h => (f σ h).bind fun w h => R.ofO (sortI1 w h) h
section
variable {pins : List (Addr × Obj)} {σ : L2.St} {s : Shared}
theorem relKT_at : ∀ {kvs : List (List DK × D)} {l : List (List Key × V)} {j : Nat} {k : List Key} {v : V}, RelKT K α H kvs l → l[j]? = some (k, v) → ∃ k' d, kvs[j]? = some (k', d) ∧ k = k'.map DK.key ∧ RelD K α H d v
  | [], l, j, k, v, h, e => by rw [show l = [] from h] at e; simp at e
  | (k', d') :: r, l, 0, k, v, h, e => by
    obtain ⟨v', lr, rfl, h1, h2⟩ := h
    cases e
    exact ⟨k', d', rfl, rfl, h1⟩
  | (k', d') :: r, l, j + 1, k, v, h, e => by
    obtain ⟨v', lr, rfl, h1, h2⟩ := h
    simp only [List.getElem?_cons_succ] at e ⊢
    exact relKT_at h2 e
theorem dt_ents {kvs : List (List DK × D)} (I : Inv X pins σ H s) (ro : RelO X.K α H a (.dT kvs)) : (a == sysModules) = false ∧ ∃ (es : Array DictEntry) (ep : Nat), _root_.DT.Raw s.heap a es ep ∧ es.size = kvs.length ∧ es.size ≤ sizeLine ∧
    ∀ (j : Nat) (e : DictEntry), es[j]? = some e → ∃ (dk dv : D) (vk vv : V), (kvs.map kvD)[j]? = some (D.tup [dk, dv]) ∧ RelV vk e.key ∧ RelV vv e.val ∧ RelD X.K α H dk vk ∧ RelD X.K α H dv vv := by
  obtain ⟨l, e2, rk⟩ := ro
  obtain ⟨z, hd, xs', rel, o, es, ep, ho, hx, hdat, hes, his, hn⟩ := dt_of I.hok e2
  refine ⟨hd, es, ep, ⟨o, ho, hx, hdat⟩, ?_, ?_, fun j e he => ?_⟩
  · rw [size_of_entries hes, ← Paired.length rel, relKT_len rk]
  · rw [size_of_entries hes, ← Paired.length rel]; exact z
  · rw [entry_at hes j] at he
    obtain ⟨x, ex, rfl⟩ := Option.map_eq_some_iff.mp he
    obtain ⟨q, e1, r1, r2, r3⟩ := L2.DX.pget rel ex
    obtain ⟨k, v⟩ := q
    obtain ⟨k', d, e3, rfl, rv⟩ := relKT_at rk e1
    exact ⟨.tup (k'.map DK.d), d, .ref x.2.1, v, by rw [List.getElem?_map, e3]; rfl, rfl, r3, ⟨x.2.1, _, rfl, r2, DK.ds_rel k'⟩, rv⟩
def rSI (K : PySem.W.Frag) : List V → Hp → VK → Prop := fun vs H Q => ∃ α hd n kvs a p, vs = [.ref p] ∧ H p = some (L2.DX.itemsO p a) ∧ Rl K α hd H ∧ hd[n]? = some (.dT kvs) ∧ α[n]? = some a ∧ PoW K α H (DL.R.ofO (sortI1 (.v (.obj n)) hd) hd) Q
theorem rels_at {as : List Addr} {xs : List D} (hl : as.length = xs.length) (h : ∀ (j : Nat) b, as[j]? = some b → ∃ d, xs[j]? = some d ∧ RelD K α H d (.ref b)) : RelDs K α H xs (as.map V.ref) := by
  induction as generalizing xs with
  | nil => cases xs with
    | nil => rfl
    | cons x xs => simp at hl
  | cons b as ih => cases xs with
    | nil => simp at hl
    | cons x xs =>
      obtain ⟨d, e, r⟩ := h 0 b rfl
      cases e
      exact ⟨.ref b, as.map V.ref, rfl, r, ih (by simpa using hl) fun j c hj => h (j + 1) c (by simpa using hj)⟩
theorem c_sortI (hc : X.calm = true) (hu : Deep X) : CallR X (.builtin "sorted") (rSI X.K) := by
  intro pins s σ H xs us Q I r h
  obtain ⟨α, hd, n, kvs, a, p, rfl, hp, R, ho, ha, h⟩ := h
  obtain rfl := L2.Vals.ref1 r
  obtain ⟨z, e, h⟩ := ofO_W h
  simp only [sortI1, ho] at e
  split at e
  · rename_i ps e2
    split at e
    · rename_i ok
      cases e
      have view : s.heap.IsItemsView p a := (show ObjOk X.prog X.w H s.heap p (L2.DX.itemsO p a) from I.hok p _ hp).1
      obtain ⟨hd0, es, ep, raw, hsz, hline, ents⟩ := dt_ents I (R.ob n _ a ho ha)
      have hh : X.A.handled = none := I.ok.hd hc
      refine _root_.DT.sortedI (es := es) (ep := ep) hh view raw hline fun h' tk as hk hlt hl hG => ?_
      have nd : as.Nodup := List.Pairwise.imp (fun h => Nat.ne_of_lt h) hG.rise
      have I1 : Inv X pins σ H { s with heap := h', toks := tk } := I.kept (t' := tk) hk
      obtain ⟨H2, I2, g, qt⟩ := L2.DX.takeT (P := fun b vs => ∃ (j : Nat) (dk dv : D) (vk vv : V), as[j]? = some b ∧ (kvs.map kvD)[j]? = some (.tup [dk, dv]) ∧ vs = [vk, vv] ∧ RelD X.K α H dk vk ∧ RelD X.K α H dv vv) I as H I1 nd fun b hb => by
        obtain ⟨j, hj⟩ := List.mem_iff_getElem?.mp hb
        obtain ⟨en, he, hg⟩ := hG.pairs j b hj
        obtain ⟨dk, dv, vk, vv, ex, r1, r2, r3, r4⟩ := ents j en he
        have hbl : s.heap.objs.size ≤ b := Nat.le_of_lt (hG.above b hb)
        exact ⟨hbl, I.hok.fresh hbl, [vk, vv], ⟨j, dk, dv, vk, vv, hj, ex, rfl, r3, r4⟩, fun H3 => ⟨(by rw [sizeLine_eq]; show 2 ≤ 16777216; omega), [en.key, en.val], .cons r1 (.cons r2 .nil), ⟨_, hg, rfl, 0, rfl⟩⟩⟩
      have g2 : Gr α H α H2 := ⟨⟨[], by simp, by simp⟩, fun _ _ h _ => g _ _ h, fun _ _ _ h => g _ _ h⟩
      have R2 : Rl X.K α hd H2 := R.ext g2 fun b hb => by
        obtain ⟨n', o', e1, e2, e3⟩ := R.at hb
        cases hq : H b with
        | none => exact (R.none_out hq hb).elim
        | some o => exact g _ _ hq
      have hlx : as.length = (kvs.map kvD).length := by rw [hl, hsz, List.length_map]
      have hx : RelDs X.K α H2 (kvs.map kvD) (as.map V.ref) := rels_at hlx fun j b hj => by
        obtain ⟨vs, ⟨j2, dk, dv, vk, vv, hj2, ex, rfl, r3, r4⟩, hH⟩ := qt b (List.mem_of_getElem? hj)
        have eij : j = j2 := (List.getElem?_inj (List.getElem?_eq_some_iff.mp hj).1 nd).mp (hj.trans hj2.symm)
        subst eij
        exact ⟨_, ex, b, [vk, vv], rfl, hH, vk, [vv], rfl, r3.gr R g2, vv, [], rfl, r4.gr R g2, rfl⟩
      have h := h.from g2 R2
      generalize hX : kvs.map kvD = ys at *
      have rv : Vals (as.map V.ref) (as.map Value.ref) := L2.vals_maps (fun b : Addr => V.ref b) (fun b => Value.ref b) as fun _ _ => rfl
      obtain ⟨z1, z2, z3⟩ := rels_zip hx
      obtain ⟨m1, m2⟩ := pys_map e2
      have hl2 : ys.length = (as.map V.ref).length := by rw [List.length_map]; exact hlx.symm
      have okk := ok
      unfold srtOk at ok
      simp only [Bool.and_eq_true, Bool.or_eq_true, List.all_eq_true, decide_eq_true_eq] at ok
      obtain ⟨⟨ok1, ok2⟩, ok3⟩ := ok
      have em : (ys.zip (as.map V.ref)).map (fun q => pyE q.1) = ps := by
        have : (ys.zip (as.map V.ref)).map (fun q => pyE q.1) = ((ys.zip (as.map V.ref)).map (·.1)).map pyE := by rw [List.map_map]; rfl
        rw [this, z2, m1]
      have hob : (h'.push { cls := .type "list", data := .seq (as.map Value.ref).toArray }).get? h'.objs.size = some (seqObj "list" (as.map Value.ref).toArray 0) := Heap.get?_push_size _ rfl
      have reads : ∀ u q, q ∈ ys.zip (as.map V.ref) → RelV q.2 u → ∃ bs, Reads (h'.push { cls := .type "list", data := .seq (as.map Value.ref).toArray }) u (pyE q.1) bs ∧ h'.objs.size ∉ bs := fun u q hq r => by
        have hd1 : q.1 ∈ ys := by rw [← z2]; exact List.mem_map.mpr ⟨q, hq, rfl⟩
        obtain ⟨bs, rr⟩ := Dp.reads I2 _ _ _ (py_at (m2 _ hd1) (z1 q hq)) r
        refine ⟨bs, PyProof.Rows.Reads.keeps (fun b o e => Heap.get?_push_of_some _ e) rr, fun hb => ?_⟩
        obtain ⟨o, ho⟩ := PyProof.On.reads_mem_get rr _ hb
        exact Nat.lt_irrefl _ (Heap.lt_size ho)
      have hsl : as.length ≤ sizeLine := by rw [hl]; exact hline
      refine PySem.W.list_sort_data (s := { s with heap := h'.push { cls := .type "list", data := .seq (as.map Value.ref).toArray }, toks := tk }) (β := D × V) (enc := fun q => pyE q.1) (R := fun u q => RelV q.2 u) (bs := ys.zip (as.map V.ref)) hob (each_zip rv hl2 fun _ _ _ r => r) (each_zip rv hl2 reads) ?_ ?_ ?_ ?_ fun out ol eo => ?_
      · rw [em]; exact fun d hd d' hd' => ok1 d hd d' hd'
      · rw [em]
        rcases ok2 with q | q
        · exact .inl fun d hd => by
            have := q d hd
            unfold isTupC at this
            split at this
            · exact ⟨_, _, rfl⟩
            · cases this
        · exact .inr fun d hd => by
            have := q d hd
            unfold notTN at this
            split at this
            · cases this
            · cases this
            · rename_i n1 n2
              exact ⟨n2, n1⟩
      · rw [List.length_zip, hl2, Nat.min_self, List.length_map]; exact hsl
      · intro q hq
        have := ok3 (pyE q.1) (by rw [← em]; exact List.mem_map.mpr ⟨q, hq, rfl⟩)
        have hu : X.A.units + 200 < cLine := hu
        show X.A.units + 1 + 1 + _ < cLine
        omega
      · obtain ⟨c, hcn⟩ := PyProof.Rows.sortedHeap_at (vs := as.map Value.ref) (out := List.toArray out) hob
        have e1 : ((ys.zip (as.map V.ref)).mergeSort (PySem.W.dataLe false fun q => pyE q.1)).map (·.1) = sortPy ys := by
          exact (List.map_mergeSort (r := PySem.W.dataLe false fun q : D × V => pyE q.1) (s := leD) (f := fun q : D × V => q.1) (l := ys.zip (as.map V.ref)) (fun a _ b _ => rfl)).trans (by rw [z2]; rfl)
        have hv := each_vals eo
        have hr : RelDs X.K α H2 (sortPy ys) (((ys.zip (as.map V.ref)).mergeSort (PySem.W.dataLe false fun q => pyE q.1)).map (·.2)) := by
          rw [← e1]
          exact rels_all _ fun q hq => z1 q (List.mem_mergeSort.mp hq)
        generalize ((ys.zip (as.map V.ref)).mergeSort (PySem.W.dataLe false fun q => pyE q.1)).map (·.2) = ws at hv hr
        have hwl : ws.length ≤ sizeLine := by rw [hv.length, ol, List.length_zip, hl2, Nat.min_self, List.length_map]; exact hsl
        have nw : H2 h'.objs.size = none := I2.hok.fresh (Nat.le_refl _)
        have kF : ∀ b o, h'.get? b = some o → (sortedHeap (h'.push { cls := .type "list", data := .seq (as.map Value.ref).toArray }) h'.objs.size (as.map Value.ref) (List.toArray out)).get? b = some o := fun b o e => (PyProof.Rows.sortedHeap_old (Nat.ne_of_lt (Heap.lt_size e)) (Heap.lt_size (Heap.get?_push_of_some _ e))).trans (Heap.get?_push_of_some _ e)
        exact ⟨.ref h'.objs.size, upd H2 h'.objs.size (.lst ws), I2.laid (t' := tk) (fun b o e => kF b o e) (Nat.le_refl _) ⟨hwl, out, c, hv, hcn⟩, rfl, h.newL R2 hr nw⟩
    · cases e
  · cases e
def tItemsT (td : TE) : TE := fun σ H Q => td σ H fun x H1 => ∃ a kvs, x = .ref a ∧ H1 a = some (.dT kvs) ∧ ∀ p, H1 p = none → Q (.ref p) (upd H1 p (L2.DX.itemsO p a))
theorem pe_itemsT {e : Expr} {td : TE} {apos cpos : Pos} (he : PE X e td) (hbase : attributeBase e "items" X.env (eval e X.env) = eval e X.env) (hline : (apos.endLine == cpos.line) = true) : PE X (.Call (.Attribute e "items" apos) [] [] cpos) (tItemsT td) := by
  refine ⟨fun pins s σ H Q I h => ?_⟩
  refine wpAny_Call_method (T := "dict") (id := "dict.items") hbase rfl hline PySem.F.plainAttrs_dict PySem.F.slot_dict_items PySem.F.type_dict_items (thn (he.run pins s σ H _ I h) fun u s1 ⟨x, H1, I1, rx, d, kvs, ex, hd, q⟩ => ?_)
  subst ex
  obtain rfl : u = Value.ref d := rx
  obtain ⟨t1, t2, _⟩ := isD_at I1 (show IsD H1 d from .inr ⟨kvs, .inl hd⟩)
  refine ⟨t1, t2, ?_⟩
  exact Calls.callWith_builtin rfl (PySem.evalArgs_none (L2.DX.mt_itemsT pins s1 σ H1 (.ref d) [] (.ref d) [] Q I1 rfl .nil ⟨d, kvs, rfl, rfl, hd, q⟩))
theorem e_sortI (hc : X.calm = true) (hu : Deep X) {f : FV} {x : Str} {o : Expr} {p pos apos cpos : Pos} (hg : Gl X x) (hm : X.mg x = none) (hv : bootBuiltins x = some (.builtin "sorted")) (hn : x ≠ "__name__") (hdb : (x == ("__debug__" : Str)) = false)
    (ho : EOk X f o) (hl : line1 apos cpos = true) : EOk X (vSi f) (.Call (.Name x p) [.Call (.Attribute o "items" apos) [] [] cpos] [] pos) := by
  refine ⟨TV.mono_iff (pe_callB (c_sortI hc hu) hg hm hv (pa_cons (pe_itemsT ho.pe (attr_no ho.pl _ _) hl) pa_nil (star_cons (e := .Call (.Attribute o "items" apos) [] [] cpos) rfl _ _)) hn hdb (star_cons (e := .Call (.Attribute o "items" apos) [] [] cpos) rfl _ _) (stars_any (es := []) rfl)) fun σ H Q q => ?_, rfl⟩
  obtain ⟨α, σd, hd, R, S, q⟩ := q
  have q : PoW X.K α H ((f σd hd).bind fun w h => DL.R.ofO (sortI1 w h) h) Q := q
  refine TV.seq R S q.ok fun w hd1 α1 H1 v1 e g1 R1 S1 r nw => ?_
  rw [e] at q
  have q := q.from g1 R1
  cases w with
  | l xs => exact q.elim
  | v d =>
    cases d with
    | obj n =>
      have q0 := q
      simp only [sortI1] at q
      split at q
      · rename_i kvs eo
        obtain ⟨a, ea, rfl⟩ := r
        obtain ⟨l, e2, rk⟩ := R1.ob n _ a eo ea
        refine ⟨a, l, rfl, e2, fun p hp => ?_⟩
        have gu := Gr.upd R1 hp (L2.DX.itemsO p a)
        have Ru := R1.upd hp (L2.DX.itemsO p a)
        exact ⟨α1, hd1, n, kvs, a, p, rfl, upd_same, Ru, eo, ea, q0.from gu Ru⟩
      · exact q.elim
    | _ => exact q.elim
end
end DL
namespace DL
open PySem PySem.Spec PyProof.Rows L2

variable {K : PySem.W.Frag}
variable {α α' α'' α1 α0 : List Addr} {H H' H'' H1 H0 : Hp} {hd hd' hd1 : Hd} {a p : Addr}
variable {X : Cx} {Y : Ys} {Wx : WX}
def repS (x y z : List Nat) : List Nat := (Txt.replace (mkS x) (mkS y) (mkS z)).cps.toList
def repF (f : FV) (y z : List Nat) : FV := fun σ h => (f σ h).bind fun w h => match w with
  | .v (.str x) => if x.length + (x.length + 1) * z.length ≤ 16777216 then .ok (.v (.str (repS x y z))) h else .no
  | _ => .no
theorem after {B : Type} {t : Sem B} {Q Q' : B → Shared → Prop} {M : Model} {A : Around} {E : Value → Shared → Prop} {s : Shared} (h0 : 1 ≤ s.toks) (h : wpAny M A t Q E s) (k : ∀ b s1, 1 ≤ s1.toks → Q b s1 → Q' b s1) : wpAny M A t Q' E s :=
  wpAny_mono (PySem.wpAny_toks_of h0 h) (fun b s1 q => k b s1 q.1 q.2) fun _ _ q => q.2
theorem PET.weak {e : Expr} {t t' : TE} (h : PET X e t) (k : ∀ σ H Q, t' σ H Q → t σ H Q) : PET X e t' := fun pins s σ H Q h0 I q => h pins s σ H Q h0 I (k σ H Q q)
theorem PST.weak {st : Stmt} {t t' : TS} (h : PST X st t) (k : ∀ D σ H, t' D σ H → t D σ H) : PST X st t' := fun pins s σ H D h0 I q => h pins s σ H D h0 I (k D σ H q)
theorem PSsT.weak {st : List Stmt} {t t' : TS} (h : PSsT X st t) (k : ∀ D σ H, t' D σ H → t D σ H) : PSsT X st t' := fun pins s σ H D h0 I q => h pins s σ H D h0 I (k D σ H q)
structure EOkT (X : Cx) (f : FV) (e : Expr) : Prop where
  pe : PET X e (TV X.K f)
  pl : plainE e = true
theorem tk_set {f : FV} {e : Expr} (h : EOkT X f e) : EOkT X (vSet f) e := ⟨PET.weak h.pe fun _ _ _ q => TV_set q, h.pl⟩
theorem tk_rep {f : FV} {o : Expr} {y z : List Nat} {j0 j1 : Nat} {c0 c1 apos pos : Pos} (ho : EOk X f o) (ne : (mkS y == mkS z) = false) (hl : line1 apos pos = true) :
    EOkT X (repF f y z) (.Call (.Attribute o "replace" apos) [.Constant (.str (mkS y)) j0 c0, .Constant (.str (mkS z)) j1 c1] [] pos) := by
  refine ⟨PET.weak (CwR.pet_replC ho.pe ne rfl (attr_no ho.pl _ _) hl) fun σ H Q q => ?_, rfl⟩
  obtain ⟨α, σd, hd, R, S, q⟩ := q
  have q : PoW X.K α H ((f σd hd).bind fun w h => match w with
    | .v (.str x) => if x.length + (x.length + 1) * z.length ≤ 16777216 then .ok (.v (.str (repS x y z))) h else .no
    | _ => .no) Q := q
  refine TV.seq R S q.ok fun w hd1 α1 H1 v1 e g1 R1 S1 r n => ?_
  rw [e] at q
  have q := q.from g1 R1
  cases w with
  | l xs => exact q.elim
  | v d =>
    cases d with
    | str x =>
      simp only at q
      split at q
      · rename_i hz
        refine ⟨mkS x, r, by rw [mkS_len, mkS_len]; exact hz, ?_⟩
        have e2 : Txt.replace (mkS x) (mkS y) (mkS z) = mkS (repS x y z) := by
          unfold repS
          exact (mkS_of _).symm
        rw [e2]
        exact q.old (d := .str (repS x y z)) R1 rfl
      · exact q.elim
    | _ => exact q.elim
theorem tk_b1 {id : String} {x : Str} {f : FV} {fn : W → Hd → Option W} {e : Expr} {p pos : Pos} (hc : CallR X (.builtin id) (r1 X.K fn)) (hg : Gl X x) (hm : X.mg x = none) (hv : bootBuiltins x = some (.builtin id))
    (hn : x ≠ "__name__") (hdb : (x == ("__debug__" : Str)) = false) (he : EOkT X f e) : EOkT X (vB1 fn f) (.Call (.Name x p) [e] [] pos) := by
  refine ⟨fun pins s σ H Q h0 I q => ?_, rfl⟩
  have ha := pat_cons he.pe pat_nil (star_cons he.pl _ _)
  have q2 := TV_b1 q
  exact wpAny_Call_Name_kw (ld_blt I hg hm hv (PyProof.Rows.callWith_builtin1 (thn (ha pos pins s σ H _ h0 I q2) fun us s1 h1 => by
    obtain ⟨ws, H1, I1, rr, z1⟩ := h1
    exact hc pins s1 σ H1 ws us Q I1 rr z1) (star_cons he.pl _ _) (stars_any (es := []) rfl)) hn hdb)
theorem seq_one {g : FV} {σ : Sd} {h h' : Hd} {ds : List D} (e : vSeq [g] σ h = .ok ds h') : ∃ d, ds = [d] ∧ vSet g σ h = .ok (.v d) h' := by
  have e : ((g σ h).bind fun w h => (w.settle h).bind fun d h => (DL.R.ok ([] : List D) h).bind fun ds h => .ok (d :: ds) h) = .ok ds h' := e
  obtain ⟨w, h1, e1, e2⟩ := bind_ok_of e
  obtain ⟨d, h2, e3, e4⟩ := bind_ok_of e2
  cases e4
  refine ⟨d, rfl, ?_⟩
  unfold vSet
  rw [e1, R.bind_ok, e3]
  rfl
theorem tk_call {k n : Nat} {f : Addr} {fd : FuncData} {ps : List Str} {cl : List D → Hd → R W} {g : FV} {x : Str} {e : Expr} {p pos : Pos}
    (F : FnOk X.prog X.w X.K X.mg X.base (L2.CX X.prog X.w) k f fd ps (spD X.K Y n cl)) (hr : Room k X.A) (hg : Gl X x) (hm : X.mg x = some (.ref f)) (hk : PySem.W.keepIn X.K (.ref f) = true) (hb : Binds X.K fd ps [])
    (hn : 1 = n) (hdb : (x == ("__debug__" : Str)) = false) (he : EOkT X g e) : EOkT X (vCall cl [] [g]) (.Call (.Name x p) [e] [] pos) := by
  refine ⟨fun pins s σ H Q h0 I q => ?_, rfl⟩
  have ha := pat_cons (tk_set he).pe pat_nil (star_cons he.pl _ _)
  have hp := passL (X := X)
  obtain ⟨α, σd, hd, R, S, q⟩ := q
  have q : PoW X.K α H ((vSeq [g] σd hd).bind fun ds h => cl (ds ++ []) h) Q := q
  have q2 : tCall (spD X.K Y n cl) [] E0 (tCons (TV X.K (vSet g)) tNil) σ H Q := by
    have ok := q.ok
    obtain ⟨b0, h9, e9⟩ := ok
    obtain ⟨ds, hdx, e0, e1⟩ := bind_ok_of e9
    rw [e0] at q
    obtain ⟨d, ed, es⟩ := seq_one e0
    subst ed
    refine ⟨α, σd, hd, R, S, ?_⟩
    rw [es]
    intro α' H' v g' R' r n
    exact ⟨α', hdx, [d], R', ⟨v, [], rfl, r, rfl⟩, hn, .of (q.from g' R')⟩
  exact wpAny_Call_Name_kw (ld_glob I hg hm (PySem.W.callWith_K (h₀ := X.base) I.ok.mod.kin hk (thn (ha pos pins s σ H _ h0 I q2) fun us s1 h1 => by
    obtain ⟨ws, H1, I1, rr, z1⟩ := h1
    exact ⟨I1.kIn, run_fn F hr hb .nil hp I1 rr z1⟩) (star_cons he.pl _ _) (stars_any (es := []) rfl)) hdb)
theorem st_asg {t : Tg} {f : FV} {tg e : Expr} {pos : Pos} (he : EOkT X f e) (ht : PG X tg (gT X.K t)) (hs : swapsWithSole [tg] e pos.line X.env = pure false) (hw : swappedStores [tg] e X.env = pure none)
    (h1 : (assignEach [tg] X.env).map (·.2) = [assign tg X.env]) : PST X (.Assign [tg] e pos) (TSd X.K Y Wx (sPut t f)) := by
  intro pins s σ H D h0 I q
  refine wpAny_Assign_stores (thn ((tk_set he).pe pins s σ H _ h0 I (sPut_go (fun _ _ _ _ z => z) q)) fun u s1 z => ?_) hs hw
  obtain ⟨v, H1, I1, rv, z⟩ := z
  rw [h1]
  exact thn (ht.run pins s1 σ H1 v u _ I1 rv z) fun _ _ y => y
theorem st_if {c : FB} {f g : FSt} {e : Expr} {as bs : List Stmt} {pos : Pos} (hc : PT X e (TB X.K c)) (ha : PSsT X as (TSd X.K Y Wx f)) (hb : PSsT X bs (TSd X.K Y Wx g)) : PST X (.If e as bs pos) (TSd X.K Y Wx (sIf c f g)) := by
  refine PST.weak (CwR.pst_if hc ha hb) fun D σ H q => ?_
  obtain ⟨α, σd, hd, R, S, q⟩ := q
  have q : PoS X.K Y Wx α H ((c σd hd).bind fun b h => if b = true then f σd h else g σd h) D := q
  refine TB.seq R S q.ok fun x hd1 α1 H1 e g1 R1 S1 => ?_
  rw [e] at q
  have q := q.from g1 R1
  cases x with
  | true => exact ⟨α1, σd, hd1, R1, S1, q⟩
  | false => exact ⟨α1, σd, hd1, R1, S1, q⟩
theorem st_nil : PSsT X [] (TSd X.K Y Wx sNil) := PSsT.of ss_nil
theorem lp_for {tg iter : Expr} {body : List Stmt} {wi : TI} {g : TG} {tb : TS} {pos : Pos} (po : PassesOwn (model X.prog X.w) X.A X.env X.xe) (cm : X.calm = true) (hi : PI X tg iter wi) (hg : PG X tg g) (hb : PSsT X body tb)
    (fs : ∀ x, foldedSetIterable iter X.env x = pure x) : PST X (.For tg iter body [] pos) (tFor wi g tb) := by
  intro pins s σ H D one I q0
  refine wpAny_For (after one (hi.run pins s σ H _ I q0) fun v sa ka qa => after ka qa fun u sb kb qb => ?_) fs
  obtain ⟨it, fp, tn, J, Hb, eu, Ib, tr, nb, fb, Wn, ⟨n0, w0⟩, turn⟩ := qb
  subst eu
  have stat : ∀ {H' : Hp}, (∀ c ∈ fp, H' c = none) → ∀ c ∈ fp, FpOk X pins H' c := fun z c hc => ⟨z c hc, (fb c hc).2⟩
  refine codeAny_forLoop_any (fun n t => 1 ≤ t.toks ∧ ∃ i σ' H', Inv X pins σ' H' t ∧ tn i t.heap ∧ (∀ c ∈ fp, H' c = none) ∧ Wn i n σ' H') ?_ n0 ⟨kb, 0, σ, Hb, Ib, nb, fun c hc => (fb c hc).1, w0⟩
  rintro n sc ⟨kc, i, σc, Hc, Ic, nc, fc, wc⟩
  rcases turn i n σc Hc wc with ⟨halt, qd⟩ | ⟨go, Nx, hN, step⟩
  · refine wpAny_passesOwn po (thn (tr.done X rfl rfl rfl cm i pins sc σc Hc X.xe Ic (stat fc) nc halt) fun r sd zd => ?_)
    obtain ⟨er, Id⟩ := zd
    subst er
    exact wpAny_execs_nil ⟨σc, Hc, Id, qd⟩
  · refine wpAny_passesOwn po (after kc (tr.item X rfl rfl rfl cm i pins sc σc Hc X.xe Ic (stat fc) nc go) fun r sd kd zd => ?_)
    obtain ⟨u, er, zd⟩ := zd
    subst er
    refine wpAny_passesOwn po (after kd zd fun _ se ke ze => ?_)
    obtain ⟨x, He, Ie, re, ye, ne_, fe⟩ := ze
    have Ip := Ie.pinned (stat fe) (tr.obj _ _ ne_)
    refine wpAny_passesOwn po (after ke (hg.run _ se σc He x u _ Ip re (step x He ye)) fun _ sf kf zf => ?_)
    obtain ⟨σf, Hf, If_, qf⟩ := zf
    refine wpAny_passesOwn po (after kf (hb _ sf σf Hf _ kf If_ qf) fun fl sg kg zg => ?_)
    have back : ∀ {σ7 : L2.St} {H7 : Hp}, Inv X (pins ++ pinsAt fp se.heap) σ7 H7 sg → Nx σ7 H7 → ∃ m, m < n ∧ 1 ≤ sg.toks ∧ ∃ j σ' H', Inv X pins σ' H' sg ∧ tn j sg.heap ∧ (∀ c ∈ fp, H' c = none) ∧ Wn j m σ' H' := fun {σ7 H7} I7 z7 => by
      obtain ⟨m, hm, w7⟩ := hN σ7 H7 z7
      have pin : ∀ c ∈ fp, ∀ o, se.heap.get? c = some o → sg.heap.get? c = some o ∧ H7 c = none := fun c hc o eo => by
        have := I7.pin (c, o) (List.mem_append_right _ (List.mem_append_right _ (mem_pinsAt hc eo)))
        exact ⟨this.1, this.2.1⟩
      refine ⟨m, hm, kg, i + 1, σ7, H7, I7.unpinned, tr.keep _ _ _ ne_ fun c hc o eo => (pin c hc o eo).1, fun c hc => ?_, w7⟩
      obtain ⟨o, eo, _⟩ := tr.obj _ _ ne_ c hc
      exact (pin c hc o eo).2
    cases fl with
    | next => obtain ⟨σ7, H7, I7, z7⟩ := zg; exact back I7 z7
    | cont => obtain ⟨σ7, H7, I7, z7⟩ := zg; exact back I7 z7
    | brk => obtain ⟨σ7, H7, I7, z7⟩ := zg; exact ⟨σ7, H7, I7.unpinned, z7⟩
    | ret v => obtain ⟨x7, σ7, H7, I7, r7, z7⟩ := zg; exact ⟨x7, σ7, H7, I7.unpinned, r7, z7⟩
theorem st_cons {f g : FSt} {st : Stmt} {sts : List Stmt} (h : PST X st (TSd X.K Y Wx f)) (hs : PSsT X sts (TSd X.K Y Wx g)) : PSsT X (st :: sts) (TSd X.K Y Wx (sCons f g)) := by
  refine PSsT.weak (psst_cons h hs) fun D σ H q => ?_
  obtain ⟨α, σd, hd, R, S, q⟩ := q
  have q : PoS X.K Y Wx α H ((f σd hd).bind fun r h => match r with
    | .nx σ' => g σ' h
    | r => .ok r h) D := q
  refine ⟨α, σd, hd, R, S, ?_⟩
  cases e : f σd hd with
  | ok r hd' =>
    rw [e] at q
    cases r with
    | nx σ1 => exact fun α' H' σ' g' R' S' => ⟨α', σ1, hd', R', S', q.from g' R'⟩
    | bk σ1 => exact q
    | ct σ1 => exact q
    | rt w => exact q
    | xc c fs σ1 => exact q
  | ex => rw [e] at q; exact q.elim
  | no => rw [e] at q; exact q.elim
theorem st_for {s : FS} {tg : Tg} {b : FSt} {te iter : Expr} {sts : List Stmt} {pos : Pos} (hp : PassesOwn (model X.prog X.w) X.A X.env X.xe) (hc : X.calm = true) (hi : IOk X te s iter) (hg : PG X te (gT X.K tg)) (hb : PSsT X sts (TSd X.K Y Wx b)) :
    PST X (.For te iter sts [] pos) (TSd X.K Y Wx (sFor s tg b)) := by
  refine PST.weak (lp_for hp hc hi.pi hg hb hi.fold) fun D σ H q => ?_
  obtain ⟨α, σd, hd, R, S, q⟩ := q
  have q : PoS X.K Y Wx α H ((s σd hd).bind fun s h => forS s (turnS tg b) σd h) D := q
  obtain ⟨w0, h0, e0⟩ := q.ok
  obtain ⟨src, hd1, es, e1⟩ := bind_ok_of e0
  rw [es] at q
  refine ⟨α, σd, hd, R, S, ?_⟩
  rw [es]
  intro α1 H1 J g1 R1 ok
  have q : PoS X.K Y Wx α1 H1 (forS src (turnS tg b) σd hd1) D := q.from g1 R1
  obtain ⟨m0, em⟩ := forS_re src (turnS tg b) σd hd1
  rw [em] at q
  have S1 := S.gr R g1
  refine ⟨fun i m σ2 H2 => ∃ α2 σd2 hd2, Gr α1 H1 α2 H2 ∧ Rl X.K α2 hd2 H2 ∧ RelS X.K α2 H2 σd2 σ2 ∧ PoS X.K Y Wx α2 H2 (forRe src.get (turnS tg b) m i σd2 hd2) D,
    ⟨m0, α1, σd, hd1, Gr.refl _ _, R1, S1, q⟩, ?_⟩
  rintro i m σ2 H2 ⟨α2, σd2, hd2, g2, R2, S2, q⟩
  cases m with
  | zero => exact q.elim
  | succ m =>
    simp only [forRe] at q
    obtain ⟨stop, go⟩ := ok i α2 hd2 H2 g2 R2
    cases eg : src.get i hd2 with
    | none => rw [eg] at q; exact q.elim
    | some o =>
      cases o with
      | none =>
        rw [eg] at q
        exact .inl ⟨stop eg, q α2 H2 σ2 (Gr.refl _ _) R2 S2⟩
      | some d =>
        rw [eg] at q
        obtain ⟨go1, go2⟩ := go d eg
        refine .inr ⟨go1, fun σ4 H4 => ∃ α4 σd4 hd4, Gr α1 H1 α4 H4 ∧ Rl X.K α4 hd4 H4 ∧ RelS X.K α4 H4 σd4 σ4 ∧ PoS X.K Y Wx α4 H4 (forRe src.get (turnS tg b) m (i + 1) σd4 hd4) D, fun σ' H' z => ⟨m, Nat.lt_succ_self _, z⟩, fun x H3 y => ?_⟩
        obtain ⟨g3, R3, rd⟩ := go2 x H3 y
        have S3 := S2.gr R2 g3
        have q := q.from g3 R3
        simp only [turnS] at q
        cases ep : tg.put d σd2 with
        | none => rw [ep] at q; exact q.elim
        | some σd3 =>
          rw [ep] at q
          refine ⟨α2, σd2, hd2, d, σd3, R3, S3, rd, ep, fun σ3 S3' _ => ⟨α2, σd3, hd2, R3, S3', ?_⟩⟩
          cases e4 : b σd3 hd2 with
          | ok r hd4 =>
            simp only [e4] at q
            cases r with
            | nx σ5 => exact fun α5 H5 σ5' g5 R5 S5 => ⟨α5, σ5, hd4, (g2.trans g3).trans g5, R5, S5, q.from g5 R5⟩
            | ct σ5 => exact fun α5 H5 σ5' g5 R5 S5 => ⟨α5, σ5, hd4, (g2.trans g3).trans g5, R5, S5, q.from g5 R5⟩
            | bk σ5 => exact q
            | rt w => exact q
            | xc c fs σ' => exact q
          | ex => simp only [e4] at q; exact q.elim
          | no => simp only [e4] at q; exact q.elim
section
variable {M : Model} {A : Around} {E : Value → Shared → Prop} {s0 s : Shared} {ml mc : Str → Option Value} {ev : Env}
theorem keep_loc {y : Str} {u : Value} {Q : Unit → Shared → Prop} (ic : InCallC s0 ev.locals ml ev.cells mc s) (fk : ev.scope.kind = .function) (lk : ev.kindOf y = some .local)
    (go : ∀ t, InCallC s0 ev.locals (fun z => if z = y then some u else ml z) ev.cells mc t → 1 ≤ t.toks → Q () t) : wpAny M A (storeName ev y u) Q E s := by
  have base : wpAny M A (storeName ev y u) (fun _ t => 1 ≤ t.toks) E s := wpAny_storeName_local lk ic.toInCall.ns (fun g _ _ => by
    show 1 ≤ s.toks + 1
    omega) (by rw [fk]; rfl)
  refine wpAny_storeName_local lk ic.toInCall.ns (fun g gn gs => go _ ⟨⟨?_, gn, fun b o eb => ?_, ic.toInCall.fresh⟩, fun z c zc => ?_, ic.apart, ic.above⟩ ?_) (by rw [fk]; rfl)
  · obtain ⟨g1, tk1, rfl⟩ := ic.toInCall.same
    exact ⟨g, _, rfl⟩
  · have lo := Heap.lt_size eb
    have hi := ic.toInCall.fresh
    exact gs.extBut b o (Nat.ne_of_lt (Nat.lt_of_lt_of_le lo hi)) (ic.toInCall.keep b o eb)
  · have ab := ic.above z c (mem_of_lookup zc)
    exact (ic.cell z c zc).sameBut gs (Nat.ne_of_gt ab)
  · show 1 ≤ s.toks + 1
    omega
theorem bind_first (step : Str × Value → PUnit → Sem (ForInStep PUnit)) (hs : ∀ n u w, step (n, u) w = (do storeName ev n u; pure (.yield ⟨⟩))) (fk : ev.scope.kind = .function)
    {y : Str} {u : Value} {rest : List (Str × Value)} {Q : PUnit → Shared → Prop} (ic : InCallC s0 ev.locals ml ev.cells mc s) (lk : ev.kindOf y = some .local)
    (ks : ∀ z ∈ rest, ev.kindOf z.1 = some .local ∨ (ev.kindOf z.1 = some .cell ∧ (ev.cells.lookup z.1).isSome = true))
    (go : ∀ t, InCallC s0 ev.locals (bindL ev.kindOf ((y, u) :: rest) ml) ev.cells (bindC ev.kindOf ((y, u) :: rest) mc) t → 1 ≤ t.toks → Q ⟨⟩ t) : wpAny M A (forIn ((y, u) :: rest) ⟨⟩ step) Q E s := by
  rw [List.forIn_cons, hs]
  refine wpAny_bind (wpAny_bind (keep_loc ic fk lk fun t it kt => wpAny_pure ?_))
  refine PySem.wpAny_with_toks kt (wpAny_bindParams step hs fk rest _ _ t _ it ks fun t2 it2 k2 => go t2 ?_ k2)
  unfold bindL bindC
  rw [if_pos lk, if_pos lk]
  exact it2
theorem env_first {scope : Scope} {globals : Addr} {y : Str} {u : Value} {rest : List (Str × Value)} {qual : Str} {func : Option Addr} {code : Value} {builtins : Addr} {Q : Env → Shared → Prop} (fk : scope.kind = .function)
    (lk : scope.names.lookup y = some .local) (ks : ∀ z ∈ rest, scope.names.lookup z.1 = some .local ∨ (scope.names.lookup z.1 = some .cell ∧ ((cellsFrom (s.heap.objs.size + 1) scope.names []).lookup z.1).isSome = true))
    (go : ∀ e2, e2 = newEnv scope s.heap.objs.size globals (cellsFrom (s.heap.objs.size + 1) scope.names []) qual func code none builtins → ∀ t, InCallC s e2.locals (bindL e2.kindOf ((y, u) :: rest) fun _ => none) e2.cells (bindC e2.kindOf ((y, u) :: rest) fun _ => none) t → 1 ≤ t.toks → Q e2 t) :
    wpAny M A (newFunctionEnv scope globals [] ((y, u) :: rest) qual func code none builtins) Q E s := by
  simp only [newFunctionEnv, Option.isSome_none, Bool.false_eq_true, if_false]
  refine wpAny_bind (wpAny_alloc (wpAny_bind (wpAny_layCells _ (fun nm kd cs => by cases h : kd == NameKind.cell <;> simp [h]) _ _ _ _ ?_)))
  have good := cellsFrom_ok scope.names (s.heap.push { cls := .type "frame", data := .dict #[] }) (s.heap.objs.size + 1) [] ⟨fun _ _ z => (nomatch z), List.Pairwise.nil⟩ (by rw [Heap.size_push]; omega)
  rw [Heap.size_push] at good
  have sz : ({ s with heap := s.heap.push { cls := .type "frame", data := .dict #[] } } : Shared).heap.objs.size = s.heap.objs.size + 1 := Heap.size_push ..
  rw [sz]
  have ic : InCallC s (newEnv scope s.heap.objs.size globals (cellsFrom (s.heap.objs.size + 1) scope.names []) qual func code none builtins).locals (fun _ => none) (newEnv scope s.heap.objs.size globals (cellsFrom (s.heap.objs.size + 1) scope.names []) qual func code none builtins).cells (fun _ => none) ({ s with heap := pushCells (s.heap.push { cls := .type "frame", data := .dict #[] }) scope.names } : Shared) :=
    ⟨⟨⟨_, _, rfl⟩, (Heap.Ns.new s.heap (.type "frame")).keeps (pushCells_keeps _ _), fun b o eb => pushCells_keeps _ _ b o (Heap.get?_push_of_some _ eb), Nat.le_refl _⟩, fun n c z => (good.empty n c (mem_of_lookup z)).1, good.apart, fun n c z => (good.empty n c z).2⟩
  exact wpAny_bind (bind_first _ (fun _ _ _ => rfl) fk ic lk ks fun t it kt => wpAny_pure (go _ rfl t it kt))
end
theorem fn_tok {CX : CXT} {P : Program} {w : World} {K : PySem.W.Frag} {mg : Str → Option Value} {base : Heap} {k : Nat} {fa : Addr} {name qual : Str} {params : Arguments} {body : List Stmt} {scope : Scope} {dV kV doc pm cdv ct oc : Value} {an od : Option Addr}
    {osl : Array (Option Value)} {N : List Str} {p0 : Str} {ps : List Str} {sp : Sp} (inK : K.lookup fa = some ⟨oc, od, .func (PySem.W.fnOf name qual params body scope dV kV doc pm an cdv ct), osl⟩) (cod : PySem.W.codeIn K cdv qual = true) (S : FnScope N (p0 :: ps) scope)
    (first : scope.names.lookup p0 = some .local) (many : ∀ vs H Q E, sp vs H Q E → vs.length = (p0 :: ps).length)
    (says : ∀ (A : Around) (outer : List Env) (s : Shared) (H : Hp) (vs : List V) (Q : VK) (E : XK), Room k (A.deeper (envOfC qual scope s.heap.objs.size fa cdv)) → sp vs H Q E →
      ∃ t, PSsT (cxOf CX P w K mg base N qual scope fa cdv A outer s H E) body t ∧ t { nx := fun _ H' => Q .non H', rt := Q } (L2.start N vs) H) :
    FnOk P w K mg base CX (k + 1) fa (PySem.W.fnOf name qual params body scope dV kV doc pm an cdv ct) (p0 :: ps) sp := by
  refine ⟨many, fun A outer s H args us vs Q E room e0 binds rel promise => ?_⟩
  have cnt := many _ _ _ _ promise
  have inH : K.In s.heap := e0.mod.kin.keeps fun b o z => (e0.bs b o z).1
  have free : s.heap.NoLimit := e0.mod.nolimit.keeps fun b o z => (e0.bs b o z).1
  cases us with
  | nil => have := rel.length; rw [cnt] at this; cases this
  | cons u us =>
    have kinds : ∀ z ∈ ps.zip us, scope.names.lookup z.1 = some .local ∨ (scope.names.lookup z.1 = some .cell ∧ ((cellsFrom (s.heap.objs.size + 1) scope.names []).lookup z.1).isSome = true) := fun z hz => by
      rcases S.par z.1 (List.mem_cons_of_mem _ (List.of_mem_zip (show (z.1, z.2) ∈ ps.zip us from hz)).1) with q | q
      · exact .inl q
      · exact .inr ⟨q, PySem.W.cellsFrom_some _ _ _ (.inl q)⟩
    refine codeAny_call_function room.depth (inH _ _ inK) rfl S.co S.gen rfl (PySem.W.codeRec_of inH cod) (binds _ _ _ _ ?_)
    refine env_first S.kind first kinds fun e2 he s1 ic k1 => ?_
    subst he
    refine ⟨free.keeps ic.toInCall.keep, codeAny_func ?_⟩
    obtain ⟨t, body_ok, start_ok⟩ := says A outer s H vs Q E (room.deeper _) promise
    have I : Inv (cxOf CX P w K mg base N qual scope fa cdv A outer s H E) [] (L2.start N vs) H s1 := inv_start S room.hd e0 cnt rel ic
    refine wpAny_mono (body_ok [] s1 (L2.start N vs) H _ k1 I start_ok) (fun fl s2 z => ?_) fun _ _ z => z
    have ends : ∀ {σ2 : L2.St} {H2 : Hp} {v : V} {u2 : Value}, Inv (cxOf CX P w K mg base N qual scope fa cdv A outer s H E) [] σ2 H2 s2 → RelV v u2 → Q v H2 → CE outer P w H s Q u2 s2 :=
      fun {σ2 H2 v u2} J rv q => ⟨v, H2, J.os, J.bare, J.base, J.hok, rv, q⟩
    cases fl with
    | ret u2 =>
      obtain ⟨v, σ2, H2, J, rv, q⟩ := z
      exact ends J rv q
    | next =>
      obtain ⟨σ2, H2, J, q⟩ := z
      exact ends (v := V.non) (u2 := Value.none) J rfl q
    | brk =>
      obtain ⟨_, _, _, q⟩ := z
      exact q.elim
    | cont =>
      obtain ⟨_, _, _, q⟩ := z
      exact q.elim
end DL
namespace DL
open PySem PySem.Spec PyProof.Rows L2

inductive ZM where
  | val | rng
inductive Ex where
  | var (i : Nat) | non | bl (b : Bool) | int (i : Int) | str (s : List Nat) | glb (g : Nat)
  | tup (es : List Ex) | lst (es : List Ex) | dk | dt
  | bin (op : Operator) (a b : Ex) | neg (a : Ex) | cmp (op : CmpOp) (a b : Ex)
  | and_ (es : List Ex) | or_ (es : List Ex) | not_ (a : Ex) | ite (c a b : Ex)
  | ix (a i : Ex) | sl (a : Ex) (lo hi : Option Ex) | rev (a : Ex) | back (a : Ex)
  | b1 (b : B1) (a : Ex) | b2 (b : B2) (a c : Ex) | isi (t : Ty) (a : Ex)
  | call (f : Nat) (es : List Ex)
  | m0 (m : M0) (o : Ex) | m1 (m : M1) (o a : Ex) | get2 (o a b : Ex) | ins (o a b : Ex)
  | lc (elt : Ex) (tg : Tg) (it : Ex) (c : Option Ex) (own : List Nat)
  | lock (i : Nat) (e : Ex)
  | rng1 (a : Ex) | rng2 (a b : Ex) | dw (m : DW) (a : Ex) | revd (a : Ex) | enum (a : Ex) | gd (g : Nat) (a : Ex)
  | xtup (a : Ex) | xunit | dictX (a : Ex) | dd (ks vs : List Ex)
  | setd (o a b : Ex) | sitems (a : Ex) | lc2 (elt : Ex) (tg : Tg) (it : Ex) (c : Option Ex) (tg1 : Tg) (zm : ZM) (it1 : Ex) (c1 : Option Ex) (own own1 : List Nat)
inductive Xe where
  | e (a : Ex) | call (f : Nat) (xs : List Xe) | tup (xs : List Xe)
inductive RK where
  | val | len | call (f : Nat)
inductive Sm where
  | ex (e : Ex) | set (t : Tg) (e : Ex) | par (is : List Nat) (es : List Ex) | aug (i : Nat) (op : Operator) (e : Ex) | sub (o i e : Ex) | augS (o i : Ex) (op : Operator) (e : Ex)
  | ite (c : Ex) (a b : List Sm) | whl (c : Ex) (b : List Sm) | for_ (t : Tg) (it : Ex) (b : List Sm)
  | ret (e : Ex) | retN | pas | brk | cnt | lock (i : Nat) (s : Sm)
  | delF (o i : Ex)
  | raise (c : Nat) (es : List Ex) | xex (x : Xe) | xset (t : Tg) (x : Xe) | xret (x : Xe) | tryS (b : List Sm) (st : Bool) (hs : List Hn)
  | rep (k : RK) (t : Tg) (a : Ex) (y z : List Nat)
structure Fn where
  np : Nat
  N : List Str
  body : List Sm
structure Den where
  v : FV
  t : FB
  i : FS
def noV : FV := fun _ _ => .no
def noT : FB := fun _ _ => .no
def noS : FS := fun _ _ => .no
def ofV (f : FV) : Den := ⟨f, truthF f, sVal f⟩
def ofB (f : FB) : Den := ⟨blV f, f, sVal (blV f)⟩
def ofS (f : FS) : Den := ⟨noV, noT, f⟩
def vAnds : List Den → FV
  | [] => noV
  | [d] => d.v
  | d :: e :: ds => vAnd d.v (vAnds (e :: ds))
def vOrs : List Den → FV
  | [] => noV
  | [d] => d.v
  | d :: e :: ds => vOr d.v (vOrs (e :: ds))
def tAnds : List Den → FB
  | [] => noT
  | [d] => d.t
  | d :: e :: ds => bAnd d.t (tAnds (e :: ds))
def tOrs : List Den → FB
  | [] => noT
  | [d] => d.t
  | d :: e :: ds => bOr d.t (tOrs (e :: ds))
def mt1F (m : M1) (f g : FV) : FV := match m with
  | .append => v2m isL f (vSet g) (mt1 .append)
  | .extend => v2m isL f g (mt1 .extend)
  | .pop => v2m isL f g (mt1 .pop)
  | .get => v2m isDk f g (mt1 .get)
  | .join => v2m isS f g (mt1 .join)
  | .count => v2m isL (vSet f) g (mt1 .count)
  | .index => v2m isL (vSet f) g (mt1 .index)
def zS (zm : ZM) (f : FV) : FS := match zm with
  | .val => sVal f
  | .rng => sRng1 f
abbrev Cls := Nat → List D → Hd → R W
section
variable (C : Cls) (G : List D)
mutual
def dn : Ex → Den
  | .var i => ofV (vVar i)
  | .non => ofV (vC .non)
  | .bl b => ofV (vC (.bl b))
  | .int i => ofV (vC (.int i))
  | .str s => ofV (vC (.str s))
  | .glb g => ofV (match G[g]? with
    | some d => vC d
    | none => noV)
  | .tup es => ofV (vTup ((dns es).map (·.v)))
  | .lst es => ofV (vLst ((dns es).map (·.v)))
  | .dk => ofV vDk
  | .dt => ofV vDt
  | .bin op a b => ofV (vBin op (dn a).v (dn b).v)
  | .neg a => ofV (vNeg (dn a).v)
  | .cmp op a b => ofB (bCmp op (dn a).v (dn b).v)
  | .and_ es => ⟨vAnds (dns es), tAnds (dns es), sVal (vAnds (dns es))⟩
  | .or_ es => ⟨vOrs (dns es), tOrs (dns es), sVal (vOrs (dns es))⟩
  | .not_ a => ⟨vNot (dn a).v, bNot (dn a).t, noS⟩
  | .ite c a b => ⟨vIf (dn c).t (dn a).v (dn b).v, noT, sVal (vIf (dn c).t (dn a).v (dn b).v)⟩
  | .ix a i => ofV (vIx (dn a).v (dn i).v)
  | .sl a lo hi => ofV (vSl (dn a).v (dno lo) (dno hi))
  | .rev a => ofV (vRev (dn a).v)
  | .back a => ofV (vBack (dn a).v)
  | .b1 b a => ofV (vB1 (bl1 b) (dn a).v)
  | .b2 b a c => ofV (vB2 (bl2 b) (dn a).v (dn c).v)
  | .isi t a => ofV (blV (bIsi t (dn a).v))
  | .call f es => ofV (vCall (C f) [] ((dns es).map (·.v)))
  | .m0 m o => ofV (v1 (dn o).v (mt0 m))
  | .m1 m o a => ofV (mt1F m (dn o).v (dn a).v)
  | .get2 o a b => ofV (v3m isDk (dn o).v (vSet (dn a).v) (vSet (dn b).v) mtGet2)
  | .ins o a b => ofV (v3m isL (dn o).v (dn a).v (vSet (dn b).v) mtIns)
  | .lc elt tg it c own => ofV (vLc (dn it).i tg (dnc c) (dn elt).v own)
  | .lock i e => ofV (lockV i (dn e).v)
  | .rng1 a => ofS (sRng1 (dn a).v)
  | .rng2 a b => ofS (sRng2 (dn a).v (dn b).v)
  | .dw m a => ofS (sDict m (dn a).v)
  | .revd a => ofS (sRev (dn a).v)
  | .enum a => ofS (sEnum (dn a).v)
  | .gd g a => ofV (vGd G[g]? (dn a).v)
  | .xtup a => ofV (vXtup (dn a).v)
  | .xunit => ofV vXunit
  | .dictX a => ofV (vDictX (dn a).v)
  | .dd ks vs => ofV (vDisp (((dns ks).map (·.v)).zip ((dns vs).map (·.v))))
  | .setd o a b => ofV (v3m isDk (dn o).v (vSet (dn a).v) (vSet (dn b).v) mtSetd)
  | .sitems a => ofV (vSi (dn a).v)
  | .lc2 elt tg it c tg1 zm it1 c1 own own1 => ofV (vLc2 (dn it).i tg (dnc c) (zS zm (dn it1).v) tg1 (dnc c1) (dn elt).v own own1)
def dns : List Ex → List Den
  | [] => []
  | e :: es => dn e :: dns es
def dno : Option Ex → Option FV
  | none => none
  | some e => some (dn e).v
def dnc : Option Ex → FB
  | none => fun _ h => .ok true h
  | some e => (dn e).t
end
mutual
def dx : Xe → FV
  | .e a => vNx (dn C G a).v
  | .call f xs => vCall (C f) [] (dxs xs)
  | .tup xs => vTup (dxs xs)
def dxs : List Xe → List FV
  | [] => []
  | x :: xs => dx x :: dxs xs
end
def rkF (k : RK) (f : FV) : FV := match k with
  | .val => f
  | .len => vB1 (bl1 .len) f
  | .call g => vCall (C g) [] [f]
mutual
def sdn : Sm → FSt
  | .ex e => sExpr (dn C G e).v
  | .set t e => sPut t (dn C G e).v
  | .par is es => sPar is ((dns C G es).map (·.v))
  | .aug i op e => sAug i op (dn C G e).v
  | .sub o i e => sSub (dn C G o).v (dn C G i).v (dn C G e).v
  | .augS o i op e => sAugS (dn C G o).v (dn C G i).v op (dn C G e).v
  | .ite c a b => sIf (dn C G c).t (sdns a) (sdns b)
  | .whl c b => sWhile (dn C G c).t (sdns b)
  | .for_ t it b => sFor (dn C G it).i t (sdns b)
  | .ret e => sRet (dn C G e).v
  | .retN => sRetN
  | .pas => sNil
  | .brk => sBrk
  | .cnt => sCnt
  | .lock i s => lockS i (sdn s)
  | .delF o i => sDelF (dn C G o).v (dn C G i).v
  | .raise c es => sRaise c ((dns C G es).map (·.v))
  | .xex x => sXex (dx C G x)
  | .xset t x => sXput t (dx C G x)
  | .xret x => sXret (dx C G x)
  | .tryS b st hs => sTry (sdns b) st hs
  | .rep k t a y z => sPut t (rkF C k (repF (dn C G a).v y z))
def sdns : List Sm → FSt
  | [] => sNil
  | s :: ss => sCons (sdn s) (sdns ss)
end
end
mutual
def D.low (n : Nat) : D → Bool
  | .tup xs => D.lows n xs
  | .ro xs => D.lows n xs
  | .xt xs => D.lows n xs
  | .obj m => decide (m < n)
  | _ => true
def D.lows (n : Nat) : List D → Bool
  | [] => true
  | d :: ds => d.low n && D.lows n ds
end
def O.low (n : Nat) : O → Bool
  | .lst xs => D.lows n xs
  | .dK l => l.all fun p => p.2.low n
  | .dT l => l.all fun p => p.2.low n
  | .lkK l => l.all fun p => p.2.low n
  | .lkT l => l.all fun p => p.2.low n
def Elder (h0 h : Hd) : Prop := ∀ (i : Nat) (o : O), i < h0.length → h[i]? = some o → h0[i]? = some o ∨ o.low h0.length = true
def gcW (n : Nat) (w : W) (h : Hd) : R W := match w with
  | .l xs => if D.lows n xs = true then .ok (.l xs) (h.take n) else .ok w h
  | .v (.obj m) => if m < n then .ok w (h.take n) else match h[m]? with
    | some (.lst xs) => if D.lows n xs = true then .ok (.l xs) (h.take n) else .ok w h
    | some o => if o.low n = true then .ok (.v (.obj n)) (h.take n ++ [o]) else .ok w h
    | none => .ok w h
  | .v d => if d.low n = true then .ok w (h.take n) else .ok w h
open Classical in
noncomputable def gc (h0 : Hd) (r : R W) : R W := match r with
  | .ok w h => if Elder h0 h then gcW h0.length w h else .ok w h
  | .ex c fs h => if Elder h0 h ∧ D.lows h0.length fs = true then .ex c fs (h.take h0.length) else .ex c fs h
  | .no => .no
def endB (r : R Fl) : R W := match r with
  | .ok (.rt w) h => .ok w h
  | .ok (.nx _) h => .ok (.v .non) h
  | .ok (.xc c fs _) h => .ex c fs h
  | _ => .no
def startD (N : List Str) (ds : List D) : Sd := ds.map some ++ List.replicate (N.length - ds.length) none
noncomputable def run (F : List Fn) (G : List D) : Nat → Cls
  | 0, _, _, _ => .no
  | k + 1, f, ds, h => match F[f]? with
    | some fn => if ds.length = fn.np then gc h (endB (sdns (run F G k) G fn.body (startD fn.N ds) h)) else .no
    | none => .no

structure Gam where
  fns : List (Str × Nat)
  cns : List (Str × D)
  blt : List Str
  dks : List (Str × Nat)
  exs : List (Str × List Str)
def visB (sc : Scope) (x : Str) : Bool := match sc.names.lookup x with
  | some .local => true
  | some .cell => true
  | some .free => true
  | _ => false
def locB (sc : Scope) (fn : Str → Bool) (x : Str) : Bool := match sc.names.lookup x with
  | some .local => true
  | some .cell => fn x
  | _ => false
def glB (sc : Scope) (x : Str) : Bool := match sc.names.lookup x with
  | some .globalImplicit => true
  | _ => false
def isVal : Ex → Bool
  | .rng1 _ => false
  | .rng2 _ _ => false
  | .dw _ _ => false
  | .revd _ => false
  | .enum _ => false
  | _ => true
def noTup : Ex → Bool
  | .dw .items _ => false
  | .enum _ => false
  | _ => true
def hasT : Ex → Bool
  | .ite _ _ _ => false
  | .lock _ _ => false
  | .neg _ => false
  | _ => true
def hasI : Ex → Bool
  | .not_ _ => false
  | _ => true
def chkC : Ex → Const → Bool
  | .non, .none => true
  | .bl b, .bool c => b == c
  | .int i, .int j => i == j
  | .str s, .str t => t.cps.toList == s
  | _, _ => false
def B1.nm : B1 → Str
  | .len => "len" | .abs => "abs" | .int => "int" | .str => "str" | .tuple => "tuple" | .list => "list" | .sum => "sum" | .sorted => "sorted" | .bool => "bool" | .ord => "ord" | .chr => "chr" | .any => "any" | .all => "all"
def B1.ok : B1 → Bool
  | .len => true | .abs => true | .int => true | .str => true | .tuple => true | .list => true | .sum => true | .sorted => true | .any => true | .all => true
  | _ => false
def B2.nm : B2 → Str
  | .max => "max" | .min => "min"
def M0.nm : M0 → Str
  | .pop => "pop" | .reverse => "reverse" | .clear => "clear"
def M0.ok : M0 → Bool
  | .clear => false
  | _ => true
def M1.nm : M1 → Str
  | .append => "append" | .extend => "extend" | .pop => "pop" | .get => "get" | .join => "join" | .count => "count" | .index => "index"
def ownOf (N : List Str) (own : List Nat) : List (Str × Nat) := own.map fun i => (N.getD i "", i)
mutual
def chkTg (N : List Str) (sc : Scope) (fn : Str → Bool) : Tg → Expr → Bool
  | .nm i, e => match e with
    | .Name x _ => decide (N[i]? = some x) && locB sc fn x
    | _ => false
  | .tp ts, e => match e with
    | .Tuple es _ _ => chkTgs N sc fn ts es
    | _ => false
def chkTgs (N : List Str) (sc : Scope) (fn : Str → Bool) : List Tg → List Expr → Bool
  | [], es => match es with
    | [] => true
    | _ => false
  | t :: ts, es => match es with
    | [] => false
    | e :: es => plainE e && chkTg N sc fn t e && chkTgs N sc fn ts es
end
def allSome : List (Option Expr) → Option (List Expr)
  | [] => some []
  | some e :: r => (allSome r).map (e :: ·)
  | none :: _ => none
theorem allSome_eq : ∀ {l : List (Option Expr)} {r : List Expr}, allSome l = some r → l = r.map some
  | [], r, h => by cases h; rfl
  | none :: l, r, h => by cases h
  | some e :: l, r, h => by
    simp only [allSome, Option.map_eq_some_iff] at h
    obtain ⟨q, h, rfl⟩ := h
    rw [allSome_eq h]; rfl
def glbOk (Γ : Gam) (sc : Scope) (y x : Str) : Bool := decide (y = x) && glB sc x && decide (x ∈ Γ.blt)
mutual
def chk (Γ : Gam) (N : List Str) (sc : Scope) (fn : Str → Bool) : Ex → Expr → Bool
  | .var i, e => match e with
    | .Name x _ => decide (N[i]? = some x) && visB sc x && !(x == ("__debug__" : Str)) && !(x == ("__classdict__" : Str))
    | _ => false
  | .non, e => match e with
    | .Constant .none _ _ => true
    | _ => false
  | .bl b, e => match e with
    | .Constant (.bool c) _ _ => b == c
    | _ => false
  | .int i, e => match e with
    | .Constant (.int j) _ _ => decide (i = j)
    | _ => false
  | .str s, e => match e with
    | .Constant (.str t) _ _ => decide (t = mkS s)
    | _ => false
  | .glb g, e => match e with
    | .Name x _ => match Γ.cns[g]? with
      | some (y, _) => decide (y = x) && glB sc x && !(x == ("__debug__" : Str))
      | none => false
    | _ => false
  | .tup es, e => match e with
    | .Tuple es' _ _ => chks Γ N sc fn es es'
    | _ => false
  | .lst es, e => match e with
    | .List es' _ => chks Γ N sc fn es es'
    | _ => false
  | .dk, e => match e with
    | .Dict [] [] _ => true
    | _ => false
  | .dt, e => match e with
    | .Dict [] [] _ => true
    | _ => false
  | .bin op a b, e => match e with
    | .BinOp a' op' b' _ => decide (op = op') && isVal a && isVal b && chk Γ N sc fn a a' && chk Γ N sc fn b b'
    | _ => false
  | .neg a, e => match e with
    | .UnaryOp .USub a' _ => isVal a && chk Γ N sc fn a a'
    | _ => false
  | .cmp op a b, e => match e with
    | .Compare a' [op'] [b'] _ => decide (op = op') && isVal a && isVal b && chk Γ N sc fn a a' && chk Γ N sc fn b b'
    | _ => false
  | .and_ es, e => match e with
    | .BoolOp .And es' _ => !es.isEmpty && es.all hasT && chks Γ N sc fn es es'
    | _ => false
  | .or_ es, e => match e with
    | .BoolOp .Or es' _ => !es.isEmpty && es.all hasT && chks Γ N sc fn es es'
    | _ => false
  | .not_ a, e => match e with
    | .UnaryOp .Not a' _ => isVal a && hasT a && chk Γ N sc fn a a'
    | _ => false
  | .ite c a b, e => match e with
    | .IfExp c' a' b' _ => isVal c && hasT c && isVal a && isVal b && chk Γ N sc fn c c' && chk Γ N sc fn a a' && chk Γ N sc fn b b'
    | _ => false
  | .ix a i, e => match e with
    | .Subscript a' i' _ => isVal a && isVal i && notSl i' && chk Γ N sc fn a a' && chk Γ N sc fn i i'
    | _ => false
  | .sl a lo hi, e => match e with
    | .Subscript a' (.Slice lo' hi' none _) _ => isVal a && chk Γ N sc fn a a' && chko Γ N sc fn lo lo' && chko Γ N sc fn hi hi'
    | _ => false
  | .rev a, e => match e with
    | .Subscript a' (.Slice none none (some (.UnaryOp .USub (.Constant (.int 1) _ _) _)) _) _ => isVal a && chk Γ N sc fn a a'
    | _ => false
  | .back a, e => match e with
    | .Subscript a' (.Slice none (some (.Constant (.int 0) _ _)) (some (.UnaryOp .USub (.Constant (.int 1) _ _) _)) _) _ => isVal a && chk Γ N sc fn a a'
    | _ => false
  | .b1 b a, e => match e with
    | .Call (.Name x _) [a'] [] _ => b.ok && glbOk Γ sc b.nm x && isVal a && chk Γ N sc fn a a'
    | _ => false
  | .b2 b a c, e => match e with
    | .Call (.Name x _) [a', c'] [] _ => glbOk Γ sc b.nm x && isVal a && isVal c && chk Γ N sc fn a a' && chk Γ N sc fn c c'
    | _ => false
  | .isi t a, e => match e with
    | .Call (.Name x _) [a', .Name y _] [] _ => glbOk Γ sc "isinstance" x && glbOk Γ sc (Str.ofString t.nm) y && isVal a && chk Γ N sc fn a a'
    | _ => false
  | .call f es, e => match e with
    | .Call (.Name x _) es' [] _ => (match Γ.fns[f]? with
      | some (y, n) => decide (y = x) && decide (es.length = n)
      | none => false) && glB sc x && !(x == ("__debug__" : Str)) && (x != "super") && chks Γ N sc fn es es'
    | _ => false
  | .m0 m o, e => match e with
    | .Call (.Attribute o' x apos) [] [] cpos => m.ok && decide (x = m.nm) && line1 apos cpos && isVal o && chk Γ N sc fn o o'
    | _ => false
  | .m1 m o a, e => match e with
    | .Call (.Attribute o' x apos) [a'] [] cpos => decide (x = m.nm) && line1 apos cpos && isVal o && isVal a && chk Γ N sc fn o o' && chk Γ N sc fn a a'
    | _ => false
  | .get2 o a b, e => match e with
    | .Call (.Attribute o' x apos) [a', b'] [] cpos => decide (x = "get") && line1 apos cpos && isVal o && isVal a && isVal b && chk Γ N sc fn o o' && chk Γ N sc fn a a' && chk Γ N sc fn b b'
    | _ => false
  | .ins o a b, e => match e with
    | .Call (.Attribute o' x apos) [a', b'] [] cpos => decide (x = "insert") && line1 apos cpos && isVal o && isVal a && isVal b && chk Γ N sc fn o o' && chk Γ N sc fn a a' && chk Γ N sc fn b b'
    | _ => false
  | .lc elt tg it c own, e => match e with
    | .ListComp elt' [⟨tg', it', ifs', 0⟩] scope _ => blkC N sc scope (ownOf N own) && (tg.slots.all fun i => decide (i ∈ own)) && hasI it && (noTup it || (match tg' with
        | .Tuple _ _ _ => true
        | _ => false)) && isVal elt && chk Γ N sc fn it it' && chkTg N (relS scope sc) (fun x => scope.names.lookup x == some .cell) tg tg' &&
        chkc Γ N (relS scope sc) (fun x => scope.names.lookup x == some .cell) c ifs' && chk Γ N (relS scope sc) (fun x => scope.names.lookup x == some .cell) elt elt'
    | _ => false
  | .lock i e', e => isVal e' && chk Γ N sc fn e' e
  | .rng1 a, e => match e with
    | .Call (.Name x _) [a'] [] _ => glbOk Γ sc "range" x && isVal a && chk Γ N sc fn a a'
    | _ => false
  | .rng2 a b, e => match e with
    | .Call (.Name x _) [a', b'] [] _ => glbOk Γ sc "range" x && isVal a && isVal b && chk Γ N sc fn a a' && chk Γ N sc fn b b'
    | _ => false
  | .revd a, e => match e with
    | .Call (.Name x _) [a'] [] _ => glbOk Γ sc "reversed" x && isVal a && chk Γ N sc fn a a'
    | _ => false
  | .gd g a, e => match e with
    | .Subscript (.Name x _) a' _ => decide ((x, g) ∈ Γ.dks) && glB sc x && !(x == ("__debug__" : Str)) && isVal a && notSl a' && chk Γ N sc fn a a'
    | _ => false
  | .enum a, e => match e with
    | .Call (.Name x _) [a'] [] _ => glbOk Γ sc "enumerate" x && isVal a && chk Γ N sc fn a a'
    | _ => false
  | .xtup a, e => match e with
    | .Call (.Name x _) [a'] [] _ => glbOk Γ sc "tuple" x && isVal a && chk Γ N sc fn a a'
    | _ => false
  | .xunit, e => match e with
    | .Tuple [] _ _ => true
    | _ => false
  | .dictX a, e => match e with
    | .Call (.Name x _) [a'] [] _ => glbOk Γ sc "dict" x && isVal a && chk Γ N sc fn a a'
    | _ => false
  | .dd ks vs, e => match e with
    | .Dict ks' vs' _ => !ks'.isEmpty && decide (ks'.length ≤ 15) && decide (ks.length = vs.length) && (match allSome ks' with
      | some k2 => chks Γ N sc fn ks k2
      | none => false) && chks Γ N sc fn vs vs'
    | _ => false
  | .setd o a b, e => match e with
    | .Call (.Attribute o' x apos) [a', b'] [] cpos => decide (x = "setdefault") && line1 apos cpos && isVal o && isVal a && isVal b && chk Γ N sc fn o o' && chk Γ N sc fn a a' && chk Γ N sc fn b b'
    | _ => false
  | .sitems a, e => match e with
    | .Call (.Name x _) [.Call (.Attribute o' y apos) [] [] cpos] [] _ => glbOk Γ sc "sorted" x && decide (y = "items") && line1 apos cpos && isVal a && chk Γ N sc fn a o'
    | _ => false
  | .lc2 elt tg it c tg1 zm it1 c1 own own1, e => match e with
    | .ListComp elt' [⟨tg', it', ifs', 0⟩, ⟨tg1', it1', ifs1', 0⟩] scope _ => blkC N sc scope (ownOf N own) && (tg.slots.all fun i => decide (i ∈ own)) && (tg1.slots.all fun i => decide (i ∈ own1)) && (own1.all fun i => decide (i ∈ own)) && hasI it && (noTup it || (match tg' with
        | .Tuple _ _ _ => true
        | _ => false)) && isVal elt && isVal it1 && chk Γ N sc fn it it' && chkTg N (relS scope sc) (fun x => scope.names.lookup x == some .cell) tg tg' &&
        chkc Γ N (relS scope sc) (fun x => scope.names.lookup x == some .cell) c ifs' && (match zm with
        | .val => plainE it1' && chk Γ N (relS scope sc) (fun x => scope.names.lookup x == some .cell) it1 it1'
        | .rng => (match it1' with
          | .Call (.Name x _) [a'] [] _ => glbOk Γ (relS scope sc) "range" x && chk Γ N (relS scope sc) (fun x => scope.names.lookup x == some .cell) it1 a'
          | _ => false)) && chkTg N (relS scope sc) (fun x => scope.names.lookup x == some .cell) tg1 tg1' &&
        chkc Γ N (relS scope sc) (fun x => scope.names.lookup x == some .cell) c1 ifs1' && chk Γ N (relS scope sc) (fun x => scope.names.lookup x == some .cell) elt elt'
    | _ => false
  | .dw m a, e => match m with
    | .keys => isVal a && chk Γ N sc fn a e
    | .vals => match e with
      | .Call (.Attribute o' x apos) [] [] cpos => decide (x = "values") && line1 apos cpos && isVal a && chk Γ N sc fn a o'
      | _ => false
    | .items => match e with
      | .Call (.Attribute o' x apos) [] [] cpos => decide (x = "items") && line1 apos cpos && isVal a && chk Γ N sc fn a o'
      | _ => false
def chks (Γ : Gam) (N : List Str) (sc : Scope) (fn : Str → Bool) : List Ex → List Expr → Bool
  | [], es => match es with
    | [] => true
    | _ => false
  | x :: xs, es => match es with
    | [] => false
    | e :: es => isVal x && chk Γ N sc fn x e && chks Γ N sc fn xs es
def chko (Γ : Gam) (N : List Str) (sc : Scope) (fn : Str → Bool) : Option Ex → Option Expr → Bool
  | none, e => match e with
    | none => true
    | _ => false
  | some x, e => match e with
    | none => false
    | some e => isVal x && chk Γ N sc fn x e
def chkc (Γ : Gam) (N : List Str) (sc : Scope) (fn : Str → Bool) : Option Ex → List Expr → Bool
  | none, es => match es with
    | [] => true
    | _ => false
  | some x, es => match es with
    | [e] => isVal x && hasT x && chk Γ N sc fn x e
    | _ => false
end
def noSwap (tg e : Expr) : Bool := match tg with
  | .Tuple _ _ _ => (match e with
    | .Tuple vs _ _ => vs.all (foldedForSure 8)
    | _ => true)
  | .List _ _ => false
  | _ => true
def fnK (sc : Scope) : Bool := match sc.kind with
  | .function => true
  | _ => false
def isLoc (o : Option NameKind) : Bool := match o with
  | some .local => true
  | _ => false
def swapC (sc : Scope) (y : Str) (pl el : Nat) (scope : Scope) : Bool := fnK sc && isLoc (sc.names.lookup y) && (pl == el) && !(scope.names.any fun (n, k) => n == y && (k == .local || k == .cell))
def setOk (sc : Scope) (tg : Expr) (e : Expr) (lc : Bool) : Bool := match e with
  | .ListComp _ _ scope pos => (match tg with
    | .Name y py => fnK sc && (!(swapC sc y py.line pos.line scope) || lc)
    | .Tuple _ _ _ => true
    | _ => false)
  | e => noComp e
def isLc : Ex → Bool
  | .lc _ _ _ _ _ => true
  | .lc2 _ _ _ _ _ _ _ _ _ _ => true
  | _ => false
mutual
def chkX (Γ : Gam) (N : List Str) (sc : Scope) : Xe → Expr → Bool
  | .e a, e => isVal a && chk Γ N sc (fun _ => true) a e
  | .call f xs, e => match e with
    | .Call (.Name x _) es' [] _ => (match Γ.fns[f]? with
      | some (y, n) => decide (y = x) && decide (xs.length = n)
      | none => false) && glB sc x && !(x == ("__debug__" : Str)) && !es'.isEmpty && chkXs Γ N sc xs es'
    | _ => false
  | .tup xs, e => match e with
    | .Tuple es' _ _ => chkXs Γ N sc xs es'
    | _ => false
def chkXs (Γ : Gam) (N : List Str) (sc : Scope) : List Xe → List Expr → Bool
  | [], es => match es with
    | [] => true
    | _ => false
  | x :: xs, es => match es with
    | [] => false
    | e :: es => chkX Γ N sc x e && chkXs Γ N sc xs es
end
def chkHd (Γ : Gam) (N : List Str) (sc : Scope) (st : Bool) : List Hn → List ExceptHandler → Bool
  | [], hds => hds.isEmpty || st
  | n :: ns, hds => match hds with
    | .ExceptHandler (some (.Name x _)) nm su _ :: r => (match Γ.exs[n.c]? with
      | some (y, fs) => decide (y = x) && chkHs sc N nm fs n.slot n.act su
      | none => false) && glB sc x && !(x == ("__debug__" : Str)) && (match nm, n.slot with
      | none, none => true
      | some m, some i => decide (N[i]? = some m) && locN sc m
      | _, _ => false) && n.act.sml && chkHd Γ N sc st ns r
    | _ => false
mutual
def chkS (Γ : Gam) (N : List Str) (sc : Scope) : Sm → Stmt → Bool
  | .ex e, st => match st with
    | .Expr e' _ => isVal e && noComp e' && chk Γ N sc (fun _ => true) e e'
    | _ => false
  | .set t e, st => match st with
    | .Assign [tg] e' pos => isVal e && chkTg N sc (fun _ => true) t tg && setOk sc tg e' (isLc e) && noSwap tg e' && chk Γ N sc (fun _ => true) e e' && plainE tg
    | _ => false
  | .par is es, st => match st with
    | .Assign [.Tuple [.Name x px, .Name y py] _ _] (.Tuple [a, b] _ _) _ => (match is with
      | [i, j] => decide (N[i]? = some x) && decide (N[j]? = some y) && decide (i ≠ j) && isLoc (sc.names.lookup x) && isLoc (sc.names.lookup y) && (px.line == py.line) && decide (x ≠ y) && fnK sc &&
        !(([a, b] : List Expr).all (foldedForSure 8)) && !(([a, b] : List Expr).all (constantsAlone 8))
      | _ => false) && chks Γ N sc (fun _ => true) es [a, b]
    | _ => false
  | .aug i op e, st => match st with
    | .AugAssign (.Name x _) op' e' _ => decide (N[i]? = some x) && locB sc (fun _ => true) x && decide (op = op') && isVal e && chk Γ N sc (fun _ => true) e e'
    | _ => false
  | .sub o i e, st => match st with
    | .Assign [.Subscript o' i' _] e' _ => isVal o && isVal i && isVal e && notSl i' && noComp e' && chk Γ N sc (fun _ => true) o o' && chk Γ N sc (fun _ => true) i i' && chk Γ N sc (fun _ => true) e e'
    | _ => false
  | .augS o i op e, st => match st with
    | .AugAssign (.Subscript o' i' _) op' e' _ => isVal o && isVal i && isVal e && notSl i' && decide (op = op') && chk Γ N sc (fun _ => true) o o' && chk Γ N sc (fun _ => true) i i' && chk Γ N sc (fun _ => true) e e'
    | _ => false
  | .ite c a b, st => match st with
    | .If c' a' b' _ => isVal c && hasT c && chk Γ N sc (fun _ => true) c c' && chkSs Γ N sc a a' && chkSs Γ N sc b b'
    | _ => false
  | .whl c b, st => match st with
    | .While c' b' [] _ => isVal c && hasT c && chk Γ N sc (fun _ => true) c c' && chkSs Γ N sc b b'
    | _ => false
  | .for_ t it b, st => match st with
    | .For tg it' b' [] _ => hasI it && (noTup it || (match tg with
        | .Tuple _ _ _ => true
        | _ => false)) && chkTg N sc (fun _ => true) t tg && chk Γ N sc (fun _ => true) it it' && chkSs Γ N sc b b'
    | _ => false
  | .ret e, st => match st with
    | .Return (some e') _ => isVal e && chk Γ N sc (fun _ => true) e e'
    | _ => false
  | .retN, st => match st with
    | .Return none _ => true
    | _ => false
  | .pas, st => match st with
    | .Pass _ => true
    | _ => false
  | .brk, st => match st with
    | .Break _ => true
    | _ => false
  | .cnt, st => match st with
    | .Continue _ => true
    | _ => false
  | .lock i s, st => chkS Γ N sc s st
  | .delF o i, st => match st with
    | .Delete [.Subscript o' (.Slice (some i') none none _) _] _ => isVal o && isVal i && chk Γ N sc (fun _ => true) o o' && chk Γ N sc (fun _ => true) i i'
    | _ => false
  | .raise c es, st => match st with
    | .Raise (some (.Call (.Name x _) es' [] _)) none _ => (match Γ.exs[c]? with
      | some (y, ns) => decide (y = x) && decide (es.length = ns.length)
      | none => false) && decide (c ≠ 0) && glB sc x && !(x == ("__debug__" : Str)) && !es'.isEmpty && chks Γ N sc (fun _ => true) es es'
    | _ => false
  | .xex x, st => match st with
    | .Expr e' _ => noComp e' && chkX Γ N sc x e'
    | _ => false
  | .xset t x, st => match st with
    | .Assign [tg] e' pos => chkTg N sc (fun _ => true) t tg && noComp e' && noSwap tg e' && chkX Γ N sc x e' && plainE tg
    | _ => false
  | .xret x, st => match st with
    | .Return (some e') _ => chkX Γ N sc x e'
    | _ => false
  | .tryS b s hs, st => match st with
    | .Try b' hds [] [] _ => !hds.isEmpty && chkSs Γ N sc b b' && chkHd Γ N sc s hs hds
    | _ => false
  | .rep _ _ _ _ _, _ => false
def chkSs (Γ : Gam) (N : List Str) (sc : Scope) : List Sm → List Stmt → Bool
  | [], sts => match sts with
    | [] => true
    | _ => false
  | s :: ss, sts => match sts with
    | [] => false
    | st :: sts => chkS Γ N sc s st && chkSs Γ N sc ss sts
end
def chkR (Γ : Gam) (N : List Str) (sc : Scope) (a : Ex) (y z : List Nat) (e : Expr) : Bool := match e with
  | .Call (.Attribute o x apos) [.Constant (.str y') _ _, .Constant (.str z') _ _] [] pos => decide (x = "replace") && line1 apos pos && decide (y' = mkS y) && decide (z' = mkS z) && !(mkS y == mkS z) && isVal a && chk Γ N sc (fun _ => true) a o
  | _ => false
def chkK (Γ : Gam) (N : List Str) (sc : Scope) (k : RK) (a : Ex) (y z : List Nat) (e : Expr) : Bool := match k with
  | .val => chkR Γ N sc a y z e
  | .len => (match e with
    | .Call (.Name x _) [e'] [] _ => glbOk Γ sc "len" x && chkR Γ N sc a y z e'
    | _ => false)
  | .call f => (match e with
    | .Call (.Name x _) [e'] [] _ => (match Γ.fns[f]? with
      | some (nm, n) => decide (nm = x) && decide (1 = n)
      | none => false) && glB sc x && !(x == ("__debug__" : Str)) && chkR Γ N sc a y z e'
    | _ => false)
mutual
def chkT (Γ : Gam) (N : List Str) (sc : Scope) : Sm → Stmt → Bool
  | .rep k t a y z, st => match st with
    | .Assign [tg] e' pos => chkTg N sc (fun _ => true) t tg && noComp e' && noSwap tg e' && plainE tg && chkK Γ N sc k a y z e'
    | _ => false
  | .ite c a b, st => match st with
    | .If c' a' b' _ => isVal c && hasT c && chk Γ N sc (fun _ => true) c c' && chkTs Γ N sc a a' && chkTs Γ N sc b b'
    | _ => false
  | .for_ t it b, st => match st with
    | .For tg it' b' [] _ => hasI it && (noTup it || (match tg with
        | .Tuple _ _ _ => true
        | _ => false)) && chkTg N sc (fun _ => true) t tg && chk Γ N sc (fun _ => true) it it' && chkTs Γ N sc b b'
    | _ => false
  | s, st => chkS Γ N sc s st
def chkTs (Γ : Gam) (N : List Str) (sc : Scope) : List Sm → List Stmt → Bool
  | [], sts => match sts with
    | [] => true
    | _ => false
  | s :: ss, sts => match sts with
    | [] => false
    | st :: sts => chkT Γ N sc s st && chkTs Γ N sc ss sts
end
def noCell (N : List Str) (sc : Scope) : Bool := match N with
  | x :: _ => isLoc (sc.names.lookup x)
  | [] => false
def chkB (Γ : Gam) (N : List Str) (sc : Scope) (np : Nat) (ss : List Sm) (sts : List Stmt) : Bool := chkSs Γ N sc ss sts || (decide (1 ≤ np) && noCell N sc && chkTs Γ N sc ss sts)
end DL
namespace DL
open PySem PySem.Spec PyProof.Rows L2

structure GOk (Γ : Gam) (Y : Ys) (C : Cls) (G : List D) (k : Nat) (X : Cx) : Prop where
  fns : ∀ (f : Nat) (x : Str) (n : Nat), Γ.fns[f]? = some (x, n) → ∃ (a : Addr) (fd : FuncData) (ps : List Str), X.mg x = some (.ref a) ∧ PySem.W.keepIn X.K (.ref a) = true ∧ Binds X.K fd ps [] ∧ FnOk X.prog X.w X.K X.mg X.base (L2.CX X.prog X.w) (k + 2) a fd ps (spD X.K Y n (C f))
  cns : ∀ (g : Nat) (x : Str) (d : D), Γ.cns[g]? = some (x, d) → G[g]? = some d ∧ ∃ (v : V) (u : Value), X.mg x = some u ∧ RelV v u ∧ ∀ α H, RelD X.K α H d v
  blt : ∀ x ∈ Γ.blt, X.mg x = none
  dks : ∀ (x : Str) (g : Nat), (x, g) ∈ Γ.dks → ∃ kvs, G[g]? = some (.tup kvs) ∧ GdOk X.K X.w X.mg x kvs
  exs : ∀ (c : Nat) (x : Str) (ns : List Str), Γ.exs[c]? = some (x, ns) → ∃ C : Addr, Y[c]? = some (C, ns) ∧ X.mg x = some (.ref C)
  xw : XWorld X.K Y
structure Good (Γ : Gam) (Y : Ys) (N : List Str) (sc : Scope) (fn : Str → Bool) (C : Cls) (G : List D) (k : Nat) (X : Cx) : Prop where
  g : GOk Γ Y C G k X
  N : X.N = N
  nd : X.N.Nodup
  sc : X.env.scope = sc
  fn : X.fn = fn
  calm : X.calm = true
  room : Room (k + 2) X.A
  deep : Deep X
variable {Γ : Gam} {Y : Ys} {N : List Str} {sc : Scope} {fn : Str → Bool} {C : Cls} {G : List D} {k : Nat} {X : Cx}
theorem Good.blk (g : Good Γ Y N sc fn C G k X) (s : Shared) (H : Hp) (scope : Scope) (A : Addr) (cl : List (Str × Addr)) (fp : List Addr) :
    Good Γ Y N (relS scope sc) (fun x => scope.names.lookup x == some .cell) C G k (X.blk s H scope (compEnvC scope cl A X.env) fp) := by
  have e : (compEnvC scope cl A X.env).scope = relS scope X.env.scope := rfl
  exact ⟨⟨g.g.fns, g.g.cns, g.g.blt, g.g.dks, g.g.exs, g.g.xw⟩, g.N, g.nd, by rw [← g.sc]; exact e, rfl, g.calm, g.room, g.deep⟩
theorem Good.gl (g : Good Γ Y N sc fn C G k X) {x : Str} (h : glB sc x = true) : Gl X x := by
  unfold glB at h
  show X.env.scope.names.lookup x = _
  rw [g.sc]
  split at h
  · assumption
  · cases h
theorem Good.vis (g : Good Γ Y N sc fn C G k X) {x : Str} (h : visB sc x = true) : Vis X.env.scope x := by
  unfold visB at h
  rw [g.sc]
  unfold Vis
  split at h
  · exact .inl (by assumption)
  · exact .inr (.inl (by assumption))
  · exact .inr (.inr (by assumption))
  · cases h
theorem Good.loc (g : Good Γ Y N sc fn C G k X) {x : Str} (h : locB sc fn x = true) : L2.Loc X.env.scope x ∧ (X.fn x = true ∨ X.env.scope.names.lookup x = some .local) := by
  unfold locB at h
  rw [g.sc, g.fn]
  unfold L2.Loc
  split at h
  · rename_i e; exact ⟨.inl e, .inr e⟩
  · rename_i e; exact ⟨.inr e, .inl h⟩
  · cases h
theorem Good.bl (g : Good Γ Y N sc fn C G k X) {x y : Str} (h : glbOk Γ sc y x = true) : y = x ∧ Gl X x ∧ X.mg x = none := by
  unfold glbOk at h
  simp only [Bool.and_eq_true, decide_eq_true_eq] at h
  exact ⟨h.1.1, g.gl h.1.2, g.g.blt _ h.2⟩
mutual
theorem chkTg_ok (g : Good Γ Y N sc fn C G k X) : ∀ (t : Tg) (e : Expr), chkTg N sc fn t e = true → TgOk X t e
  | .nm i, e, h => by
    unfold chkTg at h
    split at h
    · simp only [Bool.and_eq_true, decide_eq_true_eq] at h
      obtain ⟨l, f⟩ := g.loc h.2
      exact .nm (pg_name g.nd (by rw [g.N]; exact h.1) l f)
    · cases h
  | .tp ts, e, h => by
    unfold chkTg at h
    split at h
    · obtain ⟨h1, h2, h3⟩ := chkTgs_ok g ts _ h
      exact .tp h1 h2 h3
    · cases h
theorem chkTgs_ok (g : Good Γ Y N sc fn C G k X) : ∀ (t : List Tg) (es : List Expr), chkTgs N sc fn t es = true → PGs X es (gTs X.K t) ∧ (assignEach es X.env).length = t.length ∧ (assignEach es X.env).findIdx? (·.1) = none
  | [], es, h => by
    unfold chkTgs at h
    split at h
    · exact ⟨tgs_nil, rfl, rfl⟩
    · cases h
  | t :: ts, es, h => by
    unfold chkTgs at h
    split at h
    · cases h
    · rename_i e es
      simp only [Bool.and_eq_true] at h
      obtain ⟨h1, h2, h3⟩ := chkTgs_ok g ts es h.2
      have ea : assignEach (e :: es) X.env = (false, assign e X.env) :: assignEach es X.env := by
        have hp := h.1.1
        cases e <;> first | rfl | (cases hp)
      refine ⟨tgs_cons g.calm (chkTg_ok g t e h.1.2) h.1.1 h1, ?_, ?_⟩
      · rw [ea, List.length_cons, List.length_cons, h2]
      · rw [ea, List.findIdx?_cons, h3]
        rfl
end
inductive DsOk (X : Cx) (b : Bool) : List Den → List Expr → Prop
  | nil : DsOk X b [] []
  | cons {d : Den} {ds : List Den} {e : Expr} {es : List Expr} : EOk X d.v e → (b = true → PT X e (TB X.K d.t)) → DsOk X b ds es → DsOk X b (d :: ds) (e :: es)
theorem DsOk.es {b : Bool} : ∀ {ds : List Den} {es : List Expr}, DsOk X b ds es → EsOk X (ds.map (·.v)) es
  | _, _, .nil => .nil
  | _, _, .cons h _ t => .cons h t.es
theorem DsOk.len {b : Bool} : ∀ {ds : List Den} {es : List Expr}, DsOk X b ds es → ds.length = es.length
  | _, _, .nil => rfl
  | _, _, .cons h _ t => by rw [List.length_cons, List.length_cons, t.len]
theorem DsOk.and {pos : Pos} : ∀ {ds : List Den} {es : List Expr}, DsOk X true ds es → es ≠ [] → EOk X (vAnds ds) (.BoolOp .And es pos) ∧ PW X (.BoolOp .And es pos) (TB X.K (tAnds ds))
  | _, _, .nil, h => absurd rfl h
  | _, _, .cons h t .nil, _ => ⟨e_one h, pw_and1 (t rfl)⟩
  | _, _, .cons h t (.cons h' t' r), _ => by
    obtain ⟨i1, i2⟩ := DsOk.and (pos := pos) (.cons h' t' r) (by simp)
    exact ⟨e_and h i1, t_and (t rfl) i2⟩
theorem DsOk.or {pos : Pos} : ∀ {ds : List Den} {es : List Expr}, DsOk X true ds es → es ≠ [] → EOk X (vOrs ds) (.BoolOp .Or es pos) ∧ PW X (.BoolOp .Or es pos) (TB X.K (tOrs ds))
  | _, _, .nil, h => absurd rfl h
  | _, _, .cons h t .nil, _ => ⟨e_one h, pw_or1 (t rfl)⟩
  | _, _, .cons h t (.cons h' t' r), _ => by
    obtain ⟨i1, i2⟩ := DsOk.or (pos := pos) (.cons h' t' r) (by simp)
    exact ⟨e_or h i1, t_or (t rfl) i2⟩
theorem DsOk.pps {b c : Bool} : ∀ {ds es : List Den} {ks vs : List Expr}, DsOk X b ds ks → DsOk X c es vs → ks.length = vs.length → PPsOk X ((ds.map (·.v)).zip (es.map (·.v))) ks vs
  | _, _, _, _, .nil, .nil, _ => .nil
  | _, _, _, _, .cons h _ t, .cons h' _ t', hl => .cons h h' (DsOk.pps t t' (by simpa using hl))
  | _, _, _, _, .nil, .cons _ _ _, hl => by simp at hl
  | _, _, _, _, .cons _ _ _, .nil, hl => by simp at hl
structure DOk (X : Cx) (x : Ex) (d : Den) (e : Expr) : Prop where
  v : isVal x = true → EOk X d.v e
  t : isVal x = true → hasT x = true → PT X e (TB X.K d.t)
  i : hasI x = true → ∀ tg : Expr, (noTup x = true ∨ ∃ es k p, tg = .Tuple es k p) → IOk X tg d.i e
theorem DOk.val {x : Ex} {f : FV} {e : Expr} (h : EOk X f e) (hp : plainT e = true) : DOk X x (ofV f) e := ⟨fun _ => h, fun _ _ => t_val h.pe hp, fun _ _ _ => i_val h⟩
theorem DOk.src {x : Ex} {f : FS} {e : Expr} (hv : isVal x = false) (h : ∀ tg, (noTup x = true ∨ ∃ es k p, tg = .Tuple es k p) → IOk X tg f e) : DOk X x (ofS f) e :=
  ⟨fun z => (by rw [hv] at z; cases z), fun z => (by rw [hv] at z; cases z), fun _ tg ht => h tg ht⟩
theorem b1_ok (g : Good Γ Y N sc fn C G k X) {b : B1} (hb : b.ok = true) {e : Expr} {f : FV} {p pos : Pos} (hg : Gl X b.nm) (hm : X.mg b.nm = none) (he : EOk X f e) : EOk X (vB1 (bl1 b) f) (.Call (.Name b.nm p) [e] [] pos) := by
  cases b with
  | len => exact e_callB c_len hg hm (by decide +kernel) (by decide) (by decide) he
  | abs => exact e_callB c_abs hg hm (by decide +kernel) (by decide) (by decide) he
  | int => exact e_callT c_int hg hm (by decide +kernel) (by decide) (by decide) he
  | str => exact e_callT c_str hg hm (by decide +kernel) (by decide) (by decide) he
  | tuple => exact e_callT c_tuple hg hm (by decide +kernel) (by decide) (by decide) he
  | list => exact e_callT c_list hg hm (by decide +kernel) (by decide) (by decide) he
  | sum => exact e_callB (c_sum g.calm) hg hm (by decide +kernel) (by decide) (by decide) he
  | sorted => exact e_callB (c_sorted g.deep) hg hm (by decide +kernel) (by decide) (by decide) he
  | any => exact e_callB (c_any g.calm) hg hm (by decide +kernel) (by decide) (by decide) he
  | all => exact e_callB (c_all g.calm) hg hm (by decide +kernel) (by decide) (by decide) he
  | _ => cases hb
theorem b2_ok (g : Good Γ Y N sc fn C G k X) {b : B2} {e e' : Expr} {f f' : FV} {p pos : Pos} (hg : Gl X b.nm) (hm : X.mg b.nm = none) (he : EOk X f e) (he' : EOk X f' e') : EOk X (vB2 (bl2 b) f f') (.Call (.Name b.nm p) [e, e'] [] pos) := by
  cases b with
  | max => exact e_callB2 (c_max g.calm) hg hm (by decide +kernel) (by decide) (by decide) he he'
  | min => exact e_callB2 (c_min g.calm) hg hm (by decide +kernel) (by decide) (by decide) he he'
theorem m1_ok (g : Good Γ Y N sc fn C G k X) {m : M1} {o e : Expr} {f f' : FV} {apos cpos : Pos} (ho : EOk X f o) (he : EOk X f' e) (hl : line1 apos cpos = true) : EOk X (mt1F m f f') (.Call (.Attribute o m.nm apos) [e] [] cpos) := by
  cases m with
  | append => exact e_append ho he hl
  | extend => exact e_extend ho he hl
  | pop => exact e_popAt ho he hl
  | get => exact e_get1 g.deep ho he hl
  | join => exact e_join ho he hl
  | count => exact e_count g.deep ho he hl
  | index => exact e_index g.deep ho he hl
theorem call_ok (g : Good Γ Y N sc fn C G k X) {f : Nat} {x : Str} {n : Nat} {ds : List Den} {b : Bool} {es : List Expr} {p pos : Pos} (hf : Γ.fns[f]? = some (x, n)) (hn : ds.length = n) (hg : Gl X x) (hdb : (x == ("__debug__" : Str)) = false) (hs : (x != "super") = true) (h : DsOk X b ds es) :
    EOk X (vCall (C f) [] (ds.map (·.v))) (.Call (.Name x p) es [] pos) := by
  obtain ⟨a, fd, ps, hm, hk, hb, F⟩ := g.g.fns f x n hf
  cases h with
  | nil => exact e_call0 F g.room hg hm hk hb .nil (fun _ _ => rfl) hn hdb hs
  | cons h t r => exact e_call F g.room hg hm hk hb .nil (fun _ _ => rfl) (by rw [List.length_map]; exact hn) hdb (DsOk.es (b := b) (.cons h t r))

theorem dns_len : ∀ xs : List Ex, (dns C G xs).length = xs.length
  | [] => rfl
  | x :: xs => by show (dns C G xs).length + 1 = _; rw [dns_len xs]; rfl
mutual
theorem chk_ok : ∀ (x : Ex) (e : Expr) {sc : Scope} {fn : Str → Bool} {X : Cx}, Good Γ Y N sc fn C G k X → chk Γ N sc fn x e = true → DOk X x (dn C G x) e
  | .var i, e, sc, fn, X, g, h => by
    unfold chk at h
    split at h
    · simp only [Bool.and_eq_true, decide_eq_true_eq, Bool.not_eq_true'] at h
      exact .val (e_var (by rw [g.N]; exact h.1.1.1) (g.vis h.1.1.2) h.1.2 h.2) rfl
    · cases h
  | .non, e, sc, fn, X, g, h => by
    unfold chk at h
    split at h
    · exact .val e_non rfl
    · cases h
  | .bl b, e, sc, fn, X, g, h => by
    unfold chk at h
    split at h
    · have := eq_of_beq h
      subst this
      exact .val e_bl rfl
    · cases h
  | .int i, e, sc, fn, X, g, h => by
    unfold chk at h
    split at h
    · have := of_decide_eq_true h
      subst this
      exact .val e_int rfl
    · cases h
  | .str s, e, sc, fn, X, g, h => by
    unfold chk at h
    split at h
    · have := of_decide_eq_true h
      subst this
      exact .val e_str rfl
    · cases h
  | .glb i, e, sc, fn, X, g, h => by
    unfold chk at h
    split at h
    · split at h
      · rename_i y d hy
        simp only [Bool.and_eq_true, decide_eq_true_eq, Bool.not_eq_true'] at h
        obtain ⟨⟨rfl, h2⟩, h3⟩ := h
        obtain ⟨e1, v, u, hm, r, rd⟩ := g.g.cns i y d hy
        show DOk X _ (ofV (match G[i]? with
          | some d => vC d
          | none => noV)) _
        rw [e1]
        exact .val (e_glb (g.gl h2) hm r rd h3) rfl
      · cases h
    · cases h
  | .tup es, e, sc, fn, X, g, h => by
    unfold chk at h
    split at h
    · exact .val (e_tup (chks_ok es _ (b := false) g (by simp) h).es) rfl
    · cases h
  | .lst es, e, sc, fn, X, g, h => by
    unfold chk at h
    split at h
    · exact .val (e_lst (chks_ok es _ (b := false) g (by simp) h).es) rfl
    · cases h
  | .dk, e, sc, fn, X, g, h => by
    unfold chk at h
    split at h
    · exact .val e_dk rfl
    · cases h
  | .dt, e, sc, fn, X, g, h => by
    unfold chk at h
    split at h
    · exact .val e_dt rfl
    · cases h
  | .bin op a b, e, sc, fn, X, g, h => by
    unfold chk at h
    split at h
    · simp only [Bool.and_eq_true, decide_eq_true_eq] at h
      obtain ⟨⟨⟨⟨rfl, v1⟩, v2⟩, h1⟩, h2⟩ := h
      exact .val (e_bin ((chk_ok a _ g h1).v v1) ((chk_ok b _ g h2).v v2)) rfl
    · cases h
  | .neg a, e, sc, fn, X, g, h => by
    unfold chk at h
    split at h
    · simp only [Bool.and_eq_true] at h
      have he := e_neg (pos := by assumption) ((chk_ok a _ g h.2).v h.1)
      exact ⟨fun _ => he, fun _ z => (by cases z), fun _ _ _ => i_val he⟩
    · cases h
  | .cmp op a b, e, sc, fn, X, g, h => by
    unfold chk at h
    split at h
    · simp only [Bool.and_eq_true, decide_eq_true_eq] at h
      obtain ⟨⟨⟨⟨rfl, v1⟩, v2⟩, h1⟩, h2⟩ := h
      have ha := (chk_ok a _ g h1).v v1
      have hb := (chk_ok b _ g h2).v v2
      exact ⟨fun _ => e_cmp g.deep ha hb, fun _ _ => t_cmp g.deep ha hb, fun _ _ _ => i_val (e_cmp g.deep ha hb)⟩
    · cases h
  | .and_ es, e, sc, fn, X, g, h => by
    unfold chk at h
    split at h
    · rename_i es' pos
      simp only [Bool.and_eq_true, Bool.not_eq_true'] at h
      have hd := chks_ok es _ (b := true) g (fun _ => h.1.2) h.2
      have hn : es' ≠ [] := fun z => by
        have hl := hd.len
        rw [z] at hl
        have : es = [] := by
          cases es with
          | nil => rfl
          | cons _ _ => cases hl
        rw [this] at h
        cases h.1.1
      obtain ⟨i1, i2⟩ := hd.and (pos := pos) hn
      exact ⟨fun _ => i1, fun _ _ => i2.pt, fun _ _ _ => i_val i1⟩
    · cases h
  | .or_ es, e, sc, fn, X, g, h => by
    unfold chk at h
    split at h
    · rename_i es' pos
      simp only [Bool.and_eq_true, Bool.not_eq_true'] at h
      have hd := chks_ok es _ (b := true) g (fun _ => h.1.2) h.2
      have hn : es' ≠ [] := fun z => by
        have hl := hd.len
        rw [z] at hl
        have : es = [] := by
          cases es with
          | nil => rfl
          | cons _ _ => cases hl
        rw [this] at h
        cases h.1.1
      obtain ⟨i1, i2⟩ := hd.or (pos := pos) hn
      exact ⟨fun _ => i1, fun _ _ => i2.pt, fun _ _ _ => i_val i1⟩
    · cases h
  | .not_ a, e, sc, fn, X, g, h => by
    unfold chk at h
    split at h
    · simp only [Bool.and_eq_true] at h
      have ha := chk_ok a _ g h.2
      exact ⟨fun _ => e_not (ha.v h.1.1), fun _ _ => t_not (ha.t h.1.1 h.1.2), fun z => (by cases z)⟩
    · cases h
  | .ite c a b, e, sc, fn, X, g, h => by
    unfold chk at h
    split at h
    · simp only [Bool.and_eq_true] at h
      obtain ⟨⟨⟨⟨⟨⟨v1, t1⟩, v2⟩, v3⟩, h1⟩, h2⟩, h3⟩ := h
      have he := fun pos => e_if (pos := pos) ((chk_ok c _ g h1).t v1 t1) ((chk_ok a _ g h2).v v2) ((chk_ok b _ g h3).v v3)
      exact ⟨fun _ => he _, fun _ z => (by cases z), fun _ _ _ => i_val (he _)⟩
    · cases h
  | .ix a i, e, sc, fn, X, g, h => by
    unfold chk at h
    split at h
    · simp only [Bool.and_eq_true] at h
      obtain ⟨⟨⟨⟨v1, v2⟩, s⟩, h1⟩, h2⟩ := h
      exact .val (e_ix g.deep ((chk_ok a _ g h1).v v1) ((chk_ok i _ g h2).v v2) (plainIx_of s)) rfl
    · cases h
  | .sl a lo hi, e, sc, fn, X, g, h => by
    unfold chk at h
    split at h
    · simp only [Bool.and_eq_true] at h
      obtain ⟨⟨⟨v1, h1⟩, h2⟩, h3⟩ := h
      exact .val (e_sl ((chk_ok a _ g h1).v v1) (chko_ok lo _ g h2) (chko_ok hi _ g h3)) rfl
    · cases h
  | .rev a, e, sc, fn, X, g, h => by
    unfold chk at h
    split at h
    · simp only [Bool.and_eq_true] at h
      exact .val (e_rev ((chk_ok a _ g h.2).v h.1)) rfl
    · cases h
  | .back a, e, sc, fn, X, g, h => by
    unfold chk at h
    split at h
    · simp only [Bool.and_eq_true] at h
      exact .val (e_back ((chk_ok a _ g h.2).v h.1)) rfl
    · cases h
  | .b1 b a, e, sc, fn, X, g, h => by
    unfold chk at h
    split at h
    · simp only [Bool.and_eq_true] at h
      obtain ⟨⟨⟨hb, hg⟩, v1⟩, h1⟩ := h
      obtain ⟨rfl, hg, hm⟩ := g.bl hg
      exact .val (b1_ok g hb hg hm ((chk_ok a _ g h1).v v1)) rfl
    · cases h
  | .b2 b a c, e, sc, fn, X, g, h => by
    unfold chk at h
    split at h
    · simp only [Bool.and_eq_true] at h
      obtain ⟨⟨⟨⟨hg, v1⟩, v2⟩, h1⟩, h2⟩ := h
      obtain ⟨rfl, hg, hm⟩ := g.bl hg
      exact .val (b2_ok g hg hm ((chk_ok a _ g h1).v v1) ((chk_ok c _ g h2).v v2)) rfl
    · cases h
  | .isi t a, e, sc, fn, X, g, h => by
    unfold chk at h
    split at h
    · simp only [Bool.and_eq_true] at h
      obtain ⟨⟨⟨hg, hg2⟩, v1⟩, h1⟩ := h
      obtain ⟨e1, hg, hm⟩ := g.bl hg
      obtain ⟨e2, hg2, hm2⟩ := g.bl hg2
      subst e1
      subst e2
      exact .val (e_isi hg hm hg2 hm2 ((chk_ok a _ g h1).v v1)) rfl
    · cases h
  | .call f es, e, sc, fn, X, g, h => by
    unfold chk at h
    split at h
    · simp only [Bool.and_eq_true, Bool.not_eq_true'] at h
      obtain ⟨⟨⟨⟨hf, hg⟩, hdb⟩, hs⟩, h1⟩ := h
      split at hf
      · rename_i y n hy
        simp only [Bool.and_eq_true, decide_eq_true_eq] at hf
        obtain ⟨rfl, hl⟩ := hf
        refine .val (call_ok g hy ?_ (g.gl hg) hdb hs (chks_ok es _ (b := false) g (by simp) h1)) rfl
        rw [dns_len]
        exact hl
      · cases hf
    · cases h
  | .m0 m o, e, sc, fn, X, g, h => by
    unfold chk at h
    split at h
    · simp only [Bool.and_eq_true, decide_eq_true_eq] at h
      obtain ⟨⟨⟨⟨hm, rfl⟩, hl⟩, v1⟩, h1⟩ := h
      have ho := (chk_ok o _ g h1).v v1
      cases m with
      | pop => exact .val (e_pop0 ho hl) rfl
      | reverse => exact .val (e_reverse ho hl) rfl
      | clear => cases hm
    · cases h
  | .m1 m o a, e, sc, fn, X, g, h => by
    unfold chk at h
    split at h
    · simp only [Bool.and_eq_true, decide_eq_true_eq] at h
      obtain ⟨⟨⟨⟨⟨rfl, hl⟩, v1⟩, v2⟩, h1⟩, h2⟩ := h
      exact .val (m1_ok g ((chk_ok o _ g h1).v v1) ((chk_ok a _ g h2).v v2) hl) rfl
    · cases h
  | .get2 o a b, e, sc, fn, X, g, h => by
    unfold chk at h
    split at h
    · simp only [Bool.and_eq_true, decide_eq_true_eq] at h
      obtain ⟨⟨⟨⟨⟨⟨⟨rfl, hl⟩, v1⟩, v2⟩, v3⟩, h1⟩, h2⟩, h3⟩ := h
      exact .val (e_get2 g.deep ((chk_ok o _ g h1).v v1) ((chk_ok a _ g h2).v v2) ((chk_ok b _ g h3).v v3) hl) rfl
    · cases h
  | .ins o a b, e, sc, fn, X, g, h => by
    unfold chk at h
    split at h
    · simp only [Bool.and_eq_true, decide_eq_true_eq] at h
      obtain ⟨⟨⟨⟨⟨⟨⟨rfl, hl⟩, v1⟩, v2⟩, v3⟩, h1⟩, h2⟩, h3⟩ := h
      exact .val (e_insert ((chk_ok o _ g h1).v v1) ((chk_ok a _ g h2).v v2) ((chk_ok b _ g h3).v v3) hl) rfl
    · cases h
  | .lc elt tg it c own, e, sc, fn, X, g, h => by
    unfold chk at h
    split at h
    · rename_i elt' tg' it' ifs' scope pos
      simp only [Bool.and_eq_true] at h
      obtain ⟨⟨⟨⟨⟨⟨⟨⟨hb, hsl⟩, hi⟩, hn⟩, hv⟩, h1⟩, h2⟩, h3⟩, h4⟩ := h
      have hN : X.N = N := g.N
      have ow : (ownOf N own).map (·.2) = own := by unfold ownOf; rw [List.map_map]; exact (List.map_congr_left fun _ _ => rfl).trans (List.map_id own)
      have hn : noTup it = true ∨ ∃ es k p, tg' = .Tuple es k p := by
        rw [Bool.or_eq_true] at hn
        rcases hn with hn | hn
        · exact .inl hn
        · right
          split at hn
          · exact ⟨_, _, _, rfl⟩
          · cases hn
      have q := e_lc (pos := pos) (own := ownOf N own) g.calm g.nd ((chk_ok it it' g h1).i hi tg' hn) (by rw [hN, g.sc]; exact blkOk_by hb)
        (fun s H C cl fp => tg_ok (by exact g.calm) (chkTg_ok (g.blk s H scope C cl fp) tg tg' h2))
        (fun s H C cl fp => chkc_ok c ifs' (g.blk s H scope C cl fp) h3)
        (fun s H C cl fp => (chk_ok elt elt' (g.blk s H scope C cl fp) h4).v hv)
        (by rw [ow]; exact fun i hi => of_decide_eq_true (List.all_eq_true.mp hsl i hi))
      rw [ow] at q
      exact .val q rfl
    · cases h
  | .lock i e', e, sc, fn, X, g, h => by
    unfold chk at h
    rw [Bool.and_eq_true] at h
    have he := e_lock (i := i) ((chk_ok e' e g h.2).v h.1)
    exact ⟨fun _ => he, fun _ z => (by cases z), fun _ _ _ => i_val he⟩
  | .rng1 a, e, sc, fn, X, g, h => by
    unfold chk at h
    split at h
    · simp only [Bool.and_eq_true] at h
      obtain ⟨⟨hg, v1⟩, h1⟩ := h
      obtain ⟨e1, hg, hm⟩ := g.bl hg
      subst e1
      exact .src rfl fun tg _ => i_rng1 hg hm ((chk_ok a _ g h1).v v1)
    · cases h
  | .rng2 a b, e, sc, fn, X, g, h => by
    unfold chk at h
    split at h
    · simp only [Bool.and_eq_true] at h
      obtain ⟨⟨⟨⟨hg, v1⟩, v2⟩, h1⟩, h2⟩ := h
      obtain ⟨e1, hg, hm⟩ := g.bl hg
      subst e1
      exact .src rfl fun tg _ => i_rng2 hg hm ((chk_ok a _ g h1).v v1) ((chk_ok b _ g h2).v v2)
    · cases h
  | .revd a, e, sc, fn, X, g, h => by
    unfold chk at h
    split at h
    · simp only [Bool.and_eq_true] at h
      obtain ⟨⟨hg, v1⟩, h1⟩ := h
      obtain ⟨e1, hg, hm⟩ := g.bl hg
      subst e1
      exact .src rfl fun tg _ => i_rev hg hm ((chk_ok a _ g h1).v v1)
    · cases h
  | .gd i a, e, sc, fn, X, g, h => by
    unfold chk at h
    split at h
    · simp only [Bool.and_eq_true, decide_eq_true_eq, Bool.not_eq_true'] at h
      obtain ⟨⟨⟨⟨⟨hm, hg⟩, hd⟩, v1⟩, s⟩, h1⟩ := h
      obtain ⟨kvs, e1, hk⟩ := g.g.dks _ _ hm
      show DOk X _ (ofV (vGd G[i]? (dn C G a).v)) _
      rw [e1]
      exact .val (e_gd (g.gl hg) hk hd ((chk_ok a _ g h1).v v1) (plainIx_of s)) rfl
    · cases h
  | .enum a, e, sc, fn, X, g, h => by
    unfold chk at h
    split at h
    · simp only [Bool.and_eq_true] at h
      obtain ⟨⟨hg, v1⟩, h1⟩ := h
      obtain ⟨e1, hg, hm⟩ := g.bl hg
      subst e1
      refine .src rfl fun tg hn => ?_
      rcases hn with q | ⟨es, k, p, rfl⟩
      · cases q
      · exact i_enum hg hm ((chk_ok a _ g h1).v v1)
    · cases h
  | .xtup a, e, sc, fn, X, g, h => by
    unfold chk at h
    split at h
    · simp only [Bool.and_eq_true] at h
      obtain ⟨⟨hg, v1⟩, h1⟩ := h
      obtain ⟨e1, hg, hm⟩ := g.bl hg
      subst e1
      exact .val (e_xtup hg hm ((chk_ok a _ g h1).v v1)) rfl
    · cases h
  | .xunit, e, sc, fn, X, g, h => by
    unfold chk at h
    split at h
    · exact .val e_xunit rfl
    · cases h
  | .dictX a, e, sc, fn, X, g, h => by
    unfold chk at h
    split at h
    · simp only [Bool.and_eq_true] at h
      obtain ⟨⟨hg, v1⟩, h1⟩ := h
      obtain ⟨e1, hg, hm⟩ := g.bl hg
      subst e1
      exact .val (e_dictX g.calm hg hm ((chk_ok a _ g h1).v v1)) rfl
    · cases h
  | .dd ks vs, e, sc, fn, X, g, h => by
    unfold chk at h
    split at h
    · rename_i ks' vs' pos
      simp only [Bool.and_eq_true, decide_eq_true_eq, Bool.not_eq_true'] at h
      obtain ⟨⟨⟨⟨h0, h15⟩, hl⟩, hk⟩, hv⟩ := h
      split at hk
      · rename_i k2 ek
        have e1 := allSome_eq ek
        subst e1
        have dk := chks_ok ks k2 (b := false) g (by simp) hk
        have dv := chks_ok vs vs' (b := false) g (by simp) hv
        refine .val (e_disp (DsOk.pps dk dv ?_) ?_ (by simpa using h15)) rfl
        · rw [← dk.len, ← dv.len, dns_len, dns_len]; exact hl
        · intro z
          rw [z] at h0
          cases h0
      · cases hk
    · cases h
  | .setd o a b, e, sc, fn, X, g, h => by
    unfold chk at h
    split at h
    · simp only [Bool.and_eq_true, decide_eq_true_eq] at h
      obtain ⟨⟨⟨⟨⟨⟨⟨rfl, hl⟩, v1⟩, v2⟩, v3⟩, h1⟩, h2⟩, h3⟩ := h
      exact .val (e_setd g.deep ((chk_ok o _ g h1).v v1) ((chk_ok a _ g h2).v v2) ((chk_ok b _ g h3).v v3) hl) rfl
    · cases h
  | .sitems a, e, sc, fn, X, g, h => by
    unfold chk at h
    split at h
    · simp only [Bool.and_eq_true, decide_eq_true_eq] at h
      obtain ⟨⟨⟨⟨hg, rfl⟩, hl⟩, v1⟩, h1⟩ := h
      obtain ⟨e1, hg, hm⟩ := g.bl hg
      subst e1
      exact .val (e_sortI g.calm g.deep hg hm (by decide +kernel) (by decide) (by decide) ((chk_ok a _ g h1).v v1) hl) rfl
    · cases h
  | .lc2 elt tg it c tg1 zm it1 c1 own own1, e, sc, fn, X, g, h => by
    unfold chk at h
    split at h
    · rename_i elt' tg' it' ifs' tg1' it1' ifs1' scope pos
      simp only [Bool.and_eq_true] at h
      obtain ⟨⟨⟨⟨⟨⟨⟨⟨⟨⟨⟨⟨⟨⟨hb, hsl⟩, hsl1⟩, hoo⟩, hi⟩, hn⟩, hv⟩, hv1⟩, h1⟩, h2⟩, h3⟩, h5⟩, h6⟩, h7⟩, h4⟩ := h
      have hN : X.N = N := g.N
      have ow : (ownOf N own).map (·.2) = own := by unfold ownOf; rw [List.map_map]; exact (List.map_congr_left fun _ _ => rfl).trans (List.map_id own)
      have hn : noTup it = true ∨ ∃ es k p, tg' = .Tuple es k p := by
        rw [Bool.or_eq_true] at hn
        rcases hn with hn | hn
        · exact .inl hn
        · right
          split at hn
          · exact ⟨_, _, _, rfl⟩
          · cases hn
      have inner : (∀ (s : Shared) (H : Hp) (A : Addr) (cl : List (Str × Addr)) (fp : List Addr), PI (X.blk s H scope (compEnvC scope cl A X.env) fp) tg1' it1' (TIz X.K (zS zm (dn C G it1).v))) ∧ ∀ (env : Env) (x : Value), foldedSetIterable it1' env x = pure x := by
        cases zm with
        | val =>
          simp only [Bool.and_eq_true] at h5
          exact ⟨fun s H A cl fp => z_val ((chk_ok it1 it1' (g.blk s H scope A cl fp) h5.2).v hv1), fun env x => folded_no h5.1 env x⟩
        | rng =>
          simp only at h5
          split at h5
          · rename_i x0 p0 a' p1
            rw [Bool.and_eq_true] at h5
            refine ⟨fun s H A cl fp => ?_, fun env x => rfl⟩
            have g' := g.blk s H scope A cl fp
            obtain ⟨e1, hg, hm⟩ := g'.bl h5.1
            subst e1
            exact z_rng1 hg hm ((chk_ok it1 a' g' h5.2).v hv1)
          · cases h5
      have q := e_lc2 (pos := pos) (own := ownOf N own) (own1 := own1) g.calm g.nd ((chk_ok it it' g h1).i hi tg' hn) (by rw [hN, g.sc]; exact blkOk_by hb) (by rw [ow]; exact fun i hi => of_decide_eq_true (List.all_eq_true.mp hoo i hi))
        (fun s H C cl fp => tg_ok (by exact g.calm) (chkTg_ok (g.blk s H scope C cl fp) tg tg' h2))
        (fun s H C cl fp => chkc_ok c ifs' (g.blk s H scope C cl fp) h3)
        inner.1
        (fun s H C cl fp => tg_ok (by exact g.calm) (chkTg_ok (g.blk s H scope C cl fp) tg1 tg1' h6))
        (fun s H C cl fp => chkc_ok c1 ifs1' (g.blk s H scope C cl fp) h7)
        (fun s H C cl fp => (chk_ok elt elt' (g.blk s H scope C cl fp) h4).v hv)
        (by rw [ow]; exact fun i hi => of_decide_eq_true (List.all_eq_true.mp hsl i hi))
        (fun i hi => of_decide_eq_true (List.all_eq_true.mp hsl1 i hi)) inner.2
      rw [ow] at q
      exact .val q rfl
    · cases h
  | .dw m a, e, sc, fn, X, g, h => by
    unfold chk at h
    cases m with
    | keys =>
      simp only [Bool.and_eq_true] at h
      exact .src rfl fun tg _ => i_keys ((chk_ok a _ g h.2).v h.1)
    | vals =>
      simp only at h
      split at h
      · simp only [Bool.and_eq_true, decide_eq_true_eq] at h
        obtain ⟨⟨⟨rfl, hl⟩, v1⟩, h1⟩ := h
        exact .src rfl fun tg _ => i_values ((chk_ok a _ g h1).v v1) hl
      · cases h
    | items =>
      simp only at h
      split at h
      · simp only [Bool.and_eq_true, decide_eq_true_eq] at h
        obtain ⟨⟨⟨rfl, hl⟩, v1⟩, h1⟩ := h
        refine .src rfl fun tg ht => ?_
        rcases ht with ht | ⟨es, kk, p, rfl⟩
        · cases ht
        · exact i_items ((chk_ok a _ g h1).v v1) hl
      · cases h
theorem chks_ok : ∀ (xs : List Ex) (es : List Expr) {sc : Scope} {fn : Str → Bool} {X : Cx} {b : Bool}, Good Γ Y N sc fn C G k X → (b = true → xs.all hasT = true) → chks Γ N sc fn xs es = true → DsOk X b (dns C G xs) es
  | [], es, sc, fn, X, b, g, hb, h => by
    unfold chks at h
    split at h
    · exact .nil
    · cases h
  | x :: xs, es, sc, fn, X, b, g, hb, h => by
    unfold chks at h
    split at h
    · cases h
    · simp only [Bool.and_eq_true] at h
      have hx := chk_ok x _ g h.1.2
      exact .cons (hx.v h.1.1) (fun z => hx.t h.1.1 (by
        have := hb z
        rw [List.all_cons, Bool.and_eq_true] at this
        exact this.1)) (chks_ok xs _ g (fun z => by
        have := hb z
        rw [List.all_cons, Bool.and_eq_true] at this
        exact this.2) h.2)
theorem chko_ok : ∀ (x : Option Ex) (e : Option Expr) {sc : Scope} {fn : Str → Bool} {X : Cx}, Good Γ Y N sc fn C G k X → chko Γ N sc fn x e = true → POk X (dno C G x) e
  | none, e, sc, fn, X, g, h => by
    unfold chko at h
    split at h
    · exact .none
    · cases h
  | some x, e, sc, fn, X, g, h => by
    unfold chko at h
    split at h
    · cases h
    · simp only [Bool.and_eq_true] at h
      exact .some ((chk_ok x _ g h.2).v h.1)
theorem chkc_ok : ∀ (x : Option Ex) (e : List Expr) {sc : Scope} {fn : Str → Bool} {X : Cx}, Good Γ Y N sc fn C G k X → chkc Γ N sc fn x e = true → PTs X e (TB X.K (dnc C G x))
  | none, e, sc, fn, X, g, h => by
    unfold chkc at h
    split at h
    · refine ⟨fun pins s σ H Q I q => pts_nil.run pins s σ H Q I ?_⟩
      obtain ⟨α, σd, hd, R, S, q⟩ := q
      exact q α H (Gr.refl _ _) R
    · cases h
  | some x, e, sc, fn, X, g, h => by
    unfold chkc at h
    split at h
    · simp only [Bool.and_eq_true] at h
      exact pts_one ((chk_ok x _ g h.2).t h.1.1 h.1.2)
    · cases h
end
end DL
namespace DL
open PySem PySem.Spec PyProof.Rows L2

variable {Γ : Gam} {Y : Ys} {N : List Str} {sc : Scope} {fn : Str → Bool} {C : Cls} {G : List D} {k : Nat} {X : Cx}
theorem bk_fun {env : Env} (h : env.scope.kind = .function) : (env.blockKind != .function) = false := by
  unfold Env.blockKind
  rw [h]
  rfl
theorem noSwap_ok {tg e : Expr} {env : Env} (h : noSwap tg e = true) : swappedStores [tg] e env = pure none := by
  unfold noSwap at h
  split at h
  · split at h
    · unfold swappedStores
      simp only [pure_bind, h, if_true]
      split
      · rfl
      · split
        · rfl
        · split <;> rfl
    · rename_i ne
      unfold swappedStores
      cases e <;> first | rfl | exact absurd rfl (ne _ _ _)
  · cases h
  · rename_i n1 n2
    unfold swappedStores
    cases tg <;> first | rfl | exact absurd rfl (n1 _ _ _) | exact absurd rfl (n2 _ _)
theorem swap_par {x y : Str} {px py pt pt2 : Pos} {kt k2 : Nat} {a b : Expr} {env : Env} (hk : env.scope.kind = .function) (hx : env.scope.names.lookup x = some .local) (hy : env.scope.names.lookup y = some .local) (hl : (px.line == py.line) = true) (hn : x ≠ y)
    (h1 : (([a, b] : List Expr).all (foldedForSure 8)) = false) (h2 : (([a, b] : List Expr).all (constantsAlone 8)) = false) (ha : plainE a = true) (hb : plainE b = true) :
    swappedStores [.Tuple [.Name x px, .Name y py] kt pt] (.Tuple [a, b] k2 pt2) env = pure (some [x, y]) := by
  have kx : env.kindOf x = some .local := hx
  have ky : env.kindOf y = some .local := hy
  have el : (py.line == px.line) = true := by rw [beq_iff_eq] at hl ⊢; exact hl.symm
  unfold swappedStores
  simp only [pure_bind, bk_fun hk, h1, h2, List.length_cons, List.length_nil]
  rw [if_neg (by decide)]
  split
  · rename_i h
    rw [List.any_cons, List.any_cons, List.any_nil, Bool.or_false, Bool.or_eq_true] at h
    rcases h with h | h
    · cases a <;> first | (cases h; done) | (cases ha; done)
    · cases b <;> first | (cases h; done) | (cases hb; done)
  · have el2 : py.line = px.line := eq_of_beq el
    simp [kx, ky, Expr.pos, el2, List.eraseDups_cons, Ne.symm hn, hn, List.filterMap_cons]
theorem assign_one {e : Expr} {env : Env} (h : plainE e = true) : (assignEach [e] env).map (·.2) = [assign e env] := by
  rw [notStar_assign h]
  rfl
theorem sole_eq (t e : Expr) (l : Nat) (env : Env) : swapsWithSole [t] e l env = swapsWith e (some t) l env := rfl
structure GoodS (Γ : Gam) (Y : Ys) (Wx : WX) (N : List Str) (sc : Scope) (C : Cls) (G : List D) (k : Nat) (X : Cx) : Prop extends Good Γ Y N sc (fun _ => true) C G k X where
  own : PassesOwn (model X.prog X.w) X.A X.env X.xe
  tk : L2.Takes X Wx
  hst : X.stack = X.env :: X.outer
  hfr : X.env.frame = some X.env.locals
theorem GoodS.tr {Wx Wi : WX} (g : GoodS Γ Y Wx N sc C G k X) {pz : List (Addr × Obj)} {xe : Value → Shared → Prop} (tk : L2.Takes (X.tr pz xe) Wi) (po : PassesOwn (model X.prog X.w) X.A X.env xe) : GoodS Γ Y Wi N sc C G k (X.tr pz xe) :=
  ⟨⟨⟨g.g.fns, g.g.cns, g.g.blt, g.g.dks, g.g.exs, g.g.xw⟩, g.N, g.nd, g.sc, g.fn, g.calm, g.room, g.deep⟩, po, tk, g.hst, g.hfr⟩
theorem dxs_len : ∀ xs : List Xe, (dxs C G xs).length = xs.length
  | [] => rfl
  | x :: xs => by show (dxs C G xs).length + 1 = _; rw [dxs_len xs]; rfl
mutual
theorem chkX_ok {Wx : WX} (g : GoodS Γ Y Wx N sc C G k X) : ∀ (x : Xe) (e : Expr), chkX Γ N sc x e = true → XOk X Y Wx (dx C G x) e
  | .e a, e, h => by
    unfold chkX at h
    rw [Bool.and_eq_true] at h
    exact x_of ((chk_ok a e g.toGood h.2).v h.1)
  | .call f xs, e, h => by
    unfold chkX at h
    split at h
    · rename_i x px es' pos
      simp only [Bool.and_eq_true, Bool.not_eq_true'] at h
      obtain ⟨⟨⟨⟨hf, hg⟩, hdb⟩, hne⟩, h1⟩ := h
      split at hf
      · rename_i y n hy
        simp only [Bool.and_eq_true, decide_eq_true_eq] at hf
        obtain ⟨rfl, hl⟩ := hf
        obtain ⟨a, fd, ps, hm, hk, hb, F⟩ := g.g.fns f _ n hy
        have hs := chkXs_ok g xs es' h1
        cases es' with
        | nil => cases hne
        | cons e1 er => exact x_call g.tk F g.room (g.toGood.gl hg) hm hk hb (by rw [dxs_len]; exact hl) hdb hs
      · cases hf
    · cases h
  | .tup xs, e, h => by
    unfold chkX at h
    split at h
    · exact x_tup (chkXs_ok g xs _ h)
    · cases h
theorem chkXs_ok {Wx : WX} (g : GoodS Γ Y Wx N sc C G k X) : ∀ (xs : List Xe) (es : List Expr), chkXs Γ N sc xs es = true → XsOk X Y Wx (dxs C G xs) es
  | [], es, h => by
    unfold chkXs at h
    split at h
    · exact .nil
    · cases h
  | x :: xs, es, h => by
    unfold chkXs at h
    split at h
    · cases h
    · rw [Bool.and_eq_true] at h
      exact .cons (chkX_ok g x _ h.1) (chkXs_ok g xs _ h.2)
end
theorem chkHd_ok {Wx : WX} (g : GoodS Γ Y Wx N sc C G k X) {st : Bool} : ∀ (ns : List Hn) (hds : List ExceptHandler), chkHd Γ N sc st ns hds = true → HdsM X st hds (ns.map (htOf X.K Y)) ∧ ∀ n ∈ ns, ∃ C' ns', Y[n.c]? = some (C', ns') ∧ n.act.sml = true
  | [], hds, h => by
    unfold chkHd at h
    rw [Bool.or_eq_true] at h
    refine ⟨?_, fun n hn => by cases hn⟩
    cases hds with
    | nil => exact .done
    | cons a r => exact .stop (h.resolve_left fun z => by cases z)
  | n :: ns, hds, h => by
    unfold chkHd at h
    split at h
    · rename_i x np nm su ps r
      simp only [Bool.and_eq_true, Bool.not_eq_true'] at h
      obtain ⟨⟨⟨⟨⟨hx, hg⟩, hdb⟩, hsl⟩, sm⟩, hr⟩ := h
      obtain ⟨h1, h2⟩ := chkHd_ok g ns r hr
      split at hx
      · rename_i y fs hy
        rw [Bool.and_eq_true, decide_eq_true_eq] at hx
        obtain ⟨rfl, hx⟩ := hx
        obtain ⟨Ca, eY, em⟩ := g.g.exs _ _ _ hy
        have nmz : Names X y (.ref Ca) := ⟨g.toGood.gl hg, hdb, .inl em⟩
        have ec : clsV Y n.c = .ref Ca := by unfold clsV; rw [eY]
        have en : nsY Y n.c = fs := by unfold nsY; rw [eY]
        obtain ⟨q, su', rfl, S⟩ := hs_ok g.sc g.N g.nd n.act su hx
        refine ⟨?_, fun m hm => ?_⟩
        · rw [List.map_cons]
          show HdsM X st _ ((clsV Y n.c, n.slot, tHs X.K (nsY Y n.c) (n.slot.getD 0) n.act) :: _)
          rw [ec, en]
          cases e2 : n.slot with
          | none =>
            rw [e2] at S hsl
            cases nm with
            | none => exact .bare nmz S h1
            | some m => cases hsl
          | some i =>
            rw [e2] at S hsl
            cases nm with
            | none => cases hsl
            | some m =>
              simp only [Bool.and_eq_true, decide_eq_true_eq] at hsl
              exact .named nmz (by rw [g.N]; exact hsl.1) (by show X.env.scope.names.lookup m = _; rw [g.sc]; exact locN_of hsl.2) S h1
        · rcases List.mem_cons.mp hm with z | z
          · rw [z]; exact ⟨Ca, fs, eY, sm⟩
          · exact h2 m z
      · cases hx
    · cases h
theorem lookup_loc {o : Option NameKind} (h : isLoc o = true) : o = some .local := by
  unfold isLoc at h
  split at h
  · rfl
  · cases h
mutual
theorem chkS_ok : ∀ (x : Sm) (st : Stmt) {X : Cx} {Wx : WX}, GoodS Γ Y Wx N sc C G k X → chkS Γ N sc x st = true → PS X st (TSd X.K Y Wx (sdn C G x))
  | .ex e, st, X, Wx, g, h => by
    unfold chkS at h
    split at h
    · simp only [Bool.and_eq_true] at h
      exact s_expr ((chk_ok e _ g.toGood h.2).v h.1.1) h.1.2
    · cases h
  | .set t e, st, X, Wx, g, h => by
    unfold chkS at h
    split at h
    · rename_i tg e' pos
      simp only [Bool.and_eq_true] at h
      obtain ⟨⟨⟨⟨⟨hv, ht⟩, hs⟩, hsw⟩, he⟩, hp⟩ := h
      have hT := chkTg_ok g.toGood t tg ht
      have plain : swapsWith e' (some tg) pos.line X.env = pure false → PS X (.Assign [tg] e' pos) (TSd X.K Y Wx (sdn C G (.set t e))) := fun z =>
        s_asg ((chk_ok e e' g.toGood he).v hv) (tg_ok g.calm hT) ((sole_eq _ _ _ _).trans z) (noSwap_ok hsw) (assign_one hp)
      unfold setOk at hs
      split at hs
      · rename_i elt' gs' scope lpos
        split at hs
        · rename_i y py
          rw [Bool.and_eq_true] at hs
          have hk : X.env.scope.kind = .function := by
            have q := hs.1
            unfold fnK at q
            rw [g.sc]
            split at q
            · assumption
            · cases q
          rcases Bool.eq_false_or_eq_true (swapC sc y py.line lpos.line scope) with sw | sw
          · have hl : isLc e = true := by
              have q := hs.2
              rw [sw] at q
              exact q
            cases e with
            | lc elt tg2 it c own =>
              unfold chk at he
              split at he
              · rename_i elt' tg' it' ifs' scope lpos ee
                cases ee
                simp only [Bool.and_eq_true] at he
                obtain ⟨⟨⟨⟨⟨⟨⟨⟨hb, hsl⟩, hi⟩, hn⟩, hv⟩, h1⟩, h2⟩, h3⟩, h4⟩ := he
                have hN : X.N = N := g.N
                have ow : (ownOf N own).map (·.2) = own := by unfold ownOf; rw [List.map_map]; exact (List.map_congr_left fun _ _ => rfl).trans (List.map_id own)
                have hn : noTup it = true ∨ ∃ es k p, tg' = .Tuple es k p := by
                  rw [Bool.or_eq_true] at hn
                  rcases hn with hn | hn
                  · exact .inl hn
                  · right
                    split at hn
                    · exact ⟨_, _, _, rfl⟩
                    · cases hn
                cases t with
                | nm i =>
                  simp only [chkTg, Bool.and_eq_true, decide_eq_true_eq] at ht
                  unfold swapC at sw
                  simp only [Bool.and_eq_true, Bool.not_eq_true'] at sw
                  obtain ⟨⟨⟨s1, s2⟩, s3⟩, s4⟩ := sw
                  have s2 := lookup_loc s2
                  have hy : X.env.scope.names.lookup y = some .local := by rw [g.sc]; exact s2
                  have q := s_setLc (Y := Y) (Wx := Wx) (f := (dn C G elt).v) (tg := tg2) (c := dnc C G c) (s := (dn C G it).i) (spos := pos) (pos := lpos) (py := py) (own := ownOf N own) g.calm g.nd (by rw [hN]; exact ht.1) hy
                    (sw_true hk hy s3 s4) ((chk_ok it it' g.toGood h1).i hi tg' hn) (by rw [hN, g.sc]; exact blkOk_by hb)
                    (fun s H C cl fp => tg_ok (by exact g.calm) (chkTg_ok (g.toGood.blk s H scope C cl fp) tg2 tg' h2))
                    (fun s H C cl fp => chkc_ok c ifs' (g.toGood.blk s H scope C cl fp) h3)
                    (fun s H C cl fp => (chk_ok elt elt' (g.toGood.blk s H scope C cl fp) h4).v hv)
                    (by rw [ow]; exact fun i hi => of_decide_eq_true (List.all_eq_true.mp hsl i hi))
                  rw [ow] at q
                  exact q
                | tp ts => simp only [chkTg] at ht; cases ht
              · cases he
            | lc2 elt tg2 it c tg1 zm it1 c1 own own1 =>
              unfold chk at he
              split at he
              · rename_i elt' tg' it' ifs' tg1' it1' ifs1' scope lpos ee
                cases ee
                simp only [Bool.and_eq_true] at he
                obtain ⟨⟨⟨⟨⟨⟨⟨⟨⟨⟨⟨⟨⟨⟨hb, hsl⟩, hsl1⟩, hoo⟩, hi⟩, hn⟩, hv⟩, hv1⟩, h1⟩, h2⟩, h3⟩, h5⟩, h6⟩, h7⟩, h4⟩ := he
                have hN : X.N = N := g.N
                have ow : (ownOf N own).map (·.2) = own := by unfold ownOf; rw [List.map_map]; exact (List.map_congr_left fun _ _ => rfl).trans (List.map_id own)
                have hn : noTup it = true ∨ ∃ es k p, tg' = .Tuple es k p := by
                  rw [Bool.or_eq_true] at hn
                  rcases hn with hn | hn
                  · exact .inl hn
                  · right
                    split at hn
                    · exact ⟨_, _, _, rfl⟩
                    · cases hn
                have inner : (∀ (s : Shared) (H : Hp) (A : Addr) (cl : List (Str × Addr)) (fp : List Addr), PI (X.blk s H scope (compEnvC scope cl A X.env) fp) tg1' it1' (TIz X.K (zS zm (dn C G it1).v))) ∧ ∀ (env : Env) (x : Value), foldedSetIterable it1' env x = pure x := by
                  cases zm with
                  | val =>
                    simp only [Bool.and_eq_true] at h5
                    exact ⟨fun s H A cl fp => z_val ((chk_ok it1 it1' (g.toGood.blk s H scope A cl fp) h5.2).v hv1), fun env x => folded_no h5.1 env x⟩
                  | rng =>
                    simp only at h5
                    split at h5
                    · rename_i x0 p0 a' p1
                      rw [Bool.and_eq_true] at h5
                      refine ⟨fun s H A cl fp => ?_, fun env x => rfl⟩
                      have g' := g.toGood.blk s H scope A cl fp
                      obtain ⟨e1, hg, hm⟩ := g'.bl h5.1
                      subst e1
                      exact z_rng1 hg hm ((chk_ok it1 a' g' h5.2).v hv1)
                    · cases h5
                cases t with
                | nm i =>
                  simp only [chkTg, Bool.and_eq_true, decide_eq_true_eq] at ht
                  unfold swapC at sw
                  simp only [Bool.and_eq_true, Bool.not_eq_true'] at sw
                  obtain ⟨⟨⟨s1, s2⟩, s3⟩, s4⟩ := sw
                  have s2 := lookup_loc s2
                  have hy : X.env.scope.names.lookup y = some .local := by rw [g.sc]; exact s2
                  have q := s_setLc2 (Y := Y) (Wx := Wx) (f := (dn C G elt).v) (tg := tg2) (c := dnc C G c) (s := (dn C G it).i) (spos := pos) (pos := lpos) (py := py) (own := ownOf N own) (own1 := own1) g.calm g.nd (by rw [hN]; exact ht.1) hy
                    (sw_true hk hy s3 s4) ((chk_ok it it' g.toGood h1).i hi tg' hn) (by rw [hN, g.sc]; exact blkOk_by hb) (by rw [ow]; exact fun i hi => of_decide_eq_true (List.all_eq_true.mp hoo i hi))
                    (fun s H C cl fp => tg_ok (by exact g.calm) (chkTg_ok (g.toGood.blk s H scope C cl fp) tg2 tg' h2))
                    (fun s H C cl fp => chkc_ok c ifs' (g.toGood.blk s H scope C cl fp) h3)
                    inner.1
                    (fun s H C cl fp => tg_ok (by exact g.calm) (chkTg_ok (g.toGood.blk s H scope C cl fp) tg1 tg1' h6))
                    (fun s H C cl fp => chkc_ok c1 ifs1' (g.toGood.blk s H scope C cl fp) h7)
                    (fun s H C cl fp => (chk_ok elt elt' (g.toGood.blk s H scope C cl fp) h4).v hv)
                    (by rw [ow]; exact fun i hi => of_decide_eq_true (List.all_eq_true.mp hsl i hi))
                    (fun i hi => of_decide_eq_true (List.all_eq_true.mp hsl1 i hi)) inner.2
                  rw [ow] at q
                  exact q
                | tp ts => simp only [chkTg] at ht; cases ht
              · cases he
            | _ => cases hl
          · refine plain ?_
            have bk : (X.env.blockKind == .function) = true := by
              unfold Env.blockKind
              rw [hk]
              rfl
            have ek : X.env.kindOf y = sc.names.lookup y := by rw [← g.sc]; rfl
            have sw' : (X.env.blockKind == .function && X.env.kindOf y == some .local && py.line == lpos.line && !(scope.names.any fun (n, k) => n == y && (k == .local || k == .cell))) = false := by
              rw [bk, ek]
              unfold swapC at sw
              rw [hs.1] at sw
              have e2 : isLoc (sc.names.lookup y) = (sc.names.lookup y == some .local) := by
                cases sc.names.lookup y with
                | none => rfl
                | some k => cases k <;> rfl
              rw [e2] at sw
              exact sw
            unfold swapsWith
            simp only [pure_bind]
            show pure _ = pure false
            exact congrArg pure sw'
        · exact plain rfl
        · cases hs
      · exact plain (swaps_no hs _ _ _)
    · cases h
  | .par is es, st, X, Wx, g, h => by
    unfold chkS at h
    split at h
    · rename_i x px y py kt pt a b k2 pt2 pos
      rw [Bool.and_eq_true] at h
      obtain ⟨h, he⟩ := h
      split at h
      · rename_i i j
        simp only [Bool.and_eq_true, decide_eq_true_eq, Bool.not_eq_true'] at h
        obtain ⟨⟨⟨⟨⟨⟨⟨⟨⟨hi, hj⟩, hij⟩, lx⟩, ly⟩, ln⟩, nxy⟩, hk⟩, f1⟩, f2⟩ := h
        have hd := chks_ok es [a, b] (b := false) g.toGood (by simp) he
        have pl := hd.es.plain
        simp only [List.all_cons, List.all_nil, Bool.and_eq_true, and_true] at pl
        have hk : X.env.scope.kind = .function := by
          unfold fnK at hk
          rw [g.sc]
          split at hk
          · assumption
          · cases hk
        have lx : X.env.scope.names.lookup x = some .local := by rw [g.sc]; exact lookup_loc lx
        have ly : X.env.scope.names.lookup y = some .local := by rw [g.sc]; exact lookup_loc ly
        exact s_par g.calm g.nd (by rw [g.N]; exact hi) (by rw [g.N]; exact hj) hij lx ly hd.es (swap_par hk lx ly ln nxy f1 f2 pl.1 pl.2) rfl
      · cases h
    · cases h
  | .aug i op e, st, X, Wx, g, h => by
    unfold chkS at h
    split at h
    · simp only [Bool.and_eq_true, decide_eq_true_eq] at h
      obtain ⟨⟨⟨⟨h1, h2⟩, rfl⟩, h4⟩, h5⟩ := h
      obtain ⟨l, f⟩ := g.toGood.loc h2
      exact s_aug g.nd (by rw [g.N]; exact h1) l f ((chk_ok e _ g.toGood h5).v h4)
    · cases h
  | .sub o i e, st, X, Wx, g, h => by
    unfold chkS at h
    split at h
    · simp only [Bool.and_eq_true] at h
      obtain ⟨⟨⟨⟨⟨⟨⟨v1, v2⟩, v3⟩, s⟩, n⟩, h1⟩, h2⟩, h3⟩ := h
      exact s_sub g.deep ((chk_ok o _ g.toGood h1).v v1) ((chk_ok i _ g.toGood h2).v v2) ((chk_ok e _ g.toGood h3).v v3) s ((sole_eq _ _ _ _).trans (swaps_no n _ _ _))
    · cases h
  | .augS o i op e, st, X, Wx, g, h => by
    unfold chkS at h
    split at h
    · simp only [Bool.and_eq_true, decide_eq_true_eq] at h
      obtain ⟨⟨⟨⟨⟨⟨⟨v1, v2⟩, v3⟩, s⟩, rfl⟩, h1⟩, h2⟩, h3⟩ := h
      exact s_augS g.deep ((chk_ok o _ g.toGood h1).v v1) ((chk_ok i _ g.toGood h2).v v2) ((chk_ok e _ g.toGood h3).v v3) s
    · cases h
  | .ite c a b, st, X, Wx, g, h => by
    unfold chkS at h
    split at h
    · simp only [Bool.and_eq_true] at h
      obtain ⟨⟨⟨⟨v, t⟩, h1⟩, h2⟩, h3⟩ := h
      exact s_if ((chk_ok c _ g.toGood h1).t v t) (chkSs_ok a _ g h2) (chkSs_ok b _ g h3)
    · cases h
  | .whl c b, st, X, Wx, g, h => by
    unfold chkS at h
    split at h
    · simp only [Bool.and_eq_true] at h
      obtain ⟨⟨⟨v, t⟩, h1⟩, h2⟩ := h
      exact s_while g.own ((chk_ok c _ g.toGood h1).t v t) (chkSs_ok b _ g h2)
    · cases h
  | .for_ t it b, st, X, Wx, g, h => by
    unfold chkS at h
    split at h
    · rename_i tg it' b' pos
      simp only [Bool.and_eq_true] at h
      obtain ⟨⟨⟨⟨hi, hn⟩, h1⟩, h2⟩, h3⟩ := h
      have hn : noTup it = true ∨ ∃ es k p, tg = .Tuple es k p := by
        rw [Bool.or_eq_true] at hn
        rcases hn with hn | hn
        · exact .inl hn
        · right
          split at hn
          · exact ⟨_, _, _, rfl⟩
          · cases hn
      exact s_for g.own g.calm ((chk_ok it _ g.toGood h2).i hi tg hn) (tg_ok g.calm (chkTg_ok g.toGood t tg h1)) (chkSs_ok b _ g h3)
    · cases h
  | .ret e, st, X, Wx, g, h => by
    unfold chkS at h
    split at h
    · simp only [Bool.and_eq_true] at h
      exact s_ret ((chk_ok e _ g.toGood h.2).v h.1)
    · cases h
  | .retN, st, X, Wx, g, h => by
    unfold chkS at h
    split at h
    · exact s_retN
    · cases h
  | .pas, st, X, Wx, g, h => by
    unfold chkS at h
    split at h
    · exact s_pass
    · cases h
  | .brk, st, X, Wx, g, h => by
    unfold chkS at h
    split at h
    · exact s_brk
    · cases h
  | .cnt, st, X, Wx, g, h => by
    unfold chkS at h
    split at h
    · exact s_cnt
    · cases h
  | .lock i s, st, X, Wx, g, h => by
    unfold chkS at h
    exact s_lock (chkS_ok s st g h)
  | .delF o i, st, X, Wx, g, h => by
    unfold chkS at h
    split at h
    · simp only [Bool.and_eq_true] at h
      obtain ⟨⟨⟨v1, v2⟩, h1⟩, h2⟩ := h
      exact s_delF ((chk_ok o _ g.toGood h1).v v1) ((chk_ok i _ g.toGood h2).v v2)
    · cases h
  | .raise c es, st, X, Wx, g, h => by
    unfold chkS at h
    split at h
    · rename_i x px es' pos pos2
      simp only [Bool.and_eq_true, decide_eq_true_eq, Bool.not_eq_true'] at h
      obtain ⟨⟨⟨⟨⟨hf, hc⟩, hg⟩, hdb⟩, hne⟩, h1⟩ := h
      split at hf
      · rename_i y ns hy
        simp only [Bool.and_eq_true, decide_eq_true_eq] at hf
        obtain ⟨rfl, hl⟩ := hf
        obtain ⟨Ca, eY, em⟩ := g.g.exs _ _ _ hy
        have hs := (chks_ok es es' (b := false) g.toGood (by simp) h1).es
        cases es' with
        | nil => cases hne
        | cons e1 er => exact s_raise g.calm g.tk (g.g.xw.cls c Ca ns eY hc) eY (g.room.mono (by omega)) (g.toGood.gl hg) em (by rw [List.length_map, dns_len]; exact hl) hdb hs
      · cases hf
    · cases h
  | .xex x, st, X, Wx, g, h => by
    unfold chkS at h
    split at h
    · rw [Bool.and_eq_true] at h
      exact s_xex (chkX_ok g x _ h.2) h.1
    · cases h
  | .xset t x, st, X, Wx, g, h => by
    unfold chkS at h
    split at h
    · simp only [Bool.and_eq_true] at h
      obtain ⟨⟨⟨⟨ht, hn⟩, hsw⟩, he⟩, hp⟩ := h
      exact s_xasg (chkX_ok g x _ he) (tg_ok g.calm (chkTg_ok g.toGood t _ ht)) ((sole_eq _ _ _ _).trans (swaps_no hn _ _ _)) (noSwap_ok hsw) (assign_one hp)
    · cases h
  | .xret x, st, X, Wx, g, h => by
    unfold chkS at h
    split at h
    · exact s_xret (chkX_ok g x _ h)
    · cases h
  | .tryS b s hs, st, X, Wx, g, h => by
    unfold chkS at h
    split at h
    · rename_i b' hds pos
      simp only [Bool.and_eq_true, Bool.not_eq_true'] at h
      obtain ⟨⟨hne, hb⟩, hh⟩ := h
      obtain ⟨h1, h2⟩ := chkHd_ok g hs hds hh
      cases hds with
      | nil => cases hne
      | cons a r => exact s_try g.g.xw g.hst g.hfr g.nd g.tk (fun Wi pz xe tk po => chkSs_ok b b' (g.tr tk po) hb) h1 h2
    · cases h
  | .rep _ _ _ _ _, st, X, Wx, g, h => by
    unfold chkS at h
    cases h
theorem chkSs_ok : ∀ (x : List Sm) (st : List Stmt) {X : Cx} {Wx : WX}, GoodS Γ Y Wx N sc C G k X → chkSs Γ N sc x st = true → PSs X st (TSd X.K Y Wx (sdns C G x))
  | [], sts, X, Wx, g, h => by
    unfold chkSs at h
    split at h
    · exact ss_nil
    · cases h
  | s :: ss, sts, X, Wx, g, h => by
    unfold chkSs at h
    split at h
    · cases h
    · rw [Bool.and_eq_true] at h
      exact ss_cons (chkS_ok s _ g h.1) (chkSs_ok ss _ g h.2)
end
theorem chkR_ok (g : GoodS Γ Y Wx N sc C G k X) {a : Ex} {y z : List Nat} {e : Expr} (h : chkR Γ N sc a y z e = true) : EOkT X (repF (dn C G a).v y z) e := by
  unfold chkR at h
  split at h
  · simp only [Bool.and_eq_true, decide_eq_true_eq, Bool.not_eq_true'] at h
    obtain ⟨⟨⟨⟨⟨⟨e1, hl⟩, e2⟩, e3⟩, ne⟩, v1⟩, h1⟩ := h
    subst e1 e2 e3
    exact tk_rep ((chk_ok a _ g.toGood h1).v v1) ne hl
  · cases h
theorem chkK_ok (g : GoodS Γ Y Wx N sc C G k X) {r : RK} {a : Ex} {y z : List Nat} {e : Expr} (h : chkK Γ N sc r a y z e = true) : EOkT X (rkF C r (repF (dn C G a).v y z)) e := by
  unfold chkK at h
  cases r with
  | val => exact chkR_ok g h
  | len =>
    simp only at h
    split at h
    · rw [Bool.and_eq_true] at h
      obtain ⟨e1, hg, hm⟩ := g.toGood.bl h.1
      subst e1
      exact tk_b1 c_len hg hm (by decide +kernel) (by decide) (by decide) (chkR_ok g h.2)
    · cases h
  | call f =>
    simp only at h
    split at h
    · simp only [Bool.and_eq_true, Bool.not_eq_true'] at h
      obtain ⟨⟨⟨hf, hg⟩, hdb⟩, h1⟩ := h
      split at hf
      · rename_i nm n hy
        simp only [Bool.and_eq_true, decide_eq_true_eq] at hf
        obtain ⟨rfl, hl⟩ := hf
        obtain ⟨a', fd, ps, hm, hk, hb, F⟩ := g.g.fns f _ n hy
        exact tk_call F g.room (g.toGood.gl hg) hm hk hb hl hdb (chkR_ok g h1)
      · cases hf
    · cases h
mutual
theorem chkT_ok : ∀ (x : Sm) (st : Stmt) {X : Cx} {Wx : WX}, GoodS Γ Y Wx N sc C G k X → chkT Γ N sc x st = true → PST X st (TSd X.K Y Wx (sdn C G x))
  | .rep r t a y z, st, X, Wx, g, h => by
    unfold chkT at h
    split at h
    · rename_i tg e' pos
      simp only [Bool.and_eq_true] at h
      obtain ⟨⟨⟨⟨ht, hs⟩, hsw⟩, hp⟩, he⟩ := h
      exact st_asg (chkK_ok g he) (tg_ok g.calm (chkTg_ok g.toGood t tg ht)) ((sole_eq _ _ _ _).trans (swaps_no hs _ _ _)) (noSwap_ok hsw) (assign_one hp)
    · cases h
  | .ite c a b, st, X, Wx, g, h => by
    unfold chkT at h
    split at h
    · simp only [Bool.and_eq_true] at h
      obtain ⟨⟨⟨⟨v, t⟩, h1⟩, h2⟩, h3⟩ := h
      exact st_if ((chk_ok c _ g.toGood h1).t v t) (chkTs_ok a _ g h2) (chkTs_ok b _ g h3)
    · cases h
  | .for_ t it b, st, X, Wx, g, h => by
    unfold chkT at h
    split at h
    · rename_i tg it' b' pos
      simp only [Bool.and_eq_true] at h
      obtain ⟨⟨⟨⟨hi, hn⟩, h1⟩, h2⟩, h3⟩ := h
      have hn : noTup it = true ∨ ∃ es k p, tg = .Tuple es k p := by
        rw [Bool.or_eq_true] at hn
        rcases hn with hn | hn
        · exact .inl hn
        · right
          split at hn
          · exact ⟨_, _, _, rfl⟩
          · cases hn
      exact st_for g.own g.calm ((chk_ok it _ g.toGood h2).i hi tg hn) (tg_ok g.calm (chkTg_ok g.toGood t tg h1)) (chkTs_ok b _ g h3)
    · cases h
  | .ex e, st, X, Wx, g, h => PST.of (chkS_ok _ st g (by unfold chkT at h; exact h))
  | .set t e, st, X, Wx, g, h => PST.of (chkS_ok _ st g (by unfold chkT at h; exact h))
  | .par is es, st, X, Wx, g, h => PST.of (chkS_ok _ st g (by unfold chkT at h; exact h))
  | .aug i op e, st, X, Wx, g, h => PST.of (chkS_ok _ st g (by unfold chkT at h; exact h))
  | .sub o i e, st, X, Wx, g, h => PST.of (chkS_ok _ st g (by unfold chkT at h; exact h))
  | .augS o i op e, st, X, Wx, g, h => PST.of (chkS_ok _ st g (by unfold chkT at h; exact h))
  | .whl c b, st, X, Wx, g, h => PST.of (chkS_ok _ st g (by unfold chkT at h; exact h))
  | .ret e, st, X, Wx, g, h => PST.of (chkS_ok _ st g (by unfold chkT at h; exact h))
  | .retN, st, X, Wx, g, h => PST.of (chkS_ok _ st g (by unfold chkT at h; exact h))
  | .pas, st, X, Wx, g, h => PST.of (chkS_ok _ st g (by unfold chkT at h; exact h))
  | .brk, st, X, Wx, g, h => PST.of (chkS_ok _ st g (by unfold chkT at h; exact h))
  | .cnt, st, X, Wx, g, h => PST.of (chkS_ok _ st g (by unfold chkT at h; exact h))
  | .lock i s, st, X, Wx, g, h => PST.of (chkS_ok _ st g (by unfold chkT at h; exact h))
  | .delF o i, st, X, Wx, g, h => PST.of (chkS_ok _ st g (by unfold chkT at h; exact h))
  | .raise c es, st, X, Wx, g, h => PST.of (chkS_ok _ st g (by unfold chkT at h; exact h))
  | .xex x, st, X, Wx, g, h => PST.of (chkS_ok _ st g (by unfold chkT at h; exact h))
  | .xset t x, st, X, Wx, g, h => PST.of (chkS_ok _ st g (by unfold chkT at h; exact h))
  | .xret x, st, X, Wx, g, h => PST.of (chkS_ok _ st g (by unfold chkT at h; exact h))
  | .tryS b s hs, st, X, Wx, g, h => PST.of (chkS_ok _ st g (by unfold chkT at h; exact h))
theorem chkTs_ok : ∀ (x : List Sm) (st : List Stmt) {X : Cx} {Wx : WX}, GoodS Γ Y Wx N sc C G k X → chkTs Γ N sc x st = true → PSsT X st (TSd X.K Y Wx (sdns C G x))
  | [], sts, X, Wx, g, h => by
    unfold chkTs at h
    split at h
    · exact st_nil
    · cases h
  | s :: ss, sts, X, Wx, g, h => by
    unfold chkTs at h
    split at h
    · cases h
    · rw [Bool.and_eq_true] at h
      exact st_cons (chkT_ok s _ g h.1) (chkTs_ok ss _ g h.2)
end
theorem start_rel {K : PySem.W.Frag} {α : List Addr} {H : Hp} {ds : List D} {vs : List V} (r : RelDs K α H ds vs) : RelS K α H (startD N ds) (L2.start N vs) := by
  have hl := r.length
  refine ⟨by unfold startD L2.start; simp [hl], fun i d e => ?_⟩
  unfold startD at e
  by_cases hi : i < ds.length
  · rw [List.getElem?_append_left (by simpa using hi), List.getElem?_map] at e
    cases e1 : ds[i]? with
    | none => rw [e1] at e; cases e
    | some d1 =>
      rw [e1] at e
      cases e
      obtain ⟨v, e2, rv⟩ := r.get e1
      refine ⟨v, ?_, rv⟩
      unfold L2.start
      rw [List.getElem?_append_left (by simpa [hl] using hi), List.getElem?_map, e2]
      rfl
  · rw [List.getElem?_append_right (by simpa using hi), List.getElem?_replicate] at e
    split at e <;> cases e
section
variable {K : PySem.W.Frag} {α β : List Addr} {H : Hp}
mutual
theorem RelD.under : ∀ (d : D) (v : V), d.low α.length = true → RelD K (α ++ β) H d v → RelD K α H d v
  | .non, v, _, h => h
  | .bl b, v, _, h => h
  | .int i, v, _, h => h
  | .str s, v, _, h => h
  | .tup xs, v, n, h => by
    obtain ⟨a, vs, e, q, hx⟩ := h
    exact ⟨a, vs, e, q, RelDs.under xs vs n hx⟩
  | .obj m, v, n, h => by
    obtain ⟨a, e, ev⟩ := h
    have n : decide (m < α.length) = true := n
    rw [List.getElem?_append_left (of_decide_eq_true n)] at e
    exact ⟨a, e, ev⟩
  | .ro xs, v, n, h => by
    obtain ⟨a, vs, e, q, hx⟩ := h
    exact ⟨a, vs, e, q, RelDs.under xs vs n hx⟩
  | .xt xs, v, n, h => by
    obtain ⟨a, vs, e, q, hx⟩ := h
    exact ⟨a, vs, e, q, RelDs.under xs vs n hx⟩
theorem RelDs.under : ∀ (d : List D) (v : List V), D.lows α.length d = true → RelDs K (α ++ β) H d v → RelDs K α H d v
  | [], v, _, h => h
  | d :: ds, v, n, h => by
    obtain ⟨x, vr, e, h1, h2⟩ := h
    have n : (d.low α.length && D.lows α.length ds) = true := n
    rw [Bool.and_eq_true] at n
    exact ⟨x, vr, e, RelD.under d x n.1 h1, RelDs.under ds vr n.2 h2⟩
end
theorem RelKK.under : ∀ (l : List (DK × D)) (l' : List (Key × V)), (l.all fun p => p.2.low α.length) = true → RelKK K (α ++ β) H l l' → RelKK K α H l l'
  | [], _, _, h => h
  | (k, d) :: r, _, n, h => by
    obtain ⟨v, lr, e, h1, h2⟩ := h
    rw [List.all_cons, Bool.and_eq_true] at n
    exact ⟨v, lr, e, RelD.under d v n.1 h1, RelKK.under r lr n.2 h2⟩
theorem RelKT.under : ∀ (l : List (List DK × D)) (l' : List (List Key × V)), (l.all fun p => p.2.low α.length) = true → RelKT K (α ++ β) H l l' → RelKT K α H l l'
  | [], _, _, h => h
  | (k, d) :: r, _, n, h => by
    obtain ⟨v, lr, e, h1, h2⟩ := h
    rw [List.all_cons, Bool.and_eq_true] at n
    exact ⟨v, lr, e, RelD.under d v n.1 h1, RelKT.under r lr n.2 h2⟩
theorem RelO.under {a : Addr} {o : O} (n : o.low α.length = true) (h : RelO K (α ++ β) H a o) : RelO K α H a o := by
  cases o with
  | lst xs => obtain ⟨vs, e, r⟩ := h; exact ⟨vs, e, RelDs.under _ _ n r⟩
  | dK kvs => obtain ⟨vs, e, r⟩ := h; exact ⟨vs, e, RelKK.under _ _ n r⟩
  | dT kvs => obtain ⟨vs, e, r⟩ := h; exact ⟨vs, e, RelKT.under _ _ n r⟩
  | lkK kvs => obtain ⟨o, vs, e, r⟩ := h; exact ⟨o, vs, e, RelKK.under _ _ n r⟩
  | lkT kvs => obtain ⟨o, vs, e, r⟩ := h; exact ⟨o, vs, e, RelKT.under _ _ n r⟩
end
theorem Rl.elder {K : PySem.W.Frag} {α β : List Addr} {hd h : Hd} {H H' : Hp} (R0 : Rl K α hd H) (R' : Rl K (α ++ β) h H') (e : Elder hd h) : Rl K α (h.take hd.length) H' := by
  have hl : hd.length ≤ h.length := by
    have := R'.len
    rw [List.length_append, R0.len] at this
    omega
  refine ⟨by rw [List.length_take, R0.len]; omega, R0.nd, fun n o a h1 h2 => ?_⟩
  have hn : n < hd.length := by
    have := (List.getElem?_eq_some_iff.mp h2).1
    rw [R0.len] at this
    exact this
  rw [List.getElem?_take_of_lt hn] at h1
  have r := R'.ob n o a h1 (by rw [List.getElem?_append_left (List.getElem?_eq_some_iff.mp h2).1]; exact h2)
  rcases e n o hn h1 with z | z
  · exact (R0.ob n o a z h2).cut r
  · exact r.under (by rw [R0.len]; exact z)
theorem gc_back {K : PySem.W.Frag} {α : List Addr} {hd : Hd} {H : Hp} {r : R W} {Q : V → Hp → Prop} {E : XK} (R0 : Rl K α hd H) (h : PoX K Y α H (gc hd r) Q E) : PoX K Y α H r Q E := by
  cases r with
  | ok w h1 =>
    have h : PoW K α H (gc hd (.ok w h1)) Q := by
      cases e : gc hd (.ok w h1) with
      | ok w2 h2 => rw [e] at h; exact h
      | ex =>
        exfalso
        simp only [gc] at e
        split at e
        · cases w with
          | l xs => simp only [gcW] at e; split at e <;> cases e
          | v d => cases d <;> simp only [gcW] at e <;> (repeat' split at e) <;> cases e
        · cases e
      | no => rw [e] at h; exact h.elim
    show PoW K α H (.ok w h1) Q
    simp only [gc] at h
    split at h
    · rename_i el
      intro α' H' v g R' rw n
      obtain ⟨β, rfl, hβ⟩ := g.pre
      have R1 := Rl.elder R0 R' el
      have g1 : Gr α H α H' := ⟨⟨[], by simp, by simp⟩, g.fr, g.fz⟩
      have fin : ∀ {w' : W}, PoW K α H (.ok w' (h1.take hd.length)) Q → RelW K α H' w' v → NewW H w' v → Q v H' := fun q r n => q α H' v g1 R1 r n
      have out : ∀ {a}, a ∉ α ++ β → a ∉ α := fun z z2 => z (List.mem_append_left _ z2)
      have len : α.length = hd.length := R0.len
      cases w with
      | l xs =>
        simp only [gcW] at h
        split at h
        · rename_i c
          obtain ⟨a, vs, e, ha, hn, hx⟩ := rw
          exact fin h ⟨a, vs, e, ha, out hn, RelDs.under xs vs (by rw [len]; exact c) hx⟩ n
        · exact h _ H' v g R' rw n
      | v d =>
        have plain : (if d.low hd.length = true then R.ok (W.v d) (h1.take hd.length) else R.ok (W.v d) h1) = gcW hd.length (.v d) h1 → Q v H' := fun e => by
          rw [← e] at h
          split at h
          · rename_i c
            exact fin h (RelD.under d v (by rw [len]; exact c) rw) trivial
          · exact h _ H' v g R' rw n
        cases d with
        | obj m =>
          simp only [gcW] at h
          split at h
          · rename_i c
            exact fin h (RelD.under (K := K) (H := H') (.obj m) v (by rw [len]; exact decide_eq_true c) rw) trivial
          · rename_i nc
            obtain ⟨a, ea, ev⟩ := rw
            have hb : a ∈ β := by
              rw [List.getElem?_append_right (by omega)] at ea
              exact List.mem_of_getElem? ea
            obtain ⟨hna, hno⟩ := hβ a hb
            split at h
            · rename_i xs ho
              split at h
              · rename_i c
                obtain ⟨vs, e2, hx⟩ := R'.ob m _ a ho ea
                exact fin h ⟨a, vs, ev, e2, hno, RelDs.under xs vs (by rw [len]; exact c) hx⟩ fun b e => by
                  rw [ev] at e
                  cases e
                  exact hna
              · exact h _ H' v g R' ⟨a, ea, ev⟩ n
            · rename_i o _ ho
              split at h
              · rename_i c
                have ro := (R'.ob m o a ho ea).under (α := α) (by rw [len]; exact c)
                have R2 := R1.join hno ro
                refine h (α ++ [a]) H' v (g1.join hna hno) R2 ⟨a, ?_, ev⟩ trivial
                rw [← len]
                simp
              · exact h _ H' v g R' ⟨a, ea, ev⟩ n
            · exact h _ H' v g R' ⟨a, ea, ev⟩ n
        | _ => exact plain rfl
    · exact h
  | ex c fs h1 =>
    simp only [gc] at h
    split at h
    · rename_i el
      intro α' H' C ns d vs g R' hY hl hd' rs
      obtain ⟨β, rfl, hβ⟩ := g.pre
      exact h α H' C ns d vs ⟨⟨[], by simp, by simp⟩, g.fr, g.fz⟩ (Rl.elder R0 R' el.1) hY hl hd' (RelDs.under fs vs (by rw [R0.len]; exact el.2) rs)
    · exact h
  | no => exact h.elim
theorem endB_back {K : PySem.W.Frag} {α : List Addr} {H : Hp} {r : R Fl} {Q : V → Hp → Prop} {E : XK} (h : PoX K Y α H (endB r) Q E) : PoS K Y (fun cls d _ H => E cls d H) α H r { nx := fun _ H' => Q .non H', rt := Q } := by
  cases r with
  | ok f h1 =>
    cases f with
    | nx σ => exact fun α' H' σ' g R S => h α' H' .non g R rfl trivial
    | rt w => exact h
    | bk σ => exact h.elim
    | ct σ => exact h.elim
    | xc c fs σ => exact fun α' H' σ' C ns d vs g R _ => h α' H' C ns d vs g R
  | ex c fs h1 => exact h.elim
  | no => exact h.elim
theorem fnD {P : Program} {w : World} {K : PySem.W.Frag} {mg : Str → Option Value} {base : Heap} {F : List Fn} {f : Nat} {fn : Fn} {x qual : Str} {st : Stmt} {a : Addr} {fd : FuncData} {ps : List Str}
    (hf : F[f]? = some fn) (Fu : L2.Fun K x qual st a fd) (S : FnScope fn.N ps (defScope st)) (hp : ps.length = fn.np)
    (hc : chkB Γ fn.N (defScope st) fn.np fn.body (defBody st) = true)
    (g : ∀ X : Cx, X.prog = P → X.w = w → X.K = K → X.mg = mg → X.base = base → GOk Γ Y (run F G k) G k X) :
    FnOk P w K mg base (L2.CX P w) (k + 3) a fd ps (spD K Y fn.np (run F G (k + 1) f)) := by
  have len : ∀ vs H Q E, spD K Y fn.np (run F G (k + 1) f) vs H Q E → vs.length = ps.length := fun vs H Q E sp => by
    obtain ⟨α, hd, ds, R, r, hl, _⟩ := sp
    rw [r.length, hl, hp]
  have good : ∀ (cdv : Value) (A : Around) (outer : List Env) (s : Shared) (H : Hp) (vs : List V) (Q : VK) (E : XK), Room (k + 2) (A.deeper (envOfC qual (defScope st) s.heap.objs.size a cdv)) → GoodS Γ Y (fun cls d _ H => E cls d H) fn.N (defScope st) (run F G k) G k (cxOf (L2.CX P w) P w K mg base fn.N qual (defScope st) a cdv A outer s H E) := fun cdv A outer s H vs Q E hr => by
    refine ⟨⟨g _ rfl rfl rfl rfl rfl, rfl, S.nd, rfl, rfl, rfl, hr, ?_⟩, PassesOwn.leaving, takes_of rfl rfl rfl rfl, rfl, rfl⟩
    have := hr.un
    show (A.deeper (envOfC qual (defScope st) s.heap.objs.size a cdv)).units + 200 < cLine
    omega
  have says : ∀ (vs : List V) (H : Hp) (Q : VK) (E : XK), spD K Y fn.np (run F G (k + 1) f) vs H Q E → TSd K Y (fun cls d _ H => E cls d H) (sdns (run F G k) G fn.body) { nx := fun _ H' => Q .non H', rt := Q } (L2.start fn.N vs) H := fun vs H Q E sp => by
    obtain ⟨α, hd, ds, R, r, hl, q⟩ := sp
    refine ⟨α, startD fn.N ds, hd, R, start_rel r, endB_back (gc_back R ?_)⟩
    have e : run F G (k + 1) f ds hd = gc hd (endB (sdns (run F G k) G fn.body (startD fn.N ds) hd)) := by
      simp only [run, hf, hl, if_true]
    rw [e] at q
    exact q
  unfold chkB at hc
  rw [Bool.or_eq_true] at hc
  rcases hc with hc | hc
  · exact L2.Fun.okX (k := k + 2) Fu S len fun cdv A outer s H vs Q E hr sp => ⟨_, chkSs_ok fn.body _ (good cdv A outer s H vs Q E hr) hc, says vs H Q E sp⟩
  · simp only [Bool.and_eq_true, decide_eq_true_eq] at hc
    obtain ⟨⟨n1, nc⟩, hc⟩ := hc
    obtain ⟨oc, od, kV, doc, pm, an, cdv, ct, osl, rfl, lk, hcd⟩ := Fu.ex
    cases ps with
    | nil => rw [← hp] at n1; cases n1
    | cons p0 ps =>
      have e0 := S.pre
      cases hN : fn.N with
      | nil => rw [hN] at e0; cases e0
      | cons x N' =>
        rw [hN] at e0
        have e1 : x = p0 := by
          have : (x :: N').take (p0 :: ps).length = x :: N'.take ps.length := rfl
          rw [this] at e0
          exact (List.cons.inj e0).1
        have loc : (defScope st).names.lookup p0 = some .local := by
          rw [hN] at nc
          have nc : isLoc ((defScope st).names.lookup x) = true := nc
          rw [← e1]
          exact lookup_loc nc
        exact fn_tok (k := k + 2) lk hcd S loc len fun A outer s H vs Q E hr sp => ⟨_, chkTs_ok fn.body _ (good cdv A outer s H vs Q E hr) hc, says vs H Q E sp⟩
structure DefAt (K : PySem.W.Frag) (mg : Str → Option Value) (Γ : Gam) (F : List Fn) (f : Nat) (x : Str) : Prop where
  ex : ∃ (fn : Fn) (st : Stmt) (a : Addr) (fd : FuncData) (ps : List Str), Γ.fns[f]? = some (x, fn.np) ∧ F[f]? = some fn ∧ mg x = some (.ref a) ∧ L2.Fun K x x st a fd ∧ FnScope fn.N ps (defScope st) ∧ ps.length = fn.np ∧
    chkB Γ fn.N (defScope st) fn.np fn.body (defBody st) = true ∧ Binds K fd ps []
theorem prog_ok {P : Program} {w : World} {K : PySem.W.Frag} {mg : Str → Option Value} {base : Heap} {F : List Fn}
    (hd : ∀ (f : Nat) (x : Str) (n : Nat), Γ.fns[f]? = some (x, n) → DefAt K mg Γ F f x)
    (hc : ∀ (g : Nat) (x : Str) (d : D), Γ.cns[g]? = some (x, d) → G[g]? = some d ∧ ∃ (v : V) (u : Value), mg x = some u ∧ RelV v u ∧ ∀ α H, RelD K α H d v)
    (hb : ∀ x ∈ Γ.blt, mg x = none) (hk : ∀ (x : Str) (g : Nat), (x, g) ∈ Γ.dks → ∃ kvs, G[g]? = some (.tup kvs) ∧ GdOk K w mg x kvs)
    (he : ∀ (c : Nat) (x : Str) (ns : List Str), Γ.exs[c]? = some (x, ns) → ∃ C : Addr, Y[c]? = some (C, ns) ∧ mg x = some (.ref C)) (xw : XWorld K Y) : ∀ (k f : Nat) (x : Str) (n : Nat), Γ.fns[f]? = some (x, n) → ∃ (a : Addr) (fd : FuncData) (ps : List Str), mg x = some (.ref a) ∧ PySem.W.keepIn K (.ref a) = true ∧ Binds K fd ps [] ∧
      FnOk P w K mg base (L2.CX P w) (k + 2) a fd ps (spD K Y n (run F G k f)) := by
  intro k
  induction k with
  | zero =>
    intro f x n hf
    obtain ⟨fn, st, a, fd, ps, e1, e2, hm, Fu, S, hp, ch, bi⟩ := (hd f x n hf).ex
    exact ⟨a, fd, ps, hm, Fu.kp, bi, ⟨fun vs H Q E sp => (by obtain ⟨_, _, _, _, _, _, q⟩ := sp; exact q.elim), fun A outer s H args us vs Q E _ _ _ _ sp => (by obtain ⟨_, _, _, _, _, _, q⟩ := sp; exact q.elim)⟩⟩
  | succ k ih =>
    intro f x n hf
    obtain ⟨fn, st, a, fd, ps, e1, e2, hm, Fu, S, hp, ch, bi⟩ := (hd f x n hf).ex
    rw [e1] at hf
    cases hf
    exact ⟨a, fd, ps, hm, Fu.kp, bi, fnD e2 Fu S hp ch fun X h1 h2 h3 h4 h5 => by
      subst h1 h2 h3 h4 h5
      exact ⟨ih, hc, hb, hk, he, xw⟩⟩
end DL
namespace DL
open PySem PySem.Spec PyProof.Rows L2

def defC (Γ : Gam) (ps : List Str) (fn : Fn) (st : Stmt) : Bool := C8.scC fn.N ps (defScope st) && decide (ps.length = fn.np) && chkB Γ fn.N (defScope st) fn.np fn.body (defBody st)
theorem defAt_mk {K : PySem.W.Frag} {mg : Str → Option Value} {Γ : Gam} {F : List Fn} {f : Nat} {x : Str} {fn : Fn} {st : Stmt} {ps : List Str} {a : Addr} {oc kV dc pm cd ct : Value} {od an : Option Addr} {sl : Array (Option Value)}
    (hf : F[f]? = some fn) (hm : mg x = some (.ref a)) (l : K.lookup a = some ⟨oc, od, .func (PySem.W.fnOf x x (defArgs st) (defBody st) (defScope st) .none kV dc pm an cd ct), sl⟩) (c : PySem.W.codeIn K cd x = true) (kp : PySem.W.keepIn K (.ref a) = true)
    (ch : defC Γ ps fn st = true) (hΓ : Γ.fns[f]? = some (x, fn.np))
    (hb : ∀ (kV doc pm : Value) (an : Option Addr) (cdv ct : Value) (us : List Value), us.length = ps.length → bindArgs (PySem.W.fnOf x x (defArgs st) (defBody st) (defScope st) .none kV doc pm an cdv ct) ⟨us, []⟩ = pure (ps.zip us)) : DefAt K mg Γ F f x := by
  unfold defC at ch
  simp only [Bool.and_eq_true] at ch
  have Fu := fun_mk (st := st) l c kp
  exact ⟨fn, st, a, _, ps, hΓ, hf, hm, Fu, C8.fnScope_by ch.1.1, of_decide_eq_true ch.1.2, ch.2, Fu.binds hb⟩
theorem law_fn {Y : Ys} {P : Program} {w : World} {K : PySem.W.Frag} {mg : Str → Option Value} {base : Heap} {Γ : Gam} {F : List Fn} {G : List D} {k f : Nat} {x y : Str} {fn : Fn} {st : Stmt} {a : Addr} {oc kV dc pm cd ct : Value} {od an : Option Addr} {sl : Array (Option Value)}
    (hd : ∀ (f : Nat) (x : Str) (n : Nat), Γ.fns[f]? = some (x, n) → DefAt K mg Γ F f x)
    (hc : ∀ (g : Nat) (x : Str) (d : D), Γ.cns[g]? = some (x, d) → G[g]? = some d ∧ ∃ (v : V) (u : Value), mg x = some u ∧ RelV v u ∧ ∀ α H, RelD K α H d v)
    (hb : ∀ x ∈ Γ.blt, mg x = none) (hk : ∀ (x : Str) (g : Nat), (x, g) ∈ Γ.dks → ∃ kvs, G[g]? = some (.tup kvs) ∧ GdOk K w mg x kvs)
    (he : ∀ (c : Nat) (x : Str) (ns : List Str), Γ.exs[c]? = some (x, ns) → ∃ C : Addr, Y[c]? = some (C, ns) ∧ mg x = some (.ref C)) (xw : XWorld K Y)
    (hf : F[f]? = some fn) (l : K.lookup a = some ⟨oc, od, .func (PySem.W.fnOf x x (defArgs st) (defBody st) (defScope st) .none kV dc pm an cd ct), sl⟩) (c : PySem.W.codeIn K cd x = true) (kp : PySem.W.keepIn K (.ref a) = true)
    (ch : defC Γ [y] fn st = true) : FnOk P w K mg base (L2.CX P w) (k + 3) a (PySem.W.fnOf x x (defArgs st) (defBody st) (defScope st) .none kV dc pm an cd ct) [y] (spD K Y 1 (run F G (k + 1) f)) := by
  unfold defC at ch
  simp only [Bool.and_eq_true, decide_eq_true_eq] at ch
  have e := ch.1.2
  have q := fnD (G := G) (k := k) (P := P) (w := w) (mg := mg) (base := base) hf (fun_mk (st := st) l c kp) (C8.fnScope_by ch.1.1) e ch.2 fun X h1 h2 h3 h4 h5 => by
    subst h1 h2 h3 h4 h5
    exact ⟨prog_ok hd hc hb hk he xw k, hc, hb, hk, he, xw⟩
  have e : 1 = fn.np := e
  rw [← e] at q
  exact q
def clsInit (st : Stmt) : Stmt := match st with
  | .ClassDef _ _ _ body _ _ _ _ _ _ _ => body.getD 0 (.Pass ⟨0, 0, 0, 0⟩)
  | st => st
def initC (ns : List Str) (st : Stmt) : Bool := C8.scC ("self" :: ns) ("self" :: ns) (defScope st) && chkI (defScope st) ns (defBody st) && !ns.isEmpty && decide (ns.length ≤ 900) && decide ns.Nodup
theorem exm_mk {K : PySem.W.Frag} {S S' : Addr} {b : Bool} (h1 : PySem.W.subIn K (.ref S') (.type "BaseException") = some true) (h2 : PySem.W.isClsIn K S' = true) (h3 : PySem.W.typeIn K (.ref S') = some (.type "type")) (h4 : PySem.W.subIn K (.ref S) (.ref S') = some b) :
    PySem.W.exmOne K (.ref S) (.ref S') = some b := by
  unfold PySem.W.exmOne
  rw [if_pos (by rw [h1]; rfl)]
  have e2 : ((PySem.W.clsIn K S').isSome && PySem.W.typeIn K (.ref S') == some (.type "type")) = true := by
    rw [h3, show (PySem.W.clsIn K S').isSome = true from h2]
    rfl
  show (if ((PySem.W.clsIn K S').isSome && PySem.W.typeIn K (.ref S') == some (.type "type")) = true then PySem.W.subIn K (.ref S) (.ref S') else none) = some b
  rw [if_pos e2]
  exact h4
theorem xcls_mk {K : PySem.W.Frag} {C C0 fI : Addr} {ns : List Str} {st : Stmt} {qual : Str} {nm q : Str} {N : Addr} {bs : List Value} {sn : List Str} {sub : List Value} {ab : Bool} {col : Option Bool} {dd : Option Addr} {m0 m1 m2 m3 m5 : Option Value} {g : Option Value}
    {oc kV dc pm cd ct : Value} {od an : Option Addr} {sl : Array (Option Value)}
    (xL : K.lookup C = some (excClassObj nm q C N bs [.ref C0, .type "ValueError", .type "Exception", .type "BaseException", .type "object"] true sn sub ab col dd m0 m1 m2 m3 m5 "ValueError.__new__"))
    (sa : PySem.W.findIn K (.ref C) "__setattr__" = some (some (.builtin "object.__setattr__"))) (ga : PySem.W.findIn K (.ref C) "__getattribute__" = some (some (.builtin "BaseException.__getattribute__"))) (gg : PySem.W.findIn K (.ref C) "__getattr__" = some g) (no : ∀ f ∈ ns, PySem.W.findIn K (.ref C) f = some none)
    (iC : PySem.W.findIn K (.ref C) "__init__" = some (some (.ref fI))) (tI : PySem.W.typeIn K (.ref fI) = some (.type "function"))
    (l : K.lookup fI = some ⟨oc, od, .func (PySem.W.fnOf "__init__" qual (defArgs st) (defBody st) (defScope st) .none kV dc pm an cd ct), sl⟩) (c : PySem.W.codeIn K cd qual = true) (kp : PySem.W.keepIn K (.ref fI) = true)
    (kC : PySem.W.keepIn K (.ref C) = true) (eC : PySem.W.subIn K (.ref C) (.type "BaseException") = some true) (tC : PySem.W.typeIn K (.ref C) = some (.type "type")) (hC : PySem.W.hasDictIn K C = true) (ch : initC ns st = true)
    (hb : ∀ (kV doc pm : Value) (an : Option Addr) (cdv ct : Value) (us : List Value), us.length = (("self" : Str) :: ns).length → bindArgs (PySem.W.fnOf "__init__" qual (defArgs st) (defBody st) (defScope st) .none kV doc pm an cdv ct) ⟨us, []⟩ = pure ((("self" : Str) :: ns).zip us)) : XCls K C ns := by
  unfold initC at ch
  simp only [Bool.and_eq_true, Bool.not_eq_true', decide_eq_true_eq] at ch
  obtain ⟨⟨⟨⟨h1, h2⟩, h3⟩, h4⟩, h5⟩ := ch
  have ox : OexC K C := ⟨⟨nm, q, N, bs, _, sn, sub, ab, col, dd, m0, m1, m2, m3, m5, xL, (show PySem.HandSPX.refsVE [.type "ValueError", .type "Exception", .type "BaseException", .type "object"] = true by decide +kernel)⟩, sa, eC, tC, kC⟩
  have Fu := fun_mk (st := st) l c kp
  refine ⟨ox, ga, ⟨g, gg⟩, hC, no, h5, h4, fI, _, iC, tI, Fu.binds hb, fun P w mg base => ?_⟩
  cases ns with
  | nil => cases h3
  | cons f0 ns => exact init_fn Fu (C8.fnScope_by h1) ox no h4 h2
def spR (K : PySem.W.Frag) (n : Nat) (cl : List D → Hd → R W) : Sp := fun vs H Q E => ∃ α hd ds, Rl K α hd H ∧ RelDs K α H ds vs ∧ ds.length = n ∧ PoW K α H (cl ds hd) Q
theorem spR_of {P : Program} {w : World} {K : PySem.W.Frag} {mg : Str → Option Value} {base : Heap} {CX : CXT} {k : Nat} {f : Addr} {fd : FuncData} {ps : List Str} {Y : Ys} {n : Nat} {cl : List D → Hd → R W} (F : FnOk P w K mg base CX k f fd ps (spD K Y n cl)) : FnOk P w K mg base CX k f fd ps (spR K n cl) :=
  F.imp fun _ _ _ _ ⟨α, hd, ds, R, r, hl, q⟩ => ⟨α, hd, ds, R, r, hl, .of q⟩
theorem law_walk {l : PySem.W.OpenLaw} {q : Program} {loose : List Str} {XP : (Str → Option Value) → Heap → Prop} {YP : World → Heap → Prop} {d : DefRec} {K : Params → PySem.W.Frag} {F : List Fn} {G : List D} {k f : Nat} {x : Str} (hn : l.most = some 63) (hdf : d.params.defaults = [])
    (hY : ∀ (w : World) (h : Heap), YP w h → (K w.params).In h) (hr : Room (k + 2) callerA)
    (FF : ∀ (w : World) (mg : Str → Option Value) (fa : Addr) (h : Heap), (K w.params).In h → h.Ns mainGlobals mg → mg d.name = some (.ref fa) →
      ∃ fd : FuncData, (∀ (s : Shared) (u : Value), BindsTo s fd ⟨[u], []⟩ [(x, u)]) ∧ ∀ base : Heap, (K w.params).In base → base.Ns mainGlobals mg → FnOk l.prog w (K w.params) mg base (L2.CX l.prog w) (k + 2) fa fd [x] (spR (K w.params) 1 (run F G k f)))
    (law : ∀ ns : List Int, ns.length ≤ 63 → ∃ h, run F G k f [.ro (ns.map .int)] [] = .ok (.v (.bl true)) h) :
    PySem.W.WalkO q loose XP YP l.row.toRowW d [] (fun f vs => PySem.call f vs) :=
  L2.walk_of (n := 63) (k := k + 2) (x := x) (CX := fun w => L2.CX l.prog w) (sp := fun w => spR (K w.params) 1 (run F G k f)) hn (by decide) hdf hr hY FF (fun w H a ns hl hO hS => by
    refine ⟨[], [], [.ro (ns.map .int)], ⟨rfl, List.nodup_nil, fun n o a e => by cases e⟩, ⟨_, [], rfl, ⟨a, _, rfl, ?_, relInts ns⟩, rfl⟩, rfl, ?_⟩
    · rcases hS with (h | ⟨o, h⟩) | h
      · rcases hO a with z | ⟨o, us, z⟩
        · rw [z] at h; cases h
        · rw [z] at h; cases h
      · exact .inl ⟨o, h⟩
      · exact .inr h
    · obtain ⟨h, e⟩ := law ns hl
      rw [e]
      exact fun _ _ v _ _ r _ => r) fun _ _ _ _ _ z => by
    obtain ⟨_, _, _, _, _, _, _, _, _, _, _, _, z⟩ := z
    exact z.elim
end DL
namespace DL
open PySem PySem.Spec PyProof.Rows L2

def Ok {A : Type} (r : R A) (P : A → Hd → Prop) : Prop := ∃ a h, r = .ok a h ∧ P a h
theorem Ok.eq {A : Type} {r : R A} {P : A → Hd → Prop} {a : A} {h : Hd} (e : r = .ok a h) (q : P a h) : Ok r P := ⟨a, h, e, q⟩
theorem Ok.mono {A : Type} {r : R A} {P Q : A → Hd → Prop} (k : Ok r P) (m : ∀ a h, P a h → Q a h) : Ok r Q := let ⟨a, h, e, p⟩ := k; ⟨a, h, e, m a h p⟩
theorem Ok.bind {A B : Type} {r : R A} {f : A → Hd → R B} {Q : B → Hd → Prop} (k : Ok r fun a h => Ok (f a h) Q) : Ok (r.bind f) Q := by
  obtain ⟨a, h, e, b, h', e', q⟩ := k
  exact ⟨b, h', by rw [e]; exact e', q⟩
section
variable {C : Cls} {G : List D} {σ : Sd} {h : Hd} {Q : Fl → Hd → Prop} {s : Sm} {ss : List Sm}
def Thn (C : Cls) (G : List D) (ss : List Sm) (Q : Fl → Hd → Prop) : Fl → Hd → Prop := fun r h => match r with
  | .nx σ => Ok (sdns C G ss σ h) Q
  | r => Q r h
theorem Ok.stp (k : Ok (sdn C G s σ h) (Thn C G ss Q)) : Ok (sdns C G (s :: ss) σ h) Q := by
  obtain ⟨r, h1, e, q⟩ := k
  have e2 : sdns C G (s :: ss) σ h = sCons (sdn C G s) (sdns C G ss) σ h := rfl
  rw [e2]
  unfold sCons
  rw [e]
  cases r with
  | nx σ' => exact q
  | rt w => exact ⟨_, _, rfl, q⟩
  | bk σ' => exact ⟨_, _, rfl, q⟩
  | ct σ' => exact ⟨_, _, rfl, q⟩
  | xc c fs σ' => exact ⟨_, _, rfl, q⟩
theorem Ok.nx {σ' : Sd} {h1 : Hd} (e : sdn C G s σ h = .ok (.nx σ') h1) (k : Ok (sdns C G ss σ' h1) Q) : Ok (sdns C G (s :: ss) σ h) Q := .stp (.eq e k)
theorem Ok.nil (q : Q (.nx σ) h) : Ok (sdns C G [] σ h) Q := .eq (a := .nx σ) rfl q
theorem Ok.ret {e : Ex} {w : W} {h1 : Hd} (ee : (dn C G e).v σ h = .ok w h1) (q : Q (.rt w) h1) : Ok (sdns C G (.ret e :: ss) σ h) Q := by
  refine .stp (.eq (a := .rt w) (h := h1) ?_ q)
  show sRet (dn C G e).v σ h = _
  unfold sRet
  rw [ee]
  rfl
theorem Ok.app {a : List Sm} (k : Ok (sdns C G (a ++ ss) σ h) Q) : Ok (sdns C G a σ h) (Thn C G ss Q) := by
  induction a generalizing σ h with
  | nil => exact .nil k
  | cons s a ih =>
    obtain ⟨r, h1, e, q⟩ := k
    have e2 : sdns C G (s :: a ++ ss) σ h = sCons (sdn C G s) (sdns C G (a ++ ss)) σ h := rfl
    rw [e2] at e
    unfold sCons at e
    cases es : sdn C G s σ h with
    | ok r2 h2 =>
      rw [es] at e
      refine .stp (.eq es ?_)
      cases r2 with
      | nx σ' => exact ih ⟨r, h1, e, q⟩
      | rt w => cases e; exact q
      | bk σ' => cases e; exact q
      | ct σ' => cases e; exact q
      | xc c fs σ' => cases e; exact q
    | ex => rw [es] at e; cases e
    | no => rw [es] at e; cases e
theorem Ok.if_ {c : Ex} {a b : List Sm} {t : Bool} {h1 : Hd} (e : (dn C G c).t σ h = .ok t h1) (kt : t = true → Ok (sdns C G (a ++ ss) σ h1) Q) (kf : t = false → Ok (sdns C G (b ++ ss) σ h1) Q) : Ok (sdns C G (.ite c a b :: ss) σ h) Q := by
  refine .stp ?_
  show Ok (sIf (dn C G c).t (sdns C G a) (sdns C G b) σ h) _
  unfold sIf
  rw [e]
  cases t with
  | true => exact .app (kt rfl)
  | false => exact .app (kf rfl)
theorem Ok.ifT {c : Ex} {a b : List Sm} {h1 : Hd} (e : (dn C G c).t σ h = .ok true h1) (k : Ok (sdns C G (a ++ ss) σ h1) Q) : Ok (sdns C G (.ite c a b :: ss) σ h) Q := .if_ e (fun _ => k) fun z => by cases z
theorem Ok.ifF {c : Ex} {a b : List Sm} {h1 : Hd} (e : (dn C G c).t σ h = .ok false h1) (k : Ok (sdns C G (b ++ ss) σ h1) Q) : Ok (sdns C G (.ite c a b :: ss) σ h) Q := .if_ e (fun z => by cases z) fun _ => k
end
def lsrc (n : Nat) : Src := .re fun i h => match h[n]? with
  | some (.lst xs) => some xs[i]?
  | _ => none
theorem src_obj {n : Nat} {h : Hd} {xs : List D} (e : h[n]? = some (.lst xs)) : (W.v (.obj n)).src h = some (lsrc n) := by
  simp only [W.src, e]
  rfl
def Walks (s : Src) (xs : List D) (ok : Hd → Prop) : Prop := match s with
  | .fx ys => ys = xs
  | .re g => xs.length < FU ∧ ∀ i h, ok h → g i h = some xs[i]?
theorem Walks.fx (xs : List D) : Walks (.fx xs) xs fun _ => True := rfl
theorem Walks.lst (n : Nat) {xs : List D} (hz : xs.length < FU) : Walks (lsrc n) xs fun h => h[n]? = some (.lst xs) := ⟨hz, fun i h e => by simp only [e]⟩
section
variable {Q : Fl → Hd → Prop}
def Trn (Q : Fl → Hd → Prop) (N : Sd → Hd → Prop) : Fl → Hd → Prop := fun r h => match r with
  | .nx σ => N σ h
  | .ct σ => N σ h
  | .bk σ => Q (.nx σ) h
  | .rt w => Q (.rt w) h
  | .xc c fs σ => Q (.xc c fs σ) h
theorem forS_ok {s : Src} {xs : List D} {ok : Hd → Prop} {b : FT} {σ : Sd} {h : Hd} (I : Nat → Sd → Hd → Prop) (w : Walks s xs ok) (h0 : I 0 σ h) (hok : ∀ i σ h, I i σ h → ok h)
    (stp : ∀ i d σ h, xs[i]? = some d → I i σ h → Ok (b d σ h) (Trn Q (I (i + 1)))) (fin : ∀ σ h, I xs.length σ h → Q (.nx σ) h) : Ok (forS s b σ h) Q := by
  have re : ∀ (g : Nat → Hd → Option (Option D)) (n i m : Nat) (σ : Sd) (h : Hd), (∀ i h, ok h → g i h = some xs[i]?) → xs.length - i = n → i ≤ xs.length → n < m → I i σ h → Ok (forRe g b m i σ h) Q := by
    intro g n
    induction n with
    | zero =>
      intro i m σ h hg hn hi hm hI
      cases m with
      | zero => omega
      | succ m =>
        have e : i = xs.length := by omega
        subst e
        unfold forRe
        rw [hg _ _ (hok _ _ _ hI), List.getElem?_eq_none (Nat.le_refl _)]
        exact ⟨_, _, rfl, fin _ _ hI⟩
    | succ n ih =>
      intro i m σ h hg hn hi hm hI
      cases m with
      | zero => omega
      | succ m =>
        have hl : i < xs.length := by omega
        unfold forRe
        rw [hg _ _ (hok _ _ _ hI), List.getElem?_eq_getElem hl]
        refine Ok.bind ((stp i _ σ h (List.getElem?_eq_getElem hl) hI).mono fun r h' q => ?_)
        cases r with
        | nx σ' => exact ih (i + 1) m σ' h' hg (by omega) (by omega) (by omega) q
        | ct σ' => exact ih (i + 1) m σ' h' hg (by omega) (by omega) (by omega) q
        | bk σ' => exact ⟨_, _, rfl, q⟩
        | rt w => exact ⟨_, _, rfl, q⟩
        | xc c fs σ' => exact ⟨_, _, rfl, q⟩
  cases s with
  | fx ys =>
    have e : ys = xs := w
    subst e
    show Ok (forFx b ys σ h) Q
    have q := re (fun i _ => some ys[i]?) (ys.length - 0) 0 (ys.length - 0 + 1) σ h (fun _ _ _ => rfl) rfl (Nat.zero_le _) (Nat.lt_succ_self _) h0
    rw [forFx_re b ys 0 σ h (Nat.zero_le _)] at q
    exact q
  | re g => exact re g (xs.length - 0) 0 FU σ h w.2 rfl (Nat.zero_le _) (by have := w.1; omega) h0
theorem Ok.for_ {C : Cls} {G : List D} {t : Tg} {it : Ex} {b ss : List Sm} {σ : Sd} {h h1 : Hd} {s : Src} {xs : List D} {ok : Hd → Prop} (I : Nat → Sd → Hd → Prop) (e : (dn C G it).i σ h = .ok s h1) (w : Walks s xs ok) (h0 : I 0 σ h1) (hok : ∀ i σ h, I i σ h → ok h)
    (stp : ∀ i d σ h, xs[i]? = some d → I i σ h → ∃ σ', t.put d σ = some σ' ∧ Ok (sdns C G b σ' h) (Trn (Thn C G ss Q) (I (i + 1)))) (fin : ∀ σ h, I xs.length σ h → Ok (sdns C G ss σ h) Q) : Ok (sdns C G (.for_ t it b :: ss) σ h) Q := by
  refine .stp ?_
  show Ok (sFor (dn C G it).i t (sdns C G b) σ h) _
  unfold sFor
  rw [e]
  refine forS_ok I w h0 hok (fun i d σ h hd hI => ?_) fin
  obtain ⟨σ', ep, k⟩ := stp i d σ h hd hI
  simp only [turnS, ep]
  exact k
theorem whileF_ok {c : FB} {b : FSt} (I : Nat → Sd → Hd → Prop)
    (stp : ∀ n σ h, I n σ h → Ok (c σ h) fun t h1 => if t = true then Ok (b σ h1) (Trn Q fun σ' h' => ∃ m, m < n ∧ I m σ' h') else Q (.nx σ) h1) :
    ∀ (m n : Nat) (σ : Sd) (h : Hd), n < m → I n σ h → Ok (whileF c b m σ h) Q := by
  intro m
  induction m with
  | zero => intro n σ h hn _; omega
  | succ m ih =>
    intro n σ h hn hI
    unfold whileF
    refine Ok.bind ((stp n σ h hI).mono fun t h1 q => ?_)
    cases t with
    | false => exact ⟨_, _, rfl, q⟩
    | true =>
      refine Ok.bind (Ok.mono (show Ok (b σ h1) _ from q) fun r h' q => ?_)
      cases r with
      | nx σ' => obtain ⟨j, hj, hI⟩ := q; exact ih j σ' h' (by omega) hI
      | ct σ' => obtain ⟨j, hj, hI⟩ := q; exact ih j σ' h' (by omega) hI
      | bk σ' => exact ⟨_, _, rfl, q⟩
      | rt w => exact ⟨_, _, rfl, q⟩
      | xc c fs σ' => exact ⟨_, _, rfl, q⟩
theorem Ok.whl {C : Cls} {G : List D} {c : Ex} {b ss : List Sm} {σ : Sd} {h : Hd} (n : Nat) (hn : n < FU) (I : Nat → Sd → Hd → Prop) (h0 : I n σ h)
    (stp : ∀ n σ h, I n σ h → ∃ t h1, (dn C G c).t σ h = .ok t h1 ∧ (t = true → Ok (sdns C G b σ h1) (Trn (Thn C G ss Q) fun σ' h' => ∃ m, m < n ∧ I m σ' h')) ∧ (t = false → Ok (sdns C G ss σ h1) Q)) : Ok (sdns C G (.whl c b :: ss) σ h) Q := by
  refine .stp ?_
  show Ok (sWhile (dn C G c).t (sdns C G b) σ h) _
  refine whileF_ok I (fun n σ h hI => ?_) FU n σ h hn h0
  obtain ⟨t, h1, e, kt, kf⟩ := stp n σ h hI
  refine ⟨t, h1, e, ?_⟩
  cases t with
  | true => exact kt rfl
  | false => exact kf rfl
end
theorem compS_ok {s : Src} {xs : List D} {ok : Hd → Prop} {b : FC} {h : Hd} (I : Nat → List D → Hd → Prop) (w : Walks s xs ok) (h0 : I 0 [] h) (hok : ∀ i ys h, I i ys h → ok h)
    (stp : ∀ i d ys h, xs[i]? = some d → I i ys h → Ok (b d h) fun o h' => I (i + 1) (ys ++ o.toList) h') : Ok (compS s b h) (I xs.length) := by
  have re : ∀ (g : Nat → Hd → Option (Option D)) (n i m : Nat) (acc : List D) (h : Hd), (∀ i h, ok h → g i h = some xs[i]?) → xs.length - i = n → i ≤ xs.length → n < m → I i acc h → Ok (compRe g b m i h) fun r h' => I xs.length (acc ++ r) h' := by
    intro g n
    induction n with
    | zero =>
      intro i m acc h hg hn hi hm hI
      cases m with
      | zero => omega
      | succ m =>
        have e : i = xs.length := by omega
        subst e
        unfold compRe
        rw [hg _ _ (hok _ _ _ hI), List.getElem?_eq_none (Nat.le_refl _)]
        exact ⟨[], h, rfl, by show I xs.length (acc ++ []) h; rw [List.append_nil]; exact hI⟩
    | succ n ih =>
      intro i m acc h hg hn hi hm hI
      cases m with
      | zero => omega
      | succ m =>
        have hl : i < xs.length := by omega
        unfold compRe
        rw [hg _ _ (hok _ _ _ hI), List.getElem?_eq_getElem hl]
        refine Ok.bind ((stp i _ acc h (List.getElem?_eq_getElem hl) hI).mono fun o h' q => ?_)
        refine Ok.bind ((ih (i + 1) m _ h' hg (by omega) (by omega) (by omega) q).mono fun r h2 q2 => ⟨_, _, rfl, ?_⟩)
        cases o with
        | none => simpa using q2
        | some y => simpa using q2
  cases s with
  | fx ys =>
    have e : ys = xs := w
    subst e
    show Ok (compFx b ys h) _
    have q := re (fun i _ => some ys[i]?) (ys.length - 0) 0 (ys.length - 0 + 1) [] h (fun _ _ _ => rfl) rfl (Nat.zero_le _) (Nat.lt_succ_self _) h0
    rw [compFx_re b ys 0 h (Nat.zero_le _)] at q
    exact q
  | re g => exact re g (xs.length - 0) 0 FU [] h w.2 rfl (Nat.zero_le _) (by have := w.1; omega) h0
theorem lc_ok {C : Cls} {G : List D} {elt it : Ex} {tg : Tg} {c : Option Ex} {own : List Nat} {σ : Sd} {h h1 : Hd} {s : Src} {xs : List D} {ok : Hd → Prop} {Q : List D → Hd → Prop} (I : Nat → List D → Hd → Prop) (e : (dn C G it).i σ h = .ok s h1) (w : Walks s xs ok) (h0 : I 0 [] h1) (hok : ∀ i ys h, I i ys h → ok h)
    (stp : ∀ i d ys h, xs[i]? = some d → I i ys h → ∃ σ', tg.put d (wipeD σ own) = some σ' ∧ Ok (dnc C G c σ' h) fun t h' => if t = true then Ok (vSet (dn C G elt).v σ' h') (fun w h2 => ∃ y, w = .v y ∧ I (i + 1) (ys ++ [y]) h2) else I (i + 1) ys h')
    (fin : ∀ ys h, I xs.length ys h → ys.length ≤ sizeLine ∧ Q ys h) : ∃ ys h2, (dn C G (.lc elt tg it c own)).v σ h = .ok (.l ys) h2 ∧ Q ys h2 := by
  have q : Ok (compS s (turnF tg (dnc C G c) (dn C G elt).v own σ) h1) (I xs.length) := by
    refine compS_ok I w h0 hok fun i d ys h hd hI => ?_
    obtain ⟨σ', ep, k⟩ := stp i d ys h hd hI
    simp only [turnF, ep]
    refine Ok.bind (k.mono fun t h' q => ?_)
    cases t with
    | false => exact ⟨_, _, rfl, by simpa using q⟩
    | true =>
      refine Ok.bind (Ok.mono (show Ok (vSet (dn C G elt).v σ' h') _ from q) fun w h2 q2 => ?_)
      obtain ⟨y, rfl, hI⟩ := q2
      exact ⟨_, _, rfl, hI⟩
  obtain ⟨ys, h2, eq, hI⟩ := q
  obtain ⟨hz, hq⟩ := fin ys h2 hI
  refine ⟨ys, h2, ?_, hq⟩
  show vLc (dn C G it).i tg (dnc C G c) (dn C G elt).v own σ h = _
  unfold vLc
  rw [e]
  simp only [R.bind_ok, eq, if_pos hz]
theorem run_eq {F : List Fn} {G : List D} {k f : Nat} {fn : Fn} {ds : List D} {h : Hd} (e : F[f]? = some fn) (hl : ds.length = fn.np) : run F G (k + 1) f ds h = gc h (endB (sdns (run F G k) G fn.body (startD fn.N ds) h)) := by
  simp only [run, e, hl, if_true]
def Fin (h0 : Hd) (P : W → Hd → Prop) : Fl → Hd → Prop := fun r h => match r with
  | .rt w => Ok (gc h0 (.ok w h)) P
  | .nx _ => Ok (gc h0 (.ok (.v .non) h)) P
  | _ => False
theorem run_ok {F : List Fn} {G : List D} {k f : Nat} {fn : Fn} {ds : List D} {h : Hd} {P : W → Hd → Prop} (e : F[f]? = some fn) (hl : ds.length = fn.np) (b : Ok (sdns (run F G k) G fn.body (startD fn.N ds) h) (Fin h P)) : Ok (run F G (k + 1) f ds h) P := by
  rw [run_eq e hl]
  obtain ⟨r, h1, er, q⟩ := b
  rw [er]
  cases r with
  | rt w => exact q
  | nx σ => exact q
  | bk σ => exact q.elim
  | ct σ => exact q.elim
  | xc c fs σ => exact q.elim
def FinX (h0 : Hd) (c : Nat) (fs : List D) (h' : Hd) : Fl → Hd → Prop := fun r h => ∃ σ, r = .xc c fs σ ∧ gc h0 (.ex c fs h) = .ex c fs h'
theorem run_ex {F : List Fn} {G : List D} {k f : Nat} {fn : Fn} {ds : List D} {h h' : Hd} {c : Nat} {fs : List D} (e : F[f]? = some fn) (hl : ds.length = fn.np) (b : Ok (sdns (run F G k) G fn.body (startD fn.N ds) h) (FinX h c fs h')) : run F G (k + 1) f ds h = .ex c fs h' := by
  rw [run_eq e hl]
  obtain ⟨r, h1, er, σ, rfl, q⟩ := b
  rw [er]
  exact q
def Eld (h h1 : Hd) : Prop := h1.length = h.length ∧ ∀ (i : Nat) (o : O), h1[i]? = some o → h[i]? = some o ∨ o.low h.length = true
theorem Eld.elder {h h1 L : Hd} (e : Eld h h1) : Elder h (h1 ++ L) := fun i o hi eo => by
  rw [List.getElem?_append_left (by rw [e.1]; exact hi)] at eo
  exact e.2 i o eo
theorem Eld.take {h h1 L : Hd} (e : Eld h h1) : (h1 ++ L).take h.length = h1 := by rw [← e.1, List.take_left']; rfl
theorem Eld.refl (h : Hd) : Eld h h := ⟨rfl, fun _ _ e => .inl e⟩
theorem Eld.trans {h h1 h2 : Hd} (a : Eld h h1) (b : Eld h1 h2) : Eld h h2 := ⟨b.1.trans a.1, fun i o e => by
  rcases b.2 i o e with z | z
  · exact a.2 i o z
  · rw [a.1] at z; exact .inr z⟩
theorem Eld.set {h : Hd} (p : Nat) {o : O} (ho : o.low h.length = true) : Eld h (h.set p o) := ⟨by simp, fun i u e => by
  by_cases hp : i = p
  · subst hp
    by_cases hl : i < h.length
    · rw [List.getElem?_set_self hl] at e
      cases e
      exact .inr ho
    · rw [List.getElem?_eq_none (by simpa using hl)] at e
      cases e
  · rw [List.getElem?_set_ne (Ne.symm hp)] at e
    exact .inl e⟩
mutual
theorem low_of {n : Nat} : ∀ {d : D}, d.noObj = true → d.low n = true
  | .non, _ => rfl
  | .bl _, _ => rfl
  | .int _, _ => rfl
  | .str _, _ => rfl
  | .obj _, h => by cases h
  | .tup xs, h => lows_of (ds := xs) h
  | .ro xs, h => lows_of (ds := xs) h
  | .xt xs, h => lows_of (ds := xs) h
theorem lows_of {n : Nat} : ∀ {ds : List D}, D.noObjs ds = true → D.lows n ds = true
  | [], _ => rfl
  | d :: ds, h => by
    have h : (d.noObj && D.noObjs ds) = true := h
    rw [Bool.and_eq_true] at h
    show (d.low n && D.lows n ds) = true
    rw [low_of h.1, lows_of h.2]
    rfl
end
theorem gc_x {h h1 L : Hd} {c : Nat} {fs : List D} (e : Eld h h1) (hd : D.noObjs fs = true) : gc h (.ex c fs (h1 ++ L)) = .ex c fs h1 := by
  simp only [gc]
  rw [if_pos ⟨e.elder, lows_of hd⟩, e.take]
theorem gc_v {h h1 L : Hd} {d : D} (e : Eld h h1) (hd : d.noObj = true) : gc h (.ok (.v d) (h1 ++ L)) = .ok (.v d) h1 := by
  have lw : d.low h.length = true := low_of hd
  simp only [gc]
  rw [if_pos e.elder]
  cases d with
  | obj m => cases hd
  | _ => simp only [gcW, lw, if_true, e.take]
theorem gc_l {h h1 L : Hd} {xs : List D} (e : Eld h h1) (hd : D.noObjs xs = true) : gc h (.ok (.l xs) (h1 ++ L)) = .ok (.l xs) h1 := by
  simp only [gc]
  rw [if_pos e.elder]
  simp only [gcW, lows_of hd, if_true, e.take]
theorem gc_o {h h1 L : Hd} {m : Nat} {xs : List D} (e : Eld h h1) (hm : h.length ≤ m) (hx : (h1 ++ L)[m]? = some (.lst xs)) (hd : D.noObjs xs = true) : gc h (.ok (.v (.obj m)) (h1 ++ L)) = .ok (.l xs) h1 := by
  simp only [gc]
  rw [if_pos e.elder]
  simp only [gcW, if_neg (Nat.not_lt.mpr hm), hx, lows_of hd, if_true, e.take]
end DL
namespace DL
open PySem PySem.Spec PyProof.Rows L2
section
variable {C : Cls} {G : List D} {σ : Sd} {h : Hd} {i : Nat} {a b c : Ex}
@[simp] theorem ev_var {d : D} (e : σ[i]? = some (some d)) : (dn C G (.var i)).v σ h = .ok (.v d) h := by
  show vVar i σ h = _
  simp only [vVar, e]
@[simp] theorem ev_non : (dn C G .non).v σ h = .ok (.v .non) h := rfl
@[simp] theorem ev_bl {x : Bool} : (dn C G (.bl x)).v σ h = .ok (.v (.bl x)) h := rfl
@[simp] theorem ev_int {x : Int} : (dn C G (.int x)).v σ h = .ok (.v (.int x)) h := rfl
@[simp] theorem ev_str {x : List Nat} : (dn C G (.str x)).v σ h = .ok (.v (.str x)) h := rfl
@[simp] theorem ev_dk : (dn C G .dk).v σ h = .ok (.v (.obj h.length)) (h ++ [.dK []]) := rfl
@[simp] theorem ev_dt : (dn C G .dt).v σ h = .ok (.v (.obj h.length)) (h ++ [.dT []]) := rfl
def evs (C : Cls) (G : List D) : List Ex → Sd → Hd → R (List D)
  | [], _, h => .ok [] h
  | e :: es, σ, h => ((dn C G e).v σ h).bind fun w h => (w.settle h).bind fun d h => (evs C G es σ h).bind fun ds h => .ok (d :: ds) h
theorem evs_eq : ∀ es : List Ex, vSeq ((dns C G es).map (·.v)) = evs C G es
  | [] => rfl
  | e :: es => by
    funext σ h
    show (((dn C G e).v σ h).bind fun w h => (w.settle h).bind fun d h => (vSeq ((dns C G es).map (·.v)) σ h).bind fun ds h => .ok (d :: ds) h) = _
    rw [evs_eq es]
    rfl
@[simp] theorem evs_nil : evs C G [] σ h = .ok [] h := rfl
@[simp] theorem evs_cons {e : Ex} {es : List Ex} : evs C G (e :: es) σ h = ((dn C G e).v σ h).bind fun w h => (w.settle h).bind fun d h => (evs C G es σ h).bind fun ds h => .ok (d :: ds) h := rfl
@[simp] theorem ev_tup {es : List Ex} : (dn C G (.tup es)).v σ h = (evs C G es σ h).bind fun ds h => if ds.length ≤ sizeLine then .ok (.v (.tup ds)) h else .no := by
  show vTup ((dns C G es).map (·.v)) σ h = _
  unfold vTup
  rw [evs_eq]
@[simp] theorem ev_lst {es : List Ex} : (dn C G (.lst es)).v σ h = (evs C G es σ h).bind fun ds h => if ds.length ≤ sizeLine then .ok (.l ds) h else .no := by
  show vLst ((dns C G es).map (·.v)) σ h = _
  unfold vLst
  rw [evs_eq]
@[simp] theorem ev_call {f : Nat} {es : List Ex} : (dn C G (.call f es)).v σ h = (evs C G es σ h).bind fun ds h => C f ds h := by
  show vCall (C f) [] ((dns C G es).map (·.v)) σ h = _
  unfold vCall
  rw [evs_eq]
  simp only [List.append_nil]
@[simp] theorem ev_bin {op : Operator} : (dn C G (.bin op a b)).v σ h = ((dn C G a).v σ h).bind fun x h => ((dn C G b).v σ h).bind fun y h => R.ofO (binop op x y h) h := rfl
@[simp] theorem ev_neg : (dn C G (.neg a)).v σ h = ((dn C G a).v σ h).bind fun x h => R.ofO (unop .USub x) h := rfl
@[simp] theorem ev_cmp {op : CmpOp} : (dn C G (.cmp op a b)).v σ h = ((dn C G (.cmp op a b)).t σ h).bind fun b h => .ok (.v (.bl b)) h := rfl
@[simp] theorem et_cmp {op : CmpOp} : (dn C G (.cmp op a b)).t σ h = ((dn C G a).v σ h).bind fun x h => ((dn C G b).v σ h).bind fun y h => R.ofO (cmpW op x y h) h := rfl
@[simp] theorem ev_and1 : (dn C G (.and_ [a])).v σ h = (dn C G a).v σ h := rfl
@[simp] theorem ev_and {es : List Ex} : (dn C G (.and_ (a :: b :: es))).v σ h = ((dn C G a).v σ h).bind fun w h => (R.ofO (w.truth h) h).bind fun t h => if t = true then (dn C G (.and_ (b :: es))).v σ h else .ok w h := rfl
@[simp] theorem et_and1 : (dn C G (.and_ [a])).t σ h = (dn C G a).t σ h := rfl
@[simp] theorem et_and {es : List Ex} : (dn C G (.and_ (a :: b :: es))).t σ h = ((dn C G a).t σ h).bind fun t h => if t = true then (dn C G (.and_ (b :: es))).t σ h else .ok false h := rfl
@[simp] theorem ev_or1 : (dn C G (.or_ [a])).v σ h = (dn C G a).v σ h := rfl
@[simp] theorem ev_or {es : List Ex} : (dn C G (.or_ (a :: b :: es))).v σ h = ((dn C G a).v σ h).bind fun w h => (R.ofO (w.truth h) h).bind fun t h => if t = true then .ok w h else (dn C G (.or_ (b :: es))).v σ h := rfl
@[simp] theorem et_or1 : (dn C G (.or_ [a])).t σ h = (dn C G a).t σ h := rfl
@[simp] theorem et_or {es : List Ex} : (dn C G (.or_ (a :: b :: es))).t σ h = ((dn C G a).t σ h).bind fun t h => if t = true then .ok true h else (dn C G (.or_ (b :: es))).t σ h := rfl
@[simp] theorem et_not : (dn C G (.not_ a)).t σ h = ((dn C G a).t σ h).bind fun t h => .ok (!t) h := rfl
@[simp] theorem ev_not : (dn C G (.not_ a)).v σ h = ((dn C G a).v σ h).bind fun w h => R.ofO ((w.truth h).map fun b => .v (.bl !b)) h := rfl
@[simp] theorem ev_ite : (dn C G (.ite c a b)).v σ h = ((dn C G c).t σ h).bind fun t h => if t = true then (dn C G a).v σ h else (dn C G b).v σ h := rfl
@[simp] theorem ev_ix : (dn C G (.ix a b)).v σ h = ((dn C G a).v σ h).bind fun x h => ((dn C G b).v σ h).bind fun y h => R.ofO (getIx x y h) h := rfl
def evo (C : Cls) (G : List D) (o : Option Ex) : Sd → Hd → R (Option Int) := partF (dno C G o)
@[simp] theorem evo_none : evo C G none σ h = .ok none h := rfl
@[simp] theorem evo_some : evo C G (some a) σ h = ((dn C G a).v σ h).bind fun w h => match w with
      | .v (.int i) => .ok (some i) h
      | _ => .no := rfl
@[simp] theorem ev_sl {lo hi : Option Ex} : (dn C G (.sl a lo hi)).v σ h = ((dn C G a).v σ h).bind fun x h => (evo C G lo σ h).bind fun l h => (evo C G hi σ h).bind fun u h => R.ofO (getSl x l u h) h := rfl
@[simp] theorem ev_rev : (dn C G (.rev a)).v σ h = ((dn C G a).v σ h).bind fun x h => R.ofO (revSl x h) h := rfl
@[simp] theorem ev_back : (dn C G (.back a)).v σ h = ((dn C G a).v σ h).bind fun x h => match x with
  | .v (.tup xs) => if 0 < xs.length then .ok (.v (.tup (xs.drop 1).reverse)) h else .no
  | _ => .no := rfl
@[simp] theorem ev_b1 {f : B1} : (dn C G (.b1 f a)).v σ h = ((dn C G a).v σ h).bind fun x h => R.ofO (bl1 f x h) h := rfl
@[simp] theorem ev_b2 {f : B2} : (dn C G (.b2 f a b)).v σ h = ((dn C G a).v σ h).bind fun x h => ((dn C G b).v σ h).bind fun y h => R.ofO (bl2 f x y) h := rfl
@[simp] theorem ev_isi {t : Ty} : (dn C G (.isi t a)).v σ h = ((dn C G a).v σ h).bind fun x h => (R.ofO (isTy t x h) h).bind fun b h => .ok (.v (.bl b)) h := by
  show (((dn C G a).v σ h).bind fun w h => R.ofO (isTy t w h) h).bind _ = _
  cases (dn C G a).v σ h <;> rfl
@[simp] theorem ev_m0 {m : M0} : (dn C G (.m0 m a)).v σ h = ((dn C G a).v σ h).bind fun x h => mt0 m x h := rfl
@[simp] theorem ev_append : (dn C G (.m1 .append a b)).v σ h = ((dn C G a).v σ h).bind fun x h => if isL x h = true then ((dn C G b).v σ h).bind fun w h => (w.settle h).bind fun d h => mt1 .append x (.v d) h else .no := by
  show (((dn C G a).v σ h).bind fun x h => if isL x h = true then (vSet (dn C G b).v σ h).bind fun y h => mt1 .append x y h else .no) = _
  congr 1
  funext x h1
  split
  · unfold vSet
    cases (dn C G b).v σ h1 with
    | ok w h2 => cases w <;> rfl
    | ex => rfl
    | no => rfl
  · rfl
@[simp] theorem ev_extend : (dn C G (.m1 .extend a b)).v σ h = ((dn C G a).v σ h).bind fun x h => if isL x h = true then ((dn C G b).v σ h).bind fun y h => mt1 .extend x y h else .no := rfl
@[simp] theorem ev_popAt : (dn C G (.m1 .pop a b)).v σ h = ((dn C G a).v σ h).bind fun x h => if isL x h = true then ((dn C G b).v σ h).bind fun y h => mt1 .pop x y h else .no := rfl
@[simp] theorem ev_get : (dn C G (.m1 .get a b)).v σ h = ((dn C G a).v σ h).bind fun x h => if isDk x h = true then ((dn C G b).v σ h).bind fun y h => mt1 .get x y h else .no := rfl
@[simp] theorem ev_join : (dn C G (.m1 .join a b)).v σ h = ((dn C G a).v σ h).bind fun x h => if isS x h = true then ((dn C G b).v σ h).bind fun y h => mt1 .join x y h else .no := rfl
@[simp] theorem ev_count : (dn C G (.m1 .count a b)).v σ h = ((dn C G a).v σ h).bind fun w h => (w.settle h).bind fun d h => if isL (.v d) h = true then ((dn C G b).v σ h).bind fun y h => mt1 .count (.v d) y h else .no := by
  show ((vSet (dn C G a).v σ h).bind fun x h => if isL x h = true then ((dn C G b).v σ h).bind fun y h => mt1 .count x y h else .no) = _
  unfold vSet
  cases (dn C G a).v σ h with
  | ok w h2 => cases w <;> rfl
  | ex => rfl
  | no => rfl
@[simp] theorem ev_ins : (dn C G (.ins a b c)).v σ h = ((dn C G a).v σ h).bind fun x h => if isL x h = true then ((dn C G b).v σ h).bind fun y h => ((dn C G c).v σ h).bind fun w h => (w.settle h).bind fun d h => mtIns x y (.v d) h else .no := by
  show (((dn C G a).v σ h).bind fun x h => if isL x h = true then ((dn C G b).v σ h).bind fun y h => (vSet (dn C G c).v σ h).bind fun z h => mtIns x y z h else .no) = _
  congr 1
  funext x h1
  split
  · congr 1
    funext y h2
    unfold vSet
    cases (dn C G c).v σ h2 with
    | ok w h3 => cases w <;> rfl
    | ex => rfl
    | no => rfl
  · rfl
@[simp] theorem ev_xtup : (dn C G (.xtup a)).v σ h = ((dn C G a).v σ h).bind fun x h => R.ofO (blX x h) h := rfl
@[simp] theorem ev_xunit : (dn C G .xunit).v σ h = .ok (.v (.xt [])) h := rfl
@[simp] theorem ev_dictX : (dn C G (.dictX a)).v σ h = ((dn C G a).v σ h).bind fun x h => dictW x h := rfl
def evp (C : Cls) (G : List D) : List Ex → List Ex → Sd → Hd → R (List (DK × D))
  | k :: ks, v :: vs, σ, h => ((dn C G k).v σ h).bind fun w h => match w with
    | .v dk => match dk.key? with
      | some key => ((dn C G v).v σ h).bind fun w h => (w.settle h).bind fun d h => (evp C G ks vs σ h).bind fun l h => .ok ((key, d) :: l) h
      | none => .no
    | .l _ => .no
  | _, _, _, h => .ok [] h
theorem evp_eq : ∀ ks vs : List Ex, pairSeq (((dns C G ks).map (·.v)).zip ((dns C G vs).map (·.v))) = evp C G ks vs
  | [], [] => rfl
  | [], _ :: _ => rfl
  | _ :: _, [] => rfl
  | k :: ks, v :: vs => by
    funext σ h
    show (((dn C G k).v σ h).bind fun w h => match w with
      | .v dk => match dk.key? with
        | some key => (vSet (dn C G v).v σ h).bind fun w h => match w with
          | .v d => (pairSeq (((dns C G ks).map (·.v)).zip ((dns C G vs).map (·.v))) σ h).bind fun l h => .ok ((key, d) :: l) h
          | .l _ => .no
        | none => .no
      | .l _ => .no) = _
    rw [evp_eq ks vs]
    show _ = ((dn C G k).v σ h).bind _
    congr 1
    funext w h1
    cases w with
    | l xs => rfl
    | v dk =>
      simp only
      split
      · unfold vSet
        cases (dn C G v).v σ h1 with
        | ok w h2 => cases w <;> rfl
        | ex => rfl
        | no => rfl
      · rfl
@[simp] theorem evp_nil : evp C G [] [] σ h = .ok [] h := rfl
@[simp] theorem evp_cons {ks vs : List Ex} : evp C G (a :: ks) (b :: vs) σ h = ((dn C G a).v σ h).bind fun w h => match w with
    | .v dk => match dk.key? with
      | some key => ((dn C G b).v σ h).bind fun w h => (w.settle h).bind fun d h => (evp C G ks vs σ h).bind fun l h => .ok ((key, d) :: l) h
      | none => .no
    | .l _ => .no := rfl
@[simp] theorem ev_dd {ks vs : List Ex} : (dn C G (.dd ks vs)).v σ h = (evp C G ks vs σ h).bind fun l h => if l.length ≤ 15 then .ok (.v (.obj h.length)) (h ++ [.dK (mergeD [] l)]) else .no := by
  show vDisp (((dns C G ks).map (·.v)).zip ((dns C G vs).map (·.v))) σ h = _
  unfold vDisp
  rw [evp_eq]
@[simp] theorem et_var : (dn C G (.var i)).t σ h = ((dn C G (.var i)).v σ h).bind fun w h => R.ofO (w.truth h) h := rfl
@[simp] theorem et_isi {t : Ty} : (dn C G (.isi t a)).t σ h = ((dn C G (.isi t a)).v σ h).bind fun w h => R.ofO (w.truth h) h := rfl
@[simp] theorem et_call {f : Nat} {es : List Ex} : (dn C G (.call f es)).t σ h = ((dn C G (.call f es)).v σ h).bind fun w h => R.ofO (w.truth h) h := rfl
@[simp] theorem et_ix : (dn C G (.ix a b)).t σ h = ((dn C G (.ix a b)).v σ h).bind fun w h => R.ofO (w.truth h) h := rfl
@[simp] theorem ei_var : (dn C G (.var i)).i σ h = ((dn C G (.var i)).v σ h).bind fun w h => R.ofO (w.src h) h := rfl
@[simp] theorem ei_ix : (dn C G (.ix a b)).i σ h = ((dn C G (.ix a b)).v σ h).bind fun w h => R.ofO (w.src h) h := rfl
@[simp] theorem ei_call {f : Nat} {es : List Ex} : (dn C G (.call f es)).i σ h = ((dn C G (.call f es)).v σ h).bind fun w h => R.ofO (w.src h) h := rfl
@[simp] theorem ei_tup {es : List Ex} : (dn C G (.tup es)).i σ h = ((dn C G (.tup es)).v σ h).bind fun w h => R.ofO (w.src h) h := rfl
@[simp] theorem ei_rev : (dn C G (.rev a)).i σ h = ((dn C G (.rev a)).v σ h).bind fun w h => R.ofO (w.src h) h := rfl
@[simp] theorem ei_sl {lo hi : Option Ex} : (dn C G (.sl a lo hi)).i σ h = ((dn C G (.sl a lo hi)).v σ h).bind fun w h => R.ofO (w.src h) h := rfl
@[simp] theorem ei_bin {op : Operator} : (dn C G (.bin op a b)).i σ h = ((dn C G (.bin op a b)).v σ h).bind fun w h => R.ofO (w.src h) h := rfl
def rgs (lo : Int) (n : Nat) : List D := (List.range n).map fun (k : Nat) => D.int (lo + k)
@[simp] theorem ei_rng1 : (dn C G (.rng1 a)).i σ h = ((dn C G a).v σ h).bind fun w h => match w with
  | .v (.int i) => R.ofO (rngSrc 0 i) h
  | _ => .no := rfl
@[simp] theorem ei_revd : (dn C G (.revd a)).i σ h = ((dn C G a).v σ h).bind fun w h => R.ofO (revSrc w) h := rfl
@[simp] theorem ev_gd {g : Nat} : (dn C G (.gd g a)).v σ h = ((dn C G a).v σ h).bind fun w h => match G[g]?, w with
  | some (.tup kvs), .v (.str s) => R.ofO ((lookT kvs s).map .v) h
  | _, _ => .no := rfl
@[simp] theorem ei_enum : (dn C G (.enum a)).i σ h = ((dn C G a).v σ h).bind fun w h => R.ofO (w.enumSrc h) h := rfl
@[simp] theorem ei_rng2 : (dn C G (.rng2 a b)).i σ h = ((dn C G a).v σ h).bind fun w h => ((dn C G b).v σ h).bind fun w' h => match w, w' with
  | .v (.int i), .v (.int j) => R.ofO (rngSrc i j) h
  | _, _ => .no := rfl
theorem rng_src {lo hi : Int} (h1 : -1000000000 ≤ lo) (h2 : lo ≤ 1000000000) (h3 : -1000000000 ≤ hi) (h4 : hi ≤ 1000000000) : rngSrc lo hi = some (.fx (rgs lo (hi - lo).toNat)) := by
  unfold rngSrc
  rw [if_pos (by omega)]
  rfl
theorem ints_get {lo : Int} {n i : Nat} {d : D} (e : (rgs lo n)[i]? = some d) : d = .int (lo + i) ∧ i < n := by
  unfold rgs at e
  rw [List.getElem?_map] at e
  by_cases hi : i < n
  · rw [List.getElem?_range hi] at e
    cases e
    exact ⟨rfl, hi⟩
  · rw [List.getElem?_eq_none (by simpa using hi)] at e
    cases e
theorem ints_len {lo : Int} {n : Nat} : (rgs lo n).length = n := by unfold rgs; simp
@[simp] theorem sd_ex : sdn C G (.ex a) σ h = ((dn C G a).v σ h).bind fun _ h => .ok (.nx σ) h := rfl
@[simp] theorem sd_set {t : Tg} : sdn C G (.set t a) σ h = ((dn C G a).v σ h).bind fun w h => (w.settle h).bind fun d h => match t.put d σ with
    | some σ' => .ok (.nx σ') h
    | none => .no := by
  show sPut t (dn C G a).v σ h = _
  unfold sPut vSet
  cases (dn C G a).v σ h with
  | ok w h2 => cases w <;> rfl
  | ex => rfl
  | no => rfl
@[simp] theorem sd_par {is : List Nat} {es : List Ex} : sdn C G (.par is es) σ h = (evs C G es σ h).bind fun ds h => match Tg.puts (is.map .nm) ds σ with
    | some σ' => .ok (.nx σ') h
    | none => .no := by
  show sPar is ((dns C G es).map (·.v)) σ h = _
  unfold sPar
  rw [evs_eq] <;> rfl
@[simp] theorem sd_aug {op : Operator} : sdn C G (.aug i op a) σ h = (vVar i σ h).bind fun x h => ((dn C G a).v σ h).bind fun y h => (augW op x y h).bind fun w h => match w with
    | .v d => .ok (.nx (σ.set i (some d))) h
    | .l _ => .no := rfl
@[simp] theorem vVar_eq {d : D} (e : σ[i]? = some (some d)) : vVar i σ h = .ok (.v d) h := by simp only [vVar, e]
@[simp] theorem sd_sub : sdn C G (.sub a b c) σ h = ((dn C G c).v σ h).bind fun w h => (w.settle h).bind fun d h => ((dn C G a).v σ h).bind fun o h => ((dn C G b).v σ h).bind fun i h => match setIx o i d h with
      | some h' => .ok (.nx σ) h'
      | none => .no := by
  show sSub (dn C G a).v (dn C G b).v (dn C G c).v σ h = _
  unfold sSub vSet
  cases (dn C G c).v σ h with
  | ok w h2 => cases w <;> rfl
  | ex => rfl
  | no => rfl
@[simp] theorem sd_delF : sdn C G (.delF a b) σ h = ((dn C G a).v σ h).bind fun o h => ((dn C G b).v σ h).bind fun i h => match delO o i h with
    | some h' => .ok (.nx σ) h'
    | none => .no := rfl
@[simp] theorem sd_augS {op : Operator} : sdn C G (.augS a b op c) σ h = ((dn C G a).v σ h).bind fun o h => ((dn C G b).v σ h).bind fun i h => (R.ofO (getIx o i h) h).bind fun x h => ((dn C G c).v σ h).bind fun y h => (augW op x y h).bind fun w h => match w with
    | .v d => match setIx o i d h with
      | some h' => .ok (.nx σ) h'
      | none => .no
    | .l _ => .no := rfl
@[simp] theorem put_nm {d : D} : Tg.put (.nm i) d σ = some (σ.set i (some d)) := rfl
@[simp] theorem put_tp {ts : List Tg} {ds : List D} : Tg.put (.tp ts) (.tup ds) σ = Tg.puts ts ds σ := rfl
@[simp] theorem puts_nil : Tg.puts [] [] σ = some σ := rfl
@[simp] theorem puts_cons {t : Tg} {ts : List Tg} {d : D} {ds : List D} : Tg.puts (t :: ts) (d :: ds) σ = (t.put d σ).bind fun σ' => Tg.puts ts ds σ' := by
  show (match t.put d σ with
      | some σ' => Tg.puts ts ds σ'
      | none => none) = _
  cases t.put d σ <;> rfl
@[simp] theorem wipe_nil : wipeD σ [] = σ := rfl
@[simp] theorem wipe_cons {v : Nat} {vs : List Nat} : wipeD σ (v :: vs) = (wipeD σ vs).set v none := rfl
end
section
variable {h : Hd}
@[simp] theorem b_add {x y : W} : binop .Add x y h = addW x y h := rfl
@[simp] theorem b_mul {x y : W} : binop .Mult x y h = mulW x y h := rfl
@[simp] theorem add_int {i j : Int} : addW (.v (.int i)) (.v (.int j)) h = some (.v (.int (i + j))) := rfl
@[simp] theorem add_str {s t : List Nat} : addW (.v (.str s)) (.v (.str t)) h = if s.length + t.length ≤ sizeLine then some (.v (.str (s ++ t))) else none := rfl
@[simp] theorem add_tup {s t : List D} : addW (.v (.tup s)) (.v (.tup t)) h = if s.length + t.length ≤ sizeLine then some (.v (.tup (s ++ t))) else none := rfl
@[simp] theorem add_ll {s t : List D} : addW (.l s) (.l t) h = if s.length + t.length ≤ sizeLine then some (.l (s ++ t)) else none := rfl
@[simp] theorem mul_int {i j : Int} : mulW (.v (.int i)) (.v (.int j)) h = if wide i || wide j then some (.v (.int (i * j))) else none := rfl
@[simp] theorem mul_str {s : List Nat} {k : Int} : mulW (.v (.str s)) (.v (.int k)) h = if -(2 ^ 63) ≤ k ∧ k ≤ 4096 ∧ s.length ≤ 4096 then some (.v (.str (List.replicate k.toNat s).flatten)) else none := rfl
@[simp] theorem mul_tp {s : List D} {k : Int} : mulW (.v (.tup s)) (.v (.int k)) h = if -(2 ^ 63) ≤ k ∧ k ≤ 1000 ∧ s.length ≤ 1000 then some (.v (.tup (List.replicate k.toNat s).flatten)) else none := rfl
@[simp] theorem b_sub {i j : Int} : binop .Sub (.v (.int i)) (.v (.int j)) h = some (.v (.int (i - j))) := rfl
@[simp] theorem b_fdiv {i j : Int} : binop .FloorDiv (.v (.int i)) (.v (.int j)) h = if 0 < j ∧ j < 2 ^ 64 then some (.v (.int (i / j))) else none := by
  show (if 0 < j ∧ j < 2 ^ 64 then some (i / j) else none).map _ = _
  split <;> rfl
@[simp] theorem b_mod {i j : Int} : binop .Mod (.v (.int i)) (.v (.int j)) h = if 0 < j then some (.v (.int (i % j))) else none := by
  show (if 0 < j then some (i % j) else none).map _ = _
  split <;> rfl
@[simp] theorem b_pow {i j : Int} : binop .Pow (.v (.int i)) (.v (.int j)) h = if 0 ≤ j ∧ j ≤ 1000000 ∧ i.natAbs < 2 ^ 64 then some (.v (.int (i ^ j.toNat))) else none := by
  show (if 0 ≤ j ∧ j ≤ 1000000 ∧ i.natAbs < 2 ^ 64 then some (i ^ j.toNat) else none).map _ = _
  split <;> rfl
@[simp] theorem u_neg {i : Int} : unop .USub (.v (.int i)) = some (.v (.int (-i))) := rfl
@[simp] theorem c_eqi {i j : Int} : cmpW .Eq (.v (.int i)) (.v (.int j)) h = some (decide (i = j)) := rfl
@[simp] theorem c_nei {i j : Int} : cmpW .NotEq (.v (.int i)) (.v (.int j)) h = some (!decide (i = j)) := rfl
@[simp] theorem c_eqs {i j : List Nat} : cmpW .Eq (.v (.str i)) (.v (.str j)) h = some (decide (i = j)) := rfl
@[simp] theorem c_nes {i j : List Nat} : cmpW .NotEq (.v (.str i)) (.v (.str j)) h = some (!decide (i = j)) := rfl
@[simp] theorem c_lti {i j : Int} : cmpW .Lt (.v (.int i)) (.v (.int j)) h = some (decide (i < j)) := rfl
@[simp] theorem c_lei {i j : Int} : cmpW .LtE (.v (.int i)) (.v (.int j)) h = some (decide (i ≤ j)) := rfl
@[simp] theorem c_gti {i j : Int} : cmpW .Gt (.v (.int i)) (.v (.int j)) h = some (decide (j < i)) := rfl
@[simp] theorem c_gei {i j : Int} : cmpW .GtE (.v (.int i)) (.v (.int j)) h = some (decide (j ≤ i)) := rfl
@[simp] theorem ix_str {s : List Nat} {i : Int} : getIx (.v (.str s)) (.v (.int i)) h = if s.length ≤ sizeLine then (atI s i).map fun c => .v (.str [c]) else none := rfl
@[simp] theorem ix_tup {s : List D} {i : Int} : getIx (.v (.tup s)) (.v (.int i)) h = (atI s i).map .v := rfl
@[simp] theorem ix_l {s : List D} {i : Int} : getIx (.l s) (.v (.int i)) h = (atI s i).map .v := rfl
@[simp] theorem ix_ro {s : List D} {i : Int} : getIx (.v (.ro s)) (.v (.int i)) h = (atI s i).map .v := rfl
@[simp] theorem ix_obj {n : Nat} {s : List D} {i : Int} (e : h[n]? = some (.lst s)) : getIx (.v (.obj n)) (.v (.int i)) h = (atI s i).map .v := by simp only [getIx, e]
theorem ixN_pos {n : Nat} {i : Int} (h0 : 0 ≤ i) (h1 : i < n) : ixN n i = some i.toNat := by
  unfold ixN
  rw [if_pos h0, if_pos (by omega)]
theorem ixN_neg {n : Nat} {i : Int} (h0 : i < 0) (h1 : -(n : Int) ≤ i) : ixN n i = some (i + n).toNat := by
  unfold ixN
  rw [if_neg (by omega), if_pos h1]
theorem atI_pos {α : Type} {s : List α} {i : Int} (h0 : 0 ≤ i) (h1 : i < s.length) : atI s i = s[i.toNat]? := by
  unfold atI
  rw [ixN_pos h0 h1]
  rfl
theorem atI_last {α : Type} {s : List α} {x : α} : atI (s ++ [x]) (-1) = some x := by
  unfold atI
  rw [ixN_neg (by omega) (by simp <;> omega)]
  have e : ((-1 : Int) + ((s ++ [x]).length : Nat)).toNat = s.length := by simp <;> omega
  rw [e]
  simp
@[simp] theorem set_obj {n : Nat} {s : List D} {i : Int} {d : D} (e : h[n]? = some (.lst s)) : setIx (.v (.obj n)) (.v (.int i)) d h = (ixN s.length i).map fun m => h.set n (.lst (s.set m d)) := by
  simp only [setIx, e]
  cases ixN s.length i <;> rfl
@[simp] theorem len_str {x : List Nat} : bl1 .len (.v (.str x)) h = if x.length ≤ sizeLine then some (.v (.int x.length)) else none := rfl
@[simp] theorem len_tup {x : List D} : bl1 .len (.v (.tup x)) h = some (.v (.int x.length)) := rfl
@[simp] theorem len_ro {x : List D} : bl1 .len (.v (.ro x)) h = some (.v (.int x.length)) := rfl
@[simp] theorem len_l {x : List D} : bl1 .len (.l x) h = some (.v (.int x.length)) := rfl
@[simp] theorem len_obj {n : Nat} {x : List D} (e : h[n]? = some (.lst x)) : bl1 .len (.v (.obj n)) h = some (.v (.int x.length)) := by simp only [bl1, e]
@[simp] theorem tup_obj {n : Nat} {x : List D} (e : h[n]? = some (.lst x)) : bl1 .tuple (.v (.obj n)) h = some (.v (.tup x)) := by simp only [bl1, W.seq, D.items, e, Option.map_some]
@[simp] theorem tup_l {x : List D} : bl1 .tuple (.l x) h = some (.v (.tup x)) := rfl
@[simp] theorem tup_tup {x : List D} : bl1 .tuple (.v (.tup x)) h = some (.v (.tup x)) := rfl
@[simp] theorem list_obj {n : Nat} {x : List D} (e : h[n]? = some (.lst x)) : bl1 .list (.v (.obj n)) h = some (.l x) := by simp only [bl1, W.seq, D.items, e, Option.map_some]
@[simp] theorem list_l {x : List D} : bl1 .list (.l x) h = some (.l x) := rfl
@[simp] theorem list_tup {x : List D} : bl1 .list (.v (.tup x)) h = some (.l x) := rfl
@[simp] theorem int_int {i : Int} : bl1 .int (.v (.int i)) h = some (.v (.int i)) := rfl
@[simp] theorem int_bl {b : Bool} : bl1 .int (.v (.bl b)) h = some (.v (.int (if b then 1 else 0))) := rfl
@[simp] theorem abs_int {i : Int} : bl1 .abs (.v (.int i)) h = some (.v (.int i.natAbs)) := rfl
@[simp] theorem sum_l {x : List D} : bl1 .sum (.l x) h = (intsOf x).map fun ns => .v (.int ns.sum) := rfl
theorem intsOf_map (ns : List Int) : intsOf (ns.map .int) = some ns := by
  induction ns with
  | nil => rfl
  | cons n ns ih => simp only [List.map_cons, intsOf, ih, Option.map_some]
theorem strsOf_map (ns : List (List Nat)) : strsOf (ns.map .str) = some ns := by
  induction ns with
  | nil => rfl
  | cons n ns ih => simp only [List.map_cons, strsOf, ih, Option.map_some]
theorem sorted_strs (ns : List (List Nat)) (hz : ns.length < 64) : bl1 .sorted (.l (ns.map .str)) h = some (.l ((sortS ns).map .str)) := by
  have e : srt0 (.l (ns.map .str)) h = some (.l ((sortS ns).map .str)) := by
    cases ns with
    | nil => simp [srt0, W.items, intsOf, sortI, sortS]
    | cons n ns =>
      show (match intsOf ((n :: ns).map D.str) with
        | some ns => some (W.l ((sortI ns).map .int))
        | none => match strsOf ((n :: ns).map D.str) with
          | some ss => if ss.length < 64 then some (.l ((sortS ss).map .str)) else none
          | none => none) = _
      rw [strsOf_map]
      show (if (n :: ns).length < 64 then some (W.l ((sortS (n :: ns)).map .str)) else none) = _
      rw [if_pos hz]
  simp only [bl1, e]
@[simp] theorem max_int {i j : Int} : bl2 .max (.v (.int i)) (.v (.int j)) = some (.v (.int (if j > i then j else i))) := rfl
@[simp] theorem min_int {i j : Int} : bl2 .min (.v (.int i)) (.v (.int j)) = some (.v (.int (if j < i then j else i))) := rfl
@[simp] theorem xt_obj {n : Nat} {x : List D} (e : h[n]? = some (.lst x)) : blX (.v (.obj n)) h = some (.v (.xt x)) := by simp only [blX, W.items, D.items, e, Option.map_some]
@[simp] theorem xt_l {x : List D} : blX (.l x) h = some (.v (.xt x)) := rfl
@[simp] theorem del_obj {n : Nat} {x : List D} {k : Int} (e : h[n]? = some (.lst x)) : delO (.v (.obj n)) (.v (.int k)) h = if 0 ≤ k ∧ k ≤ x.length then some (h.set n (.lst (x.take k.toNat))) else none := by simp only [delO, e]
@[simp] theorem isL_obj {n : Nat} {x : List D} (e : h[n]? = some (.lst x)) : isL (.v (.obj n)) h = true := by simp only [isL, e]
@[simp] theorem isS_str {x : List Nat} : isS (.v (.str x)) h = true := rfl
@[simp] theorem app_obj {n : Nat} {x : List D} {d : D} (e : h[n]? = some (.lst x)) : mt1 .append (.v (.obj n)) (.v d) h = if x.length < sizeLine then .ok (.v .non) (h.set n (.lst (x ++ [d]))) else .no := by simp only [mt1, e]
@[simp] theorem ext_obj {n : Nat} {x y : List D} (e : h[n]? = some (.lst x)) : mt1 .extend (.v (.obj n)) (.l y) h = if x.length + y.length ≤ sizeLine then .ok (.v .non) (h.set n (.lst (x ++ y))) else .no := by simp only [mt1, e, W.ext, W.lst]
@[simp] theorem ext_objT {n : Nat} {x y : List D} (e : h[n]? = some (.lst x)) : mt1 .extend (.v (.obj n)) (.v (.tup y)) h = if x.length + y.length ≤ sizeLine then .ok (.v .non) (h.set n (.lst (x ++ y))) else .no := by simp only [mt1, e, W.ext]
theorem pop_obj {n : Nat} {x : List D} {y : D} (e : h[n]? = some (.lst (x ++ [y]))) : mt0 .pop (.v (.obj n)) h = .ok (.v y) (h.set n (.lst x)) := by
  have e2 : (x ++ [y])[(x ++ [y]).length - 1]? = some y := by simp
  simp only [mt0, e, e2, List.dropLast_concat]
@[simp] theorem rev_obj {n : Nat} {x : List D} (e : h[n]? = some (.lst x)) : mt0 .reverse (.v (.obj n)) h = .ok (.v .non) (h.set n (.lst x.reverse)) := by simp only [mt0, e]
@[simp] theorem revs_l {x : List D} : revSl (.l x) h = some (.l x.reverse) := rfl
@[simp] theorem revs_obj {n : Nat} {x : List D} (e : h[n]? = some (.lst x)) : revSl (.v (.obj n)) h = some (.l x.reverse) := by simp only [revSl, W.items, D.items, e, Option.map_some]
@[simp] theorem sl_tup {x : List D} {lo hi : Option Int} : getSl (.v (.tup x)) lo hi h = some (.v (.tup (cutL x lo hi))) := rfl
@[simp] theorem sl_str {x : List Nat} {lo hi : Option Int} : getSl (.v (.str x)) lo hi h = if x.length ≤ sizeLine then some (.v (.str (cutL x lo hi))) else none := rfl
@[simp] theorem sl_l {x : List D} {lo hi : Option Int} : getSl (.l x) lo hi h = some (.l (cutL x lo hi)) := rfl
@[simp] theorem sl_ro {x : List D} {lo hi : Option Int} : getSl (.v (.ro x)) lo hi h = some (.l (cutL x lo hi)) := rfl
@[simp] theorem sl_obj {n : Nat} {x : List D} {lo hi : Option Int} (e : h[n]? = some (.lst x)) : getSl (.v (.obj n)) lo hi h = some (.l (cutL x lo hi)) := by simp only [getSl, W.items, D.items, e, Option.map_some]
theorem cut_from {α : Type} (x : List α) (k : Nat) : cutL x (some (k : Int)) none = x.drop k := by
  unfold cutL
  rw [HT.sIx_nat, HT.sIx_none, List.take_of_length_le (by simp)]
  by_cases hk : k ≤ x.length
  · rw [Nat.min_eq_left hk]
  · rw [Nat.min_eq_right (by omega), List.drop_eq_nil_of_le (Nat.le_refl _), List.drop_eq_nil_of_le (by omega)]
theorem cut_to {α : Type} (x : List α) (k : Nat) : cutL x none (some (k : Int)) = x.take k := by
  unfold cutL
  rw [HT.sIx_nat, HT.sIx_none, List.drop_zero, Nat.sub_zero]
  by_cases hk : k ≤ x.length
  · rw [Nat.min_eq_left hk]
  · rw [Nat.min_eq_right (by omega), List.take_of_length_le (Nat.le_refl _), List.take_of_length_le (by omega)]
@[simp] theorem ty_bool_int {i : Int} : isTy .bool (.v (.int i)) h = some false := rfl
@[simp] theorem ty_bool_str {x : List Nat} : isTy .bool (.v (.str x)) h = some false := rfl
@[simp] theorem ty_bool_tuple {x : List D} : isTy .bool (.v (.tup x)) h = some false := rfl
@[simp] theorem ty_bool_bool {x : Bool} : isTy .bool (.v (.bl x)) h = some true := rfl
@[simp] theorem ty_bool_non : isTy .bool (.v .non) h = some false := rfl
@[simp] theorem ty_bool_lst {n : Nat} {x : List D} (e : h[n]? = some (.lst x)) : isTy .bool (.v (.obj n)) h = some false := by simp only [isTy, e]; rfl
@[simp] theorem ty_int_int {i : Int} : isTy .int (.v (.int i)) h = some true := rfl
@[simp] theorem ty_int_str {x : List Nat} : isTy .int (.v (.str x)) h = some false := rfl
@[simp] theorem ty_int_tuple {x : List D} : isTy .int (.v (.tup x)) h = some false := rfl
@[simp] theorem ty_int_bool {x : Bool} : isTy .int (.v (.bl x)) h = some true := rfl
@[simp] theorem ty_int_non : isTy .int (.v .non) h = some false := rfl
@[simp] theorem ty_int_lst {n : Nat} {x : List D} (e : h[n]? = some (.lst x)) : isTy .int (.v (.obj n)) h = some false := by simp only [isTy, e]; rfl
@[simp] theorem ty_str_int {i : Int} : isTy .str (.v (.int i)) h = some false := rfl
@[simp] theorem ty_str_str {x : List Nat} : isTy .str (.v (.str x)) h = some true := rfl
@[simp] theorem ty_str_tuple {x : List D} : isTy .str (.v (.tup x)) h = some false := rfl
@[simp] theorem ty_str_bool {x : Bool} : isTy .str (.v (.bl x)) h = some false := rfl
@[simp] theorem ty_str_non : isTy .str (.v .non) h = some false := rfl
@[simp] theorem ty_str_lst {n : Nat} {x : List D} (e : h[n]? = some (.lst x)) : isTy .str (.v (.obj n)) h = some false := by simp only [isTy, e]; rfl
@[simp] theorem ty_tuple_int {i : Int} : isTy .tuple (.v (.int i)) h = some false := rfl
@[simp] theorem ty_tuple_str {x : List Nat} : isTy .tuple (.v (.str x)) h = some false := rfl
@[simp] theorem ty_tuple_tuple {x : List D} : isTy .tuple (.v (.tup x)) h = some true := rfl
@[simp] theorem ty_tuple_bool {x : Bool} : isTy .tuple (.v (.bl x)) h = some false := rfl
@[simp] theorem ty_tuple_non : isTy .tuple (.v .non) h = some false := rfl
@[simp] theorem ty_tuple_lst {n : Nat} {x : List D} (e : h[n]? = some (.lst x)) : isTy .tuple (.v (.obj n)) h = some false := by simp only [isTy, e]; rfl
@[simp] theorem ty_list_int {i : Int} : isTy .list (.v (.int i)) h = some false := rfl
@[simp] theorem ty_list_str {x : List Nat} : isTy .list (.v (.str x)) h = some false := rfl
@[simp] theorem ty_list_tuple {x : List D} : isTy .list (.v (.tup x)) h = some false := rfl
@[simp] theorem ty_list_bool {x : Bool} : isTy .list (.v (.bl x)) h = some false := rfl
@[simp] theorem ty_list_non : isTy .list (.v .non) h = some false := rfl
@[simp] theorem ty_list_lst {n : Nat} {x : List D} (e : h[n]? = some (.lst x)) : isTy .list (.v (.obj n)) h = some true := by simp only [isTy, e]; rfl
@[simp] theorem ty_dict_int {i : Int} : isTy .dict (.v (.int i)) h = some false := rfl
@[simp] theorem ty_dict_str {x : List Nat} : isTy .dict (.v (.str x)) h = some false := rfl
@[simp] theorem ty_dict_tuple {x : List D} : isTy .dict (.v (.tup x)) h = some false := rfl
@[simp] theorem ty_dict_bool {x : Bool} : isTy .dict (.v (.bl x)) h = some false := rfl
@[simp] theorem ty_dict_non : isTy .dict (.v .non) h = some false := rfl
@[simp] theorem ty_dict_lst {n : Nat} {x : List D} (e : h[n]? = some (.lst x)) : isTy .dict (.v (.obj n)) h = some false := by simp only [isTy, e]; rfl
@[simp] theorem tr_bl {x : Bool} : (W.v (.bl x)).truth h = some x := rfl
@[simp] theorem tr_non : (W.v .non).truth h = some false := rfl
@[simp] theorem tr_int {x : Int} : (W.v (.int x)).truth h = some (x != 0) := rfl
@[simp] theorem tr_tup {x : List D} : (W.v (.tup x)).truth h = some !x.isEmpty := rfl
@[simp] theorem tr_l {x : List D} : (W.l x).truth h = some !x.isEmpty := rfl
@[simp] theorem tr_obj {n : Nat} {x : List D} (e : h[n]? = some (.lst x)) : (W.v (.obj n)).truth h = some !x.isEmpty := by simp only [W.truth, e]
@[simp] theorem wsrc_l {x : List D} : (W.l x).src h = some (.fx x) := rfl
@[simp] theorem wsrc_tup {x : List D} : (W.v (.tup x)).src h = some (.fx x) := rfl
@[simp] theorem wsrc_ro {x : List D} : (W.v (.ro x)).src h = some (.fx x) := rfl
@[simp] theorem wsrc_str {x : List Nat} : (W.v (.str x)).src h = some (.fx (x.map fun c => .str [c])) := rfl
@[simp] theorem aug_add {i j : Int} : augW .Add (.v (.int i)) (.v (.int j)) h = .ok (.v (.int (i + j))) h := rfl
@[simp] theorem aug_sub {i j : Int} : augW .Sub (.v (.int i)) (.v (.int j)) h = .ok (.v (.int (i - j))) h := rfl
@[simp] theorem get_loc {h1 L : Hd} {x : O} {n : Nat} (e : h1.length = n) : (h1 ++ x :: L)[n]? = some x := by subst e; simp
@[simp] theorem get_loc1 {h1 L : Hd} {x y : O} {n : Nat} (e : h1.length = n) : (h1 ++ x :: y :: L)[n + 1]? = some y := by subst e; simp
@[simp] theorem get_loc2 {h1 L : Hd} {x y z : O} {n : Nat} (e : h1.length = n) : (h1 ++ x :: y :: z :: L)[n + 2]? = some z := by subst e; simp
@[simp] theorem set_loc {h1 L : Hd} {x u : O} {n : Nat} (e : h1.length = n) : (h1 ++ x :: L).set n u = h1 ++ u :: L := by subst e; simp
@[simp] theorem set_loc1 {h1 L : Hd} {x y u : O} {n : Nat} (e : h1.length = n) : (h1 ++ x :: y :: L).set (n + 1) u = h1 ++ x :: u :: L := by subst e; simp
@[simp] theorem set_loc2 {h1 L : Hd} {x y z u : O} {n : Nat} (e : h1.length = n) : (h1 ++ x :: y :: z :: L).set (n + 2) u = h1 ++ x :: y :: u :: L := by subst e; simp
theorem get_lo {h1 L : Hd} {i : Nat} (hi : i < h1.length) : (h1 ++ L)[i]? = h1[i]? := List.getElem?_append_left hi
theorem set_lo {h1 L : Hd} {i : Nat} {u : O} (hi : i < h1.length) : (h1 ++ L).set i u = h1.set i u ++ L := List.set_append_left _ _ hi
end
end DL
namespace DL
open PySem PySem.Spec PyProof.Rows L2
section
variable {C : Cls} {G : List D} {elt it : Ex} {tg : Tg} {own : List Nat} {σ : Sd} {h h1 : Hd} {s : Src} {xs : List D} {ok : Hd → Prop} {P : W → Hd → Prop}
theorem ok_vset {f : FV} {d : D} {h1 : Hd} (e : f σ h = .ok (.v d) h1) (q : P (.v d) h1) : Ok (vSet f σ h) P := ⟨.v d, h1, by unfold vSet; rw [e]; rfl, q⟩
theorem Ok.lc0 (I : Nat → List D → Hd → Prop) (e : (dn C G it).i σ h = .ok s h1) (w : Walks s xs ok) (h0 : I 0 [] h1) (hok : ∀ i ys h, I i ys h → ok h)
    (stp : ∀ i d ys h, xs[i]? = some d → I i ys h → ∃ σ' y h2, tg.put d (wipeD σ own) = some σ' ∧ (dn C G elt).v σ' h = .ok (.v y) h2 ∧ I (i + 1) (ys ++ [y]) h2)
    (fin : ∀ ys h, I xs.length ys h → ys.length ≤ sizeLine ∧ P (.l ys) h) : Ok ((dn C G (.lc elt tg it none own)).v σ h) P := by
  obtain ⟨ys, h2, e2, q⟩ := lc_ok (C := C) (G := G) (elt := elt) (tg := tg) (c := none) (own := own) (Q := fun ys h => P (.l ys) h) I e w h0 hok (fun i d ys h hd hI => by
    obtain ⟨σ', y, h2, ep, ee, hI⟩ := stp i d ys h hd hI
    exact ⟨σ', ep, ⟨true, h, rfl, ok_vset ee ⟨y, rfl, hI⟩⟩⟩) fin
  exact ⟨_, _, e2, q⟩
theorem Ok.lc1 {c : Ex} (I : Nat → List D → Hd → Prop) (e : (dn C G it).i σ h = .ok s h1) (w : Walks s xs ok) (h0 : I 0 [] h1) (hok : ∀ i ys h, I i ys h → ok h)
    (stp : ∀ i d ys h, xs[i]? = some d → I i ys h → ∃ σ' t h1, tg.put d (wipeD σ own) = some σ' ∧ (dn C G c).t σ' h = .ok t h1 ∧ (t = true → ∃ y h2, (dn C G elt).v σ' h1 = .ok (.v y) h2 ∧ I (i + 1) (ys ++ [y]) h2) ∧ (t = false → I (i + 1) ys h1))
    (fin : ∀ ys h, I xs.length ys h → ys.length ≤ sizeLine ∧ P (.l ys) h) : Ok ((dn C G (.lc elt tg it (some c) own)).v σ h) P := by
  obtain ⟨ys, h2, e2, q⟩ := lc_ok (C := C) (G := G) (elt := elt) (tg := tg) (c := some c) (own := own) (Q := fun ys h => P (.l ys) h) I e w h0 hok (fun i d ys h hd hI => by
    obtain ⟨σ', t, h1, ep, et, kt, kf⟩ := stp i d ys h hd hI
    refine ⟨σ', ep, ⟨t, h1, et, ?_⟩⟩
    cases t with
    | true =>
      obtain ⟨y, h2, ee, hI⟩ := kt rfl
      exact ok_vset ee ⟨y, rfl, hI⟩
    | false => exact kf rfl) fin
  exact ⟨_, _, e2, q⟩
end
mutual
def D.sz : D → Nat
  | .str s => 1 + s.length
  | .tup xs => 1 + D.szs xs
  | _ => 1
def D.szs : List D → Nat
  | [] => 0
  | d :: ds => d.sz + D.szs ds
end
mutual
def D.tr : D → Bool
  | .str s => s.all fun c => decide (c < 1114112)
  | .int _ => true
  | .tup xs => D.trs xs
  | _ => false
def D.trs : List D → Bool
  | [] => true
  | d :: ds => d.tr && D.trs ds
end
theorem szs_app : ∀ xs ys : List D, D.szs (xs ++ ys) = D.szs xs + D.szs ys
  | [], ys => by show D.szs ys = 0 + _; omega
  | x :: xs, ys => by show x.sz + D.szs (xs ++ ys) = x.sz + D.szs xs + D.szs ys; rw [szs_app xs ys]; omega
theorem trs_app : ∀ xs ys : List D, D.trs (xs ++ ys) = (D.trs xs && D.trs ys)
  | [], ys => rfl
  | x :: xs, ys => by show (x.tr && D.trs (xs ++ ys)) = (x.tr && D.trs xs && D.trs ys); rw [trs_app xs ys, Bool.and_assoc]
theorem szs_rev : ∀ xs : List D, D.szs xs.reverse = D.szs xs
  | [] => rfl
  | x :: xs => by rw [List.reverse_cons, szs_app, szs_rev xs]; show D.szs xs + (x.sz + 0) = x.sz + D.szs xs; omega
theorem trs_mem : ∀ {xs : List D}, D.trs xs = true ↔ ∀ x ∈ xs, x.tr = true
  | [] => by simp [D.trs]
  | x :: xs => by
    show (x.tr && D.trs xs) = true ↔ _
    rw [Bool.and_eq_true, trs_mem (xs := xs)]
    simp
theorem szs_mem : ∀ {xs : List D} {x : D}, x ∈ xs → x.sz ≤ D.szs xs
  | y :: xs, x, h => by
    show x.sz ≤ y.sz + D.szs xs
    rcases List.mem_cons.mp h with e | h
    · rw [e]; omega
    · have := szs_mem h; omega
theorem szs_len : ∀ xs : List D, xs.length ≤ D.szs xs
  | [] => Nat.le_refl _
  | x :: xs => by
    have h1 := szs_len xs
    have h2 : 1 ≤ x.sz := by cases x <;> simp [D.sz]
    show xs.length + 1 ≤ x.sz + D.szs xs
    omega
theorem sz_pos (x : D) : 1 ≤ x.sz := by cases x <;> simp [D.sz]
theorem szs_cons (x : D) (xs : List D) : D.szs (x :: xs) = x.sz + D.szs xs := rfl
theorem sz_tup (xs : List D) : (D.tup xs).sz = 1 + D.szs xs := rfl
theorem szs_drop : ∀ (n : Nat) (xs : List D), D.szs (xs.drop n) ≤ D.szs xs
  | 0, xs => Nat.le_refl _
  | n + 1, [] => Nat.le_refl _
  | n + 1, x :: xs => by have := szs_drop n xs; show D.szs (xs.drop n) ≤ x.sz + D.szs xs; omega
mutual
theorem tr_no : ∀ {d : D}, d.tr = true → d.noObj = true
  | .str _, _ => rfl
  | .int _, _ => rfl
  | .tup xs, h => trs_no (ds := xs) h
  | .non, h => by cases h
  | .bl _, h => by cases h
  | .obj _, h => by cases h
  | .ro _, h => by cases h
  | .xt _, h => by cases h
theorem trs_no : ∀ {ds : List D}, D.trs ds = true → D.noObjs ds = true
  | [], _ => rfl
  | d :: ds, h => by
    have h : (d.tr && D.trs ds) = true := h
    rw [Bool.and_eq_true] at h
    show (d.noObj && D.noObjs ds) = true
    rw [tr_no h.1, trs_no h.2]
    rfl
end
mutual
theorem tr_py : ∀ {d : D}, d.tr = true → ∃ p, d.py = some p ∧ p.canLay0 = true ∧ p.depth ≤ d.sz
  | .str s, h => by
    have h : (s.all fun c => decide (c < 1114112)) = true := h
    exact ⟨.str (mkS s), rfl, by
      simp only [PyData.canLay0]
      show (s.toArray.all fun c => decide (c < 1114112)) = true
      rw [List.all_toArray]
      exact h, Nat.zero_le _⟩
  | .int i, _ => ⟨.int i, rfl, by simp [PyData.canLay0], Nat.zero_le _⟩
  | .tup xs, h => by
    obtain ⟨ps, e, c, dp⟩ := trs_py (ds := xs) h
    exact ⟨.tuple ps, by simp only [D.py, e, Option.map_some], by simpa only [PyData.canLay0] using c, by simp only [PyData.depth, D.sz]; omega⟩
  | .non, h => by cases h
  | .bl _, h => by cases h
  | .obj _, h => by cases h
  | .ro _, h => by cases h
  | .xt _, h => by cases h
theorem trs_py : ∀ {ds : List D}, D.trs ds = true → ∃ ps, D.pys ds = some ps ∧ PyData.canLayAll0 ps = true ∧ PyData.depthAll ps ≤ D.szs ds
  | [], _ => ⟨[], rfl, by simp [PyData.canLayAll0], by simp [PyData.depthAll, D.szs]⟩
  | d :: ds, h => by
    have h : (d.tr && D.trs ds) = true := h
    rw [Bool.and_eq_true] at h
    obtain ⟨p, e, c, dp⟩ := tr_py h.1
    obtain ⟨ps, es, cs, dps⟩ := trs_py h.2
    refine ⟨p :: ps, by simp only [D.pys, e, es], by simp only [PyData.canLayAll0, c, cs]; rfl, ?_⟩
    simp only [PyData.depthAll, D.szs]
    omega
end
end DL
namespace DL
open PySem PySem.Spec PyProof.Rows L2
section
variable {C : Cls} {G : List D} {σ : Sd} {h : Hd} {Q : Fl → Hd → Prop} {ss : List Sm}
def dvs (C : Cls) (G : List D) : List Xe → Sd → Hd → R (List D)
  | [], _, h => .ok [] h
  | x :: xs, σ, h => (dx C G x σ h).bind fun w h => (w.settle h).bind fun d h => (dvs C G xs σ h).bind fun ds h => .ok (d :: ds) h
theorem dvs_eq : ∀ xs : List Xe, vSeq (dxs C G xs) = dvs C G xs
  | [] => rfl
  | x :: xs => by
    funext σ h
    show ((dx C G x σ h).bind fun w h => (w.settle h).bind fun d h => (vSeq (dxs C G xs) σ h).bind fun ds h => .ok (d :: ds) h) = _
    rw [dvs_eq xs]
    rfl
@[simp] theorem dvs_nil : dvs C G [] σ h = .ok [] h := rfl
@[simp] theorem dvs_cons {x : Xe} {xs : List Xe} : dvs C G (x :: xs) σ h = (dx C G x σ h).bind fun w h => (w.settle h).bind fun d h => (dvs C G xs σ h).bind fun ds h => .ok (d :: ds) h := rfl
def R.nx {A : Type} (r : R A) : R A := match r with
  | .ex _ _ _ => .no
  | r => r
@[simp] theorem nx_ok {A : Type} (a : A) (h : Hd) : (R.ok a h).nx = .ok a h := rfl
@[simp] theorem dx_e {a : Ex} : dx C G (.e a) σ h = ((dn C G a).v σ h).nx := by
  show vNx (dn C G a).v σ h = _
  unfold vNx
  cases (dn C G a).v σ h <;> rfl
@[simp] theorem dx_call {f : Nat} {xs : List Xe} : dx C G (.call f xs) σ h = (dvs C G xs σ h).bind fun ds h => C f ds h := by
  show vCall (C f) [] (dxs C G xs) σ h = _
  unfold vCall
  rw [dvs_eq]
  simp only [List.append_nil]
@[simp] theorem dx_tup {xs : List Xe} : dx C G (.tup xs) σ h = (dvs C G xs σ h).bind fun ds h => if ds.length ≤ sizeLine then .ok (.v (.tup ds)) h else .no := by
  show vTup (dxs C G xs) σ h = _
  unfold vTup
  rw [dvs_eq]
theorem Ok.raise {c : Nat} {es : List Ex} {ds : List D} {h1 : Hd} (e : evs C G es σ h = .ok ds h1) (q : Q (.xc c ds σ) h1) : Ok (sdns C G (.raise c es :: ss) σ h) Q := by
  refine .stp (.eq (a := .xc c ds σ) (h := h1) ?_ q)
  show sRaise c ((dns C G es).map (·.v)) σ h = _
  unfold sRaise
  rw [evs_eq, e]
  rfl
theorem Ok.xret {x : Xe} {w : W} {h1 : Hd} (e : dx C G x σ h = .ok w h1) (q : Q (.rt w) h1) : Ok (sdns C G (.xret x :: ss) σ h) Q := by
  refine .stp (.eq (a := .rt w) (h := h1) ?_ q)
  show sXret (dx C G x) σ h = _
  simp only [sXret, e, xl]
theorem Ok.xretX {x : Xe} {c : Nat} {fs : List D} {h1 : Hd} (e : dx C G x σ h = .ex c fs h1) (q : Q (.xc c fs σ) h1) : Ok (sdns C G (.xret x :: ss) σ h) Q := by
  refine .stp (.eq (a := .xc c fs σ) (h := h1) ?_ q)
  show sXret (dx C G x) σ h = _
  simp only [sXret, e, xl]
theorem Ok.xex {x : Xe} {w : W} {h1 : Hd} (e : dx C G x σ h = .ok w h1) (k : Ok (sdns C G ss σ h1) Q) : Ok (sdns C G (.xex x :: ss) σ h) Q := by
  refine .stp (.eq (a := .nx σ) (h := h1) ?_ k)
  show sXex (dx C G x) σ h = _
  simp only [sXex, e, xl]
theorem Ok.xexX {x : Xe} {c : Nat} {fs : List D} {h1 : Hd} (e : dx C G x σ h = .ex c fs h1) (q : Q (.xc c fs σ) h1) : Ok (sdns C G (.xex x :: ss) σ h) Q := by
  refine .stp (.eq (a := .xc c fs σ) (h := h1) ?_ q)
  show sXex (dx C G x) σ h = _
  simp only [sXex, e, xl]
theorem Ok.xset {t : Tg} {x : Xe} {w : W} {d : D} {h1 h2 : Hd} {σ' : Sd} (e : dx C G x σ h = .ok w h1) (e2 : w.settle h1 = .ok d h2) (e3 : t.put d σ = some σ') (k : Ok (sdns C G ss σ' h2) Q) : Ok (sdns C G (.xset t x :: ss) σ h) Q := by
  refine .stp (.eq (a := .nx σ') (h := h2) ?_ k)
  show sXput t (dx C G x) σ h = _
  simp only [sXput, vSet, e, R.bind_ok, e2, xl, e3]
theorem Ok.xsetX {t : Tg} {x : Xe} {c : Nat} {fs : List D} {h1 : Hd} (e : dx C G x σ h = .ex c fs h1) (q : Q (.xc c fs σ) h1) : Ok (sdns C G (.xset t x :: ss) σ h) Q := by
  refine .stp (.eq (a := .xc c fs σ) (h := h1) ?_ q)
  show sXput t (dx C G x) σ h = _
  simp only [sXput, vSet, e, R.bind_ex, xl]
def TryQ (C : Cls) (G : List D) (ss : List Sm) (st : Bool) (hs : List Hn) (Q : Fl → Hd → Prop) : Fl → Hd → Prop := fun r h => match r with
  | .xc c fs σ => c ≠ 0 ∧ Ok (hand st c fs σ h hs) (Thn C G ss Q)
  | r => Thn C G ss Q r h
theorem Ok.try_ {b : List Sm} {st : Bool} {hs : List Hn} (k : Ok (sdns C G b σ h) (TryQ C G ss st hs Q)) : Ok (sdns C G (.tryS b st hs :: ss) σ h) Q := by
  obtain ⟨r, h1, e, q⟩ := k
  refine .stp ?_
  show Ok (sTry (sdns C G b) st hs σ h) _
  unfold sTry
  rw [e]
  cases r with
  | nx σ' => exact ⟨_, _, rfl, q⟩
  | rt w => exact ⟨_, _, rfl, q⟩
  | bk σ' => exact ⟨_, _, rfl, q⟩
  | ct σ' => exact ⟨_, _, rfl, q⟩
  | xc c fs σ' =>
    obtain ⟨hc, q⟩ := q
    simp only [if_neg hc]
    exact q
theorem hand_hit {st : Bool} {c : Nat} {fs : List D} {n : Hn} {hs : List Hn} (e : n.c = c ∨ n.c = 0) : hand st c fs σ h (n :: hs) = n.act.run (hfs c fs n) n.slot σ h := by
  unfold hand
  rw [if_pos e]
theorem hand_miss {st : Bool} {c : Nat} {fs : List D} {n : Hn} {hs : List Hn} (e : ¬ (n.c = c ∨ n.c = 0)) : hand st c fs σ h (n :: hs) = hand st c fs σ h hs := by
  conv => lhs; unfold hand
  rw [if_neg e]
end
end DL
namespace DL
open PySem PySem.Spec PyProof.Rows L2
section
variable {C : Cls} {G : List D} {σ : Sd} {h : Hd} {i : Nat} {a b c : Ex}
theorem v3m_eq {t : W → Hd → Bool} {m : W → W → W → Hd → R W} {f g k : FV} : v3m t f (vSet g) (vSet k) m σ h = (f σ h).bind fun x h => if t x h = true then (g σ h).bind fun w h => (w.settle h).bind fun y h => (k σ h).bind fun w h => (w.settle h).bind fun z h => m x (.v y) (.v z) h else .no := by
  show ((f σ h).bind fun x h => if t x h = true then (vSet g σ h).bind fun y h => (vSet k σ h).bind fun z h => m x y z h else .no) = _
  congr 1
  funext x h1
  split
  · unfold vSet
    cases g σ h1 with
    | ok w h2 =>
      have go : ∀ (y : D) (h2 : Hd), ((k σ h2).bind (fun w h => (w.settle h).bind fun d h => R.ok (W.v d) h)).bind (fun z h => m x (.v y) z h) = (k σ h2).bind fun w h => (w.settle h).bind fun z h => m x (.v y) (.v z) h := fun y h2 => by
        cases k σ h2 with
        | ok w h3 => cases w <;> rfl
        | ex => rfl
        | no => rfl
      cases w with
      | v y => exact go y h2
      | l ys => exact go (.obj h2.length) (h2 ++ [.lst ys])
    | ex => rfl
    | no => rfl
  · rfl
@[simp] theorem ev_setd : (dn C G (.setd a b c)).v σ h = ((dn C G a).v σ h).bind fun x h => if isDk x h = true then ((dn C G b).v σ h).bind fun w h => (w.settle h).bind fun y h => ((dn C G c).v σ h).bind fun w h => (w.settle h).bind fun z h => mtSetd x (.v y) (.v z) h else .no := v3m_eq
@[simp] theorem ev_get2 : (dn C G (.get2 a b c)).v σ h = ((dn C G a).v σ h).bind fun x h => if isDk x h = true then ((dn C G b).v σ h).bind fun w h => (w.settle h).bind fun y h => ((dn C G c).v σ h).bind fun w h => (w.settle h).bind fun z h => mtGet2 x (.v y) (.v z) h else .no := v3m_eq
@[simp] theorem ev_sitems : (dn C G (.sitems a)).v σ h = ((dn C G a).v σ h).bind fun w h => R.ofO (sortI1 w h) h := rfl
@[simp] theorem ei_sitems : (dn C G (.sitems a)).i σ h = ((dn C G (.sitems a)).v σ h).bind fun w h => R.ofO (w.src h) h := rfl
@[simp] theorem ei_get2 : (dn C G (.get2 a b c)).i σ h = ((dn C G (.get2 a b c)).v σ h).bind fun w h => R.ofO (w.src h) h := rfl
@[simp] theorem ei_lst {es : List Ex} : (dn C G (.lst es)).i σ h = ((dn C G (.lst es)).v σ h).bind fun w h => R.ofO (w.src h) h := rfl
@[simp] theorem ei_b1 {f : B1} : (dn C G (.b1 f a)).i σ h = ((dn C G (.b1 f a)).v σ h).bind fun w h => R.ofO (w.src h) h := rfl
end
section
variable {h : Hd} {n : Nat}
@[simp] theorem isDk_dK {kvs : List (DK × D)} (e : h[n]? = some (.dK kvs)) : isDk (.v (.obj n)) h = true := by simp only [isDk, e]
@[simp] theorem isDk_dT {kvs : List (List DK × D)} (e : h[n]? = some (.dT kvs)) : isDk (.v (.obj n)) h = true := by simp only [isDk, e]
theorem get_dK {kvs : List (DK × D)} {k : D} {key : DK} {v : D} (e : h[n]? = some (.dK kvs)) (ek : k.key? = some key) (ev : valK kvs key = some v) : getIx (.v (.obj n)) (.v k) h = some (.v v) := by
  simp only [getIx, e, O.look, ek, Option.map_some, ev]
theorem get_dT {kvs : List (List DK × D)} {ks : List D} {key : List DK} {v : D} (e : h[n]? = some (.dT kvs)) (ek : D.keys? ks = some key) (ev : valK kvs key = some v) : getIx (.v (.obj n)) (.v (.tup ks)) h = some (.v v) := by
  simp only [getIx, e, O.look, ek, Option.map_some, ev]
theorem set_dK {kvs : List (DK × D)} {k d : D} {key : DK} (e : h[n]? = some (.dK kvs)) (ek : k.key? = some key) (hz : kvs.length < sizeLine) : setIx (.v (.obj n)) (.v k) d h = some (h.set n (.dK (putK kvs key d))) := by
  simp only [setIx, e, ek, if_pos hz]
theorem set_dT {kvs : List (List DK × D)} {ks : List D} {d : D} {key : List DK} (e : h[n]? = some (.dT kvs)) (ek : D.keys? ks = some key) (hz : kvs.length < sizeLine) : setIx (.v (.obj n)) (.v (.tup ks)) d h = some (h.set n (.dT (putK kvs key d))) := by
  simp only [setIx, e, ek, if_pos hz]
theorem get2_dK {kvs : List (DK × D)} {k z : D} {key : DK} (e : h[n]? = some (.dK kvs)) (ek : k.key? = some key) : mtGet2 (.v (.obj n)) (.v k) (.v z) h = .ok (.v ((valK kvs key).getD z)) h := by
  simp only [mtGet2, e, O.look, ek, Option.map_some]
theorem get2_dT {kvs : List (List DK × D)} {ks : List D} {z : D} {key : List DK} (e : h[n]? = some (.dT kvs)) (ek : D.keys? ks = some key) : mtGet2 (.v (.obj n)) (.v (.tup ks)) (.v z) h = .ok (.v ((valK kvs key).getD z)) h := by
  simp only [mtGet2, e, O.look, ek, Option.map_some]
theorem setd_old {kvs : List (DK × D)} {k z v : D} {key : DK} (e : h[n]? = some (.dK kvs)) (ek : k.key? = some key) (hz : kvs.length < sizeLine) (ev : valK kvs key = some v) : mtSetd (.v (.obj n)) (.v k) (.v z) h = .ok (.v v) h := by
  simp only [mtSetd, e, ek, setdK, if_pos hz, ev]
theorem setd_new {kvs : List (DK × D)} {k z : D} {key : DK} (e : h[n]? = some (.dK kvs)) (ek : k.key? = some key) (hz : kvs.length < sizeLine) (ev : valK kvs key = none) : mtSetd (.v (.obj n)) (.v k) (.v z) h = .ok (.v z) (h.set n (.dK (putK kvs key z))) := by
  simp only [mtSetd, e, ek, setdK, if_pos hz, ev]
theorem in_dT {kvs : List (List DK × D)} {ks : List D} {key : List DK} (e : h[n]? = some (.dT kvs)) (ek : D.keys? ks = some key) : inW (.v (.tup ks)) (.v (.obj n)) h = some (valK kvs key).isSome := by
  simp only [inW, e, O.look, ek, Option.map_some]
end
section
variable {C : Cls} {G : List D}
theorem compFx_m {b : FC} {g : Hd} {f : D → D} : ∀ {xs : List D}, (∀ d ∈ xs, b d g = .ok (some (f d)) g) → compFx b xs g = .ok (xs.map f) g
  | [], _ => rfl
  | x :: xs, h => by
    rw [compFx, h x (by simp), R.bind_ok, compFx_m (xs := xs) fun d hd => h d (by simp [hd])]
    rfl
theorem compFxL_m {b : FL2} {g : Hd} {f : D → List D} : ∀ {xs : List D}, (∀ d ∈ xs, b d g = .ok (f d) g) → compFxL b xs g = .ok (xs.flatMap f) g
  | [], _ => rfl
  | x :: xs, h => by
    rw [compFxL, h x (by simp), R.bind_ok, compFxL_m (xs := xs) fun d hd => h d (by simp [hd])]
    simp
theorem lc2_prod {j j1 : Nat} {it it1 elt : Ex} {σ : Sd} {g : Hd} {xs ys : List D} {f : D → D → D} (e : (dn C G it).i σ g = .ok (.fx xs) g) (e1 : ∀ x ∈ xs, sVal (dn C G it1).v (((σ.set j1 none).set j none).set j (some x)) g = .ok (.fx ys) g)
    (se : ∀ x ∈ xs, ∀ y ∈ ys, (dn C G elt).v (((((σ.set j1 none).set j none).set j (some x)).set j1 none).set j1 (some y)) g = .ok (.v (f x y)) g) (hz : xs.length * ys.length ≤ sizeLine) :
    (dn C G (.lc2 elt (.nm j) it none (.nm j1) .val it1 none [j, j1] [j1])).v σ g = .ok (.l (xs.flatMap fun x => ys.map (f x))) g := by
  show vLc2 (dn C G it).i (.nm j) (dnc C G none) (zS .val (dn C G it1).v) (.nm j1) (dnc C G none) (dn C G elt).v [j, j1] [j1] σ g = _
  unfold vLc2
  rw [e]
  have q : compSL (.fx xs) (turnF2 (.nm j) (dnc C G none) (zS .val (dn C G it1).v) (.nm j1) (dnc C G none) (dn C G elt).v [j, j1] [j1] σ) g = .ok (xs.flatMap fun x => ys.map (f x)) g := by
    refine compFxL_m fun x hx => ?_
    simp only [turnF2, wipe_cons, wipe_nil, put_nm]
    show (R.ok true g).bind _ = _
    simp only [R.bind_ok, if_true]
    show (sVal (dn C G it1).v (((σ.set j1 none).set j none).set j (some x)) g).bind _ = _
    rw [e1 x hx]
    simp only [R.bind_ok]
    refine compFx_m fun y hy => ?_
    simp only [turnF, wipe_cons, wipe_nil, put_nm]
    show (R.ok true g).bind _ = _
    simp only [R.bind_ok, if_true]
    unfold vSet
    rw [se x hx y hy]
    rfl
  simp only [R.bind_ok, q]
  have hl : (xs.flatMap fun x => ys.map (f x)).length = xs.length * ys.length := by
    simp [List.length_flatMap, List.map_const', List.sum_replicate_nat]
  rw [if_pos (by rw [hl]; exact hz)]
end
end DL
namespace PR
open PySem PySem.Spec PyProof.Rows L2 DL
theorem c_in {x y : W} {h : Hd} {b : Bool} (e : inW x y h = some b) : cmpW .In x y h = some b := by
  show inA x y h = _
  simp only [inA, e]
theorem c_notin {x y : W} {h : Hd} {b : Bool} (e : inW x y h = some b) : cmpW .NotIn x y h = some (!b) := by
  show (inA x y h).map (!·) = _
  simp only [inA, e]
  rfl
theorem ok_eq {A : Type} {r : R A} {a : A} {g : Hd} (h : Ok r fun b h => b = a ∧ h = g) : r = .ok a g := by
  obtain ⟨_, _, e, rfl, rfl⟩ := h
  exact e
theorem noInts : ∀ ns : List Int, D.noObjs (ns.map D.int) = true
  | [] => rfl
  | n :: ns => noInts ns
theorem gc_v0 {h h1 : Hd} {d : D} (e : Eld h h1) (hd : d.noObj = true) : gc h (.ok (.v d) h1) = .ok (.v d) h1 := by
  have := gc_v (L := []) e hd
  rw [List.append_nil] at this
  exact this
theorem gc_l0 {h h1 : Hd} {xs : List D} (e : Eld h h1) (hd : D.noObjs xs = true) : gc h (.ok (.l xs) h1) = .ok (.l xs) h1 := by
  have := gc_l (L := []) e hd
  rw [List.append_nil] at this
  exact this
theorem gc_x0 {h : Hd} {c : Nat} {fs : List D} (hd : D.noObjs fs = true) : gc h (.ex c fs h) = .ex c fs h := by
  have := gc_x (h := h) (h1 := h) (L := []) (c := c) (.refl h) hd
  rw [List.append_nil] at this
  exact this
theorem atI_mem {α : Type} {s : List α} {i : Int} (h0 : 0 ≤ i) (h1 : i < s.length) : ∃ x, atI s i = some x ∧ x ∈ s ∧ s[i.toNat]? = some x := by
  have hl : i.toNat < s.length := by omega
  exact ⟨s[i.toNat], by rw [atI_pos h0 h1, List.getElem?_eq_getElem hl], List.getElem_mem _, List.getElem?_eq_getElem hl⟩
theorem rng0 {d : Int} (h0 : 0 ≤ d) (h1 : d ≤ 1000000000) : rngSrc 0 d = some (.fx (rgs 0 d.toNat)) := by
  have := rng_src (lo := 0) (hi := d) (by omega) (by omega) (by omega) h1
  rw [Int.sub_zero] at this
  exact this
theorem rg0 {n i : Nat} {d : D} (e : (rgs 0 n)[i]? = some d) : d = .int i ∧ i < n := by
  have := ints_get e
  rw [Int.zero_add] at this
  exact this
theorem wide_of {i : Int} (h1 : -18446744073709551616 < i) (h2 : i < 18446744073709551616) : wide i = true := by
  unfold wide
  rw [decide_eq_true (show -2 ^ 64 < i by omega), decide_eq_true (show i < 2 ^ 64 by omega)]
  rfl
theorem take_at {α : Type} {l : List α} {n : Nat} {x : α} (h : l[n]? = some x) : l.take (n + 1) = l.take n ++ [x] := by rw [List.take_succ, h]; rfl
theorem gt_push {g : Hd} {i : Nat} {o : O} (h : g[i]? = some o) (L : Hd) : (g ++ L)[i]? = some o := by
  rw [get_lo (List.getElem?_eq_some_iff.mp h).1]
  exact h
theorem gt_new {g : Hd} {o : O} : (g ++ [o])[g.length]? = some o := by simp
theorem gt_self {g : Hd} {i : Nat} {o u : O} (h : g[i]? = some o) : (g.set i u)[i]? = some u := List.getElem?_set_self (List.getElem?_eq_some_iff.mp h).1
theorem gt_ne {g : Hd} {i j : Nat} {o u : O} (h : g[i]? = some o) (ne : j ≠ i) : (g.set j u)[i]? = some o := by rw [List.getElem?_set_ne ne]; exact h
section
variable {h : Hd}
@[simp] theorem b_shr {i j : Int} : binop .RShift (.v (.int i)) (.v (.int j)) h = if 0 ≤ j then some (.v (.int (i / 2 ^ j.toNat))) else none := by
  show (if 0 ≤ j then some (i / 2 ^ j.toNat) else none).map _ = _
  split <;> rfl
@[simp] theorem b_xor {i j : Int} : binop .BitXor (.v (.int i)) (.v (.int j)) h = some (.v (.int (Builtin.bitXor i j))) := rfl
theorem pop0_obj {n : Nat} {y : D} {xs : List D} (e : h[n]? = some (.lst (y :: xs))) (hz : xs.length < 1000000) : DL.mt1 .pop (.v (.obj n)) (.v (.int 0)) h = .ok (.v y) (h.set n (.lst xs)) := by
  have es : seqIndex? 0 (y :: xs).length = some 0 := by
    unfold seqIndex?
    simp
  simp only [DL.mt1, e]
  rw [if_pos (by decide)]
  simp only [es]
  rfl
end
def sG : List Nat := [103, 114, 101, 97, 116]
def sS : List Nat := [115, 109, 97, 108, 108]
def sC : List Nat := [99, 111, 117, 110, 116]
def drD (c : Int) : O := .dK [(.inr sG, .obj 1), (.inr sS, .obj 2), (.inr sC, .int c)]
def Dr (h : Hd) : Prop := ∃ (gs ss : List Int) (c : Int), h[1]? = some (.lst (gs.map .int)) ∧ h[2]? = some (.lst (ss.map .int)) ∧ h[3]? = some (drD c) ∧ gs.length ≤ 63 ∧ ss.length ≤ 63
structure Stp (h h' : Hd) : Prop where
  len : h'.length = h.length
  dr : Dr h'
  same : ∀ i, i ≠ 1 → i ≠ 3 → h'[i]? = h[i]?
theorem Dr.four {h : Hd} (p : Dr h) : 4 ≤ h.length := by
  obtain ⟨_, _, _, _, _, e, _⟩ := p
  have := (List.getElem?_eq_some_iff.mp e).1
  omega
theorem Dr.app {h : Hd} (p : Dr h) (L : Hd) : Dr (h ++ L) := by
  obtain ⟨gs, ss, c, e1, e2, e3, r⟩ := p
  exact ⟨gs, ss, c, gt_push e1 L, gt_push e2 L, gt_push e3 L, r⟩
theorem Stp.refl {h : Hd} (p : Dr h) : Stp h h := ⟨rfl, p, fun _ _ _ => rfl⟩
theorem Stp.trans {h h1 h2 : Hd} (a : Stp h h1) (b : Stp h1 h2) : Stp h h2 := ⟨b.len.trans a.len, b.dr, fun i h1 h3 => (b.same i h1 h3).trans (a.same i h1 h3)⟩
theorem Stp.eld {h h1 : Hd} (s : Stp h h1) : Eld h h1 := ⟨s.len, fun i o e => by
  have four := s.dr.four
  rw [s.len] at four
  obtain ⟨gs, ss, c, e1, e2, e3, _⟩ := s.dr
  by_cases h1 : i = 1
  · subst h1
    rw [e1] at e
    cases e
    exact .inr (lows_of (noInts gs))
  · by_cases h3 : i = 3
    · subst h3
      rw [e3] at e
      cases e
      right
      show (decide (1 < h.length) && (decide (2 < h.length) && true)) = true
      rw [decide_eq_true (by omega), decide_eq_true (by omega)]; rfl
    · rw [s.same i h1 h3] at e
      exact .inl e⟩
theorem Stp.cut {h L h' : Hd} (four : 4 ≤ h.length) (s : Stp (h ++ L) h') : ∃ h1, h' = h1 ++ L ∧ Stp h h1 := by
  have l := s.len
  rw [List.length_append] at l
  refine ⟨h'.take h.length, ?_, ?_⟩
  · apply List.ext_getElem?
    intro i
    by_cases hi : i < h.length
    · rw [List.getElem?_append_left (by rw [List.length_take]; omega), List.getElem?_take_of_lt hi]
    · rw [s.same i (by omega) (by omega), List.getElem?_append_right (by omega), List.getElem?_append_right (by rw [List.length_take]; omega), List.length_take]
      congr 1
      omega
  · refine ⟨by rw [List.length_take]; omega, ?_, fun i h1 h3 => ?_⟩
    · obtain ⟨gs, ss, c, e1, e2, e3, r⟩ := s.dr
      exact ⟨gs, ss, c, by rw [List.getElem?_take_of_lt (by omega)]; exact e1, by rw [List.getElem?_take_of_lt (by omega)]; exact e2, by rw [List.getElem?_take_of_lt (by omega)]; exact e3, r⟩
    · by_cases hl : i < h.length
      · rw [List.getElem?_take_of_lt hl, s.same i h1 h3, get_lo hl]
      · rw [List.getElem?_eq_none (by rw [List.length_take]; omega), List.getElem?_eq_none (by omega)]
theorem gt_stp {g g' : Hd} {i : Nat} {o : O} (s : Stp g g') (h1 : i ≠ 1) (h3 : i ≠ 3) (h : g[i]? = some o) : g'[i]? = some o := (s.same i h1 h3).trans h
def Sp (r : Hd → R W) (P : W → Prop) : Prop := ∀ h, Dr h → ∃ w h', r h = .ok w h' ∧ Stp h h' ∧ P w
theorem Sp.app {r : Hd → R W} {P : W → Prop} (s : Sp r P) {h : Hd} (p : Dr h) (L : Hd) : ∃ w h', r (h ++ L) = .ok w (h' ++ L) ∧ Stp h h' ∧ P w := by
  obtain ⟨w, h', e, st, q⟩ := s (h ++ L) (p.app L)
  obtain ⟨h1, rfl, st2⟩ := st.cut p.four
  exact ⟨w, h1, e, st2, q⟩
theorem Stp.great {h : Hd} (p : Dr h) (gs : List Int) (hl : gs.length ≤ 63) : Stp h (h.set 1 (.lst (gs.map .int))) := by
  have four := p.four
  obtain ⟨_, ss, c, e1, e2, e3, _, r⟩ := p
  exact ⟨by simp, ⟨gs, ss, c, gt_self e1, gt_ne e2 (by omega), gt_ne e3 (by omega), hl, r⟩, fun i h1 _ => List.getElem?_set_ne (Ne.symm h1)⟩
theorem Stp.count {h : Hd} (p : Dr h) (c : Int) : Stp h (h.set 3 (drD c)) := by
  obtain ⟨gs, ss, _, e1, e2, e3, r⟩ := p
  exact ⟨by simp, ⟨gs, ss, c, gt_ne e1 (by omega), gt_ne e2 (by omega), gt_self e3, r⟩, fun i _ h3 => List.getElem?_set_ne (Ne.symm h3)⟩
def fPick (A B E s1 M1 s2 M2 s3 : Int) : Fn := ⟨2, ["draws", "many", "great", "count", "small", "cell", "number", "rest"],
  [.set (.nm 2) (.ix (.var 0) (.str [103, 114, 101, 97, 116])), .ite (.var 2) [.set (.nm 6) (.ix (.var 2) (.int 0)), .set (.nm 7) (.bin .FloorDiv (.var 6) (.var 1)), .sub (.var 2) (.int 0) (.var 7), .ite (.cmp .Eq (.var 7) (.int 0)) [.ex (.m1 .pop (.var 2) (.int 0))] [], .ret (.bin .Mod (.b1 .int (.var 6)) (.var 1))] [], .set (.nm 3) (.ix (.var 0) (.str [99, 111, 117, 110, 116])), .sub (.var 0) (.str [99, 111, 117, 110, 116]) (.bin .Add (.var 3) (.int 1)), .set (.nm 4) (.ix (.var 0) (.str [115, 109, 97, 108, 108])), .set (.nm 5) (.int 0), .ite (.var 4) [.set (.nm 5) (.ix (.var 4) (.bin .Mod (.var 3) (.b1 .len (.var 4))))] [], .set (.nm 6) (.bin .Mod (.b1 .int (.bin .Add (.bin .Add (.bin .Mult (.var 5) (.int A)) (.bin .Mult (.var 3) (.int B))) (.int E))) (.int 4294967296)), .set (.nm 6) (.bin .Mod (.b1 .int (.bin .Mult (.bin .BitXor (.var 6) (.bin .RShift (.var 6) (.int s1))) (.int M1))) (.int 4294967296)), .set (.nm 6) (.bin .Mod (.b1 .int (.bin .Mult (.bin .BitXor (.var 6) (.bin .RShift (.var 6) (.int s2))) (.int M2))) (.int 4294967296)), .ret (.bin .Mod (.b1 .int (.bin .RShift (.var 6) (.int s3))) (.var 1))]⟩
structure PickC (A B E s1 M1 s2 M2 s3 : Int) : Prop where
  A : wide A = true
  B : wide B = true
  M1 : wide M1 = true
  M2 : wide M2 = true
  s1 : 0 ≤ s1
  s2 : 0 ≤ s2
  s3 : 0 ≤ s3
section
variable {F : List Fn} {G : List D}
theorem pick_sp {ip : Nat} {A B E s1 M1 s2 M2 s3 : Int} (ef : F[ip]? = some (fPick A B E s1 M1 s2 M2 s3)) (pc : PickC A B E s1 M1 s2 M2 s3) (k : Nat) (m : Int) (h1 : 1 ≤ m) (h2 : m < 18446744073709551616) :
    Sp (run F G (k + 1) ip [.obj 3, .int m]) fun w => ∃ d, w = .v (.int d) ∧ 0 ≤ d ∧ d < m := by
  intro h p
  have p0 := p
  have four := p.four
  obtain ⟨gs, ss, c, e1, e2, e3, hg, hs⟩ := p
  refine run_ok (fn := fPick A B E s1 M1 s2 M2 s3) ef rfl ?_
  show Ok (sdns (run F G k) G (fPick A B E s1 M1 s2 M2 s3).body [some (.obj 3), some (.int m), none, none, none, none, none, none] h) _
  unfold fPick
  simp only []
  have m0 : 0 < m := by omega
  have k1 : getIx (.v (.obj 3)) (.v (.str [103, 114, 101, 97, 116])) h = some (.v (.obj 1)) := get_dK e3 rfl rfl
  refine Ok.nx (σ' := [some (.obj 3), some (.int m), some (.obj 1), none, none, none, none, none]) (h1 := h) (by simp [k1]) ?_
  cases gs with
  | cons x r =>
    refine Ok.ifT (h1 := h) (by simp [tr_obj e1]) ?_
    have i1 : atI ((x :: r).map D.int) 0 = some (.int x) := by rw [atI_pos (by omega) (by simp <;> omega)]; rfl
    have n1 : ixN ((x :: r).map D.int).length 0 = some 0 := by rw [ixN_pos (by omega) (by simp <;> omega)]; rfl
    refine Ok.nx (σ' := [some (.obj 3), some (.int m), some (.obj 1), none, none, none, some (.int x), none]) (h1 := h) (by simp [-List.map_cons, ix_obj e1, i1]) ?_
    refine Ok.nx (σ' := [some (.obj 3), some (.int m), some (.obj 1), none, none, none, some (.int x), some (.int (x / m))]) (h1 := h) (by simp [m0, h2]) ?_
    generalize hy : x / m = y
    have st1 : setIx (.v (.obj 1)) (.v (.int 0)) (.int y) h = some (h.set 1 (.lst ((y :: r).map .int))) := by rw [set_obj e1, n1]; rfl
    refine Ok.nx (σ' := [some (.obj 3), some (.int m), some (.obj 1), none, none, none, some (.int x), some (.int y)]) (h1 := h.set 1 (.lst ((y :: r).map .int))) (by simp [-DL.set_obj, -List.map_cons, st1]) ?_
    have g1 : (h.set 1 (.lst ((y :: r).map .int)))[1]? = some (.lst ((y :: r).map .int)) := gt_self e1
    refine Ok.if_ (t := decide (y = 0)) (h1 := h.set 1 (.lst ((y :: r).map .int))) (by simp) (fun _ => ?_) (fun _ => ?_)
    · have pp := pop0_obj (h := h.set 1 (.lst ((y :: r).map .int))) g1 (by rw [List.length_map]; rw [List.length_cons] at hg; omega)
      refine Ok.nx (σ' := [some (.obj 3), some (.int m), some (.obj 1), none, none, none, some (.int x), some (.int y)]) (h1 := h.set 1 (.lst (r.map .int))) (by simp [-List.map_cons, isL_obj g1, pp]) ?_
      refine Ok.ret (w := .v (.int (x % m))) (h1 := h.set 1 (.lst (r.map .int))) (by simp [m0]) ?_
      have st : Stp h (h.set 1 (.lst (r.map .int))) := .great p0 r (by rw [List.length_cons] at hg; omega)
      exact .eq (gc_v0 st.eld rfl) ⟨st, _, rfl, Int.emod_nonneg _ (by omega), Int.emod_lt_of_pos _ m0⟩
    · refine Ok.ret (w := .v (.int (x % m))) (h1 := h.set 1 (.lst ((y :: r).map .int))) (by simp [m0]) ?_
      have st : Stp h (h.set 1 (.lst ((y :: r).map .int))) := .great p0 (y :: r) (by rw [List.length_cons] at hg ⊢; omega)
      exact .eq (gc_v0 st.eld rfl) ⟨st, _, rfl, Int.emod_nonneg _ (by omega), Int.emod_lt_of_pos _ m0⟩
  | nil =>
    refine Ok.ifF (h1 := h) (by simp [tr_obj e1]) ?_
    have k2 : getIx (.v (.obj 3)) (.v (.str [99, 111, 117, 110, 116])) h = some (.v (.int c)) := get_dK e3 rfl rfl
    refine Ok.nx (σ' := [some (.obj 3), some (.int m), some (.obj 1), some (.int c), none, none, none, none]) (h1 := h) (by simp [k2]) ?_
    have pk : DL.putK (κ := DK) [(Sum.inr sG, D.obj 1), (Sum.inr sS, D.obj 2), (Sum.inr sC, D.int c)] (Sum.inr sC) (.int (c + 1)) = [(Sum.inr sG, D.obj 1), (Sum.inr sS, D.obj 2), (Sum.inr sC, D.int (c + 1))] := by
      simp [DL.putK, sG, sS, sC]
    have k3 : setIx (.v (.obj 3)) (.v (.str [99, 111, 117, 110, 116])) (.int (c + 1)) h = some (h.set 3 (drD (c + 1))) := by
      have := set_dK (k := .str sC) (d := .int (c + 1)) (key := .inr sC) e3 rfl (by rw [sizeLine_eq]; show 3 < 16777216; omega)
      rw [pk] at this
      exact this
    refine Ok.nx (σ' := [some (.obj 3), some (.int m), some (.obj 1), some (.int c), none, none, none, none]) (h1 := h.set 3 (drD (c + 1))) (by simp [k3]) ?_
    have st := Stp.count p0 (c + 1)
    have f2 : (h.set 3 (drD (c + 1)))[2]? = some (.lst (ss.map .int)) := gt_ne e2 (by omega)
    have f3 : (h.set 3 (drD (c + 1)))[3]? = some (drD (c + 1)) := gt_self e3
    generalize h.set 3 (drD (c + 1)) = g at st f2 f3
    have k4 : getIx (.v (.obj 3)) (.v (.str [115, 109, 97, 108, 108])) g = some (.v (.obj 2)) := get_dK f3 rfl rfl
    refine Ok.nx (σ' := [some (.obj 3), some (.int m), some (.obj 1), some (.int c), some (.obj 2), none, none, none]) (h1 := g) (by simp [k4]) ?_
    refine Ok.nx (σ' := [some (.obj 3), some (.int m), some (.obj 1), some (.int c), some (.obj 2), some (.int 0), none, none]) (h1 := g) (by simp) ?_
    have fin : ∀ z : Int, Ok (sdns (run F G k) G ((fPick A B E s1 M1 s2 M2 s3).body.drop 7) [some (.obj 3), some (.int m), some (.obj 1), some (.int c), some (.obj 2), some (.int z), none, none] g) (Fin h fun w h' => Stp h h' ∧ ∃ d, w = .v (.int d) ∧ 0 ≤ d ∧ d < m) := by
      intro z
      unfold fPick
      simp only [List.drop_succ_cons, List.drop_zero]
      refine Ok.nx (σ' := [some (.obj 3), some (.int m), some (.obj 1), some (.int c), some (.obj 2), some (.int z), some (.int ((z * A + c * B + E) % 4294967296)), none]) (h1 := g) (by simp [pc.A, pc.B]) ?_
      generalize (z * A + c * B + E) % 4294967296 = u
      refine Ok.nx (σ' := [some (.obj 3), some (.int m), some (.obj 1), some (.int c), some (.obj 2), some (.int z), some (.int ((Builtin.bitXor u (u / 2 ^ s1.toNat) * M1) % 4294967296)), none]) (h1 := g) (by simp [pc.M1, pc.s1]) ?_
      generalize (Builtin.bitXor u (u / 2 ^ s1.toNat) * M1) % 4294967296 = v
      refine Ok.nx (σ' := [some (.obj 3), some (.int m), some (.obj 1), some (.int c), some (.obj 2), some (.int z), some (.int ((Builtin.bitXor v (v / 2 ^ s2.toNat) * M2) % 4294967296)), none]) (h1 := g) (by simp [pc.M2, pc.s2]) ?_
      generalize (Builtin.bitXor v (v / 2 ^ s2.toNat) * M2) % 4294967296 = t
      refine Ok.ret (w := .v (.int ((t / 2 ^ s3.toNat) % m))) (h1 := g) (by simp [m0, pc.s3]) ?_
      exact .eq (gc_v0 st.eld rfl) ⟨st, _, rfl, Int.emod_nonneg _ (by omega), Int.emod_lt_of_pos _ m0⟩
    cases ss with
    | nil => exact Ok.ifF (h1 := g) (by simp [tr_obj f2]) (fin 0)
    | cons y r =>
      refine Ok.ifT (h1 := g) (by simp [tr_obj f2]) ?_
      obtain ⟨n, hn⟩ : ∃ n : Int, n = (((y :: r).map D.int).length : Int) := ⟨_, rfl⟩
      have el : bl1 .len (.v (.obj 2)) g = some (.v (.int n)) := by rw [len_obj f2, hn]
      have n0 : 0 < n := by rw [hn, List.length_map, List.length_cons]; omega
      obtain ⟨d, ed, hd, _⟩ := atI_mem (s := (y :: r).map D.int) (i := c % n) (Int.emod_nonneg _ (by omega)) (by rw [← hn]; exact Int.emod_lt_of_pos _ n0)
      obtain ⟨z, _, rfl⟩ := List.mem_map.mp hd
      refine Ok.nx (σ' := [some (.obj 3), some (.int m), some (.obj 1), some (.int c), some (.obj 2), some (.int z), none, none]) (h1 := g) (by simp [-List.map_cons, el, n0, ix_obj f2, ed]) (fin z)
theorem set_none {σ : Sd} {j : Nat} {d : D} : (σ.set j none).set j (some d) = σ.set j (some d) := by rw [List.set_set]
section
variable {C : DL.Cls}
theorem lc_fm2 {α : Type} {j : Nat} {it c elt : Ex} {σ : Sd} {g0 g : Hd} {s : Src} {xs : List α} {m y : α → D} {f : α → Bool} {ok : Hd → Prop} (e : (dn C G it).i σ g0 = .ok s g) (w : Walks s (xs.map m) ok) (hok : ok g) (hz : xs.length ≤ sizeLine)
    (st : ∀ x ∈ xs, (dn C G c).t (σ.set j (some (m x))) g = .ok (f x) g) (se : ∀ x ∈ xs, f x = true → (dn C G elt).v (σ.set j (some (m x))) g = .ok (.v (y x)) g) :
    (dn C G (.lc elt (.nm j) it (some c) [j])).v σ g0 = .ok (.l ((xs.filter f).map y)) g := by
  apply ok_eq
  refine Ok.lc1 (s := s) (xs := xs.map m) (ok := ok) (fun i ys h => h = g ∧ ys = ((xs.take i).filter f).map y) e w ⟨rfl, by simp⟩ (fun _ _ _ q => q.1 ▸ hok) ?_ ?_
  · rintro i d ys h hd ⟨rfl, rfl⟩
    rw [List.getElem?_map, Option.map_eq_some_iff] at hd
    obtain ⟨x, ex, rfl⟩ := hd
    have hx := List.mem_of_getElem? ex
    have tk : xs.take (i + 1) = xs.take i ++ [x] := by rw [List.take_succ, ex]; rfl
    refine ⟨σ.set j (some (m x)), f x, h, by simp [set_none], st x hx, fun hf => ⟨y x, h, se x hx hf, rfl, ?_⟩, fun hf => ⟨rfl, ?_⟩⟩
    · rw [tk, List.filter_append, List.map_append]
      simp [hf]
    · rw [tk, List.filter_append, List.map_append]
      simp [hf]
  · rintro ys h ⟨rfl, rfl⟩
    have tl : xs.take (xs.map m).length = xs := List.take_of_length_le (by simp)
    rw [tl]
    refine ⟨?_, rfl, rfl⟩
    rw [List.length_map]
    exact Nat.le_trans (List.length_filter_le _ _) hz
theorem lc_m2 {α : Type} {j : Nat} {it elt : Ex} {σ : Sd} {g0 g : Hd} {s : Src} {xs : List α} {m y : α → D} {ok : Hd → Prop} (e : (dn C G it).i σ g0 = .ok s g) (w : Walks s (xs.map m) ok) (hok : ok g) (hz : xs.length ≤ sizeLine)
    (se : ∀ x ∈ xs, (dn C G elt).v (σ.set j (some (m x))) g = .ok (.v (y x)) g) : (dn C G (.lc elt (.nm j) it none [j])).v σ g0 = .ok (.l (xs.map y)) g := by
  apply ok_eq
  refine Ok.lc0 (s := s) (xs := xs.map m) (ok := ok) (fun i ys h => h = g ∧ ys = (xs.take i).map y) e w ⟨rfl, by simp⟩ (fun _ _ _ q => q.1 ▸ hok) ?_ ?_
  · rintro i d ys h hd ⟨rfl, rfl⟩
    rw [List.getElem?_map, Option.map_eq_some_iff] at hd
    obtain ⟨x, ex, rfl⟩ := hd
    have hx := List.mem_of_getElem? ex
    have tk : xs.take (i + 1) = xs.take i ++ [x] := by rw [List.take_succ, ex]; rfl
    refine ⟨σ.set j (some (m x)), y x, h, by simp [set_none], se x hx, rfl, ?_⟩
    rw [tk, List.map_append]
    rfl
  · rintro ys h ⟨rfl, rfl⟩
    have tl : xs.take (xs.map m).length = xs := List.take_of_length_le (by simp)
    rw [tl]
    refine ⟨?_, rfl, rfl⟩
    rw [List.length_map]
    exact hz
def Fnd (A : Hd → Prop) (S : Sd → Hd → Prop) (o : Option D) : Fl → Hd → Prop := fun r h => match o with
  | some d => r = .rt (.v d) ∧ A h
  | none => ∃ σ, r = .nx σ ∧ S σ h
end
def fBeg : Fn := ⟨1, ["script", "cells", "great", "small", "cell"],
  [.set (.nm 1) (.lc (.b1 .abs (.b1 .int (.var 4))) (.nm 4) (.sl (.var 0) none (some (.int 63))) none [4]), .set (.nm 2) (.lc (.var 4) (.nm 4) (.var 1) (some (.cmp .GtE (.var 4) (.bin .Pow (.int 10) (.int 18)))) [4]), .set (.nm 3) (.lc (.var 4) (.nm 4) (.var 1) (some (.cmp .Lt (.var 4) (.bin .Pow (.int 10) (.int 18)))) [4]), .ret (.dd [(.str [103, 114, 101, 97, 116]), (.str [115, 109, 97, 108, 108]), (.str [99, 111, 117, 110, 116])] [(.var 2), (.var 3), (.int 0)])]⟩
theorem beg_ok {ib : Nat} (ef : F[ib]? = some fBeg) (k : Nat) (ns : List Int) (hl : ns.length ≤ 63) : ∃ g, run F G (k + 1) ib [.ro (ns.map .int)] [] = .ok (.v (.obj 3)) g ∧ Dr g := by
  have main : Ok (run F G (k + 1) ib [.ro (ns.map .int)] []) fun w g => w = .v (.obj 3) ∧ Dr g := by
    refine run_ok (fn := fBeg) ef rfl ?_
    show Ok (sdns (run F G k) G fBeg.body [some (.ro (ns.map .int)), none, none, none, none] []) _
    unfold fBeg
    simp only []
    have ct : cutL (ns.map D.int) none (some 63) = ns.map D.int := by
      rw [show (63 : Int) = ((63 : Nat) : Int) from rfl, cut_to, List.take_of_length_le (by simpa using hl)]
    have e1 := lc_m2 (C := run F G k) (G := G) (j := 4) (it := .sl (.var 0) none (some (.int 63))) (elt := .b1 .abs (.b1 .int (.var 4))) (σ := [some (.ro (ns.map .int)), none, none, none, none]) (g0 := []) (g := []) (s := .fx (ns.map .int)) (xs := ns) (m := .int) (y := fun n => .int n.natAbs) (by simp [ct]) (.fx _) trivial (by rw [sizeLine_eq]; omega) (fun x _ => by simp)
    refine Ok.nx (σ' := [some (.ro (ns.map .int)), some (.obj 0), none, none, none]) (h1 := [.lst (ns.map fun n => .int n.natAbs)]) (by simp [e1]) ?_
    generalize hcs : (ns.map fun n : Int => ((n.natAbs : Nat) : Int)) = cs
    have ecs : (ns.map fun n : Int => D.int ((n.natAbs : Nat) : Int)) = cs.map D.int := by rw [← hcs, List.map_map]; rfl
    rw [ecs]
    have cl : cs.length ≤ 63 := by rw [← hcs, List.length_map]; exact hl
    have p18 : ((10 : Int) ^ (18 : Nat)) = 1000000000000000000 := by decide
    have w1 : ∀ L : Hd, Walks (lsrc 0) (cs.map D.int) fun h => h[0]? = some (.lst (cs.map D.int)) := fun L => .lst 0 (by rw [List.length_map]; unfold FU; omega)
    have e2 := lc_fm2 (C := run F G k) (G := G) (j := 4) (it := .var 1) (c := .cmp .GtE (.var 4) (.bin .Pow (.int 10) (.int 18))) (elt := .var 4) (σ := [some (.ro (ns.map .int)), some (.obj 0), none, none, none]) (g0 := [.lst (cs.map .int)]) (g := [.lst (cs.map .int)]) (s := lsrc 0) (xs := cs) (m := .int) (y := .int) (f := fun x => decide (1000000000000000000 ≤ x)) (by simp [src_obj (n := 0) (h := [O.lst (cs.map D.int)]) rfl]) (w1 []) rfl (by rw [sizeLine_eq]; omega) (fun x _ => by simp) (fun x _ _ => by simp)
    refine Ok.nx (σ' := [some (.ro (ns.map .int)), some (.obj 0), some (.obj 1), none, none]) (h1 := [.lst (cs.map .int), .lst ((cs.filter fun x => decide (1000000000000000000 ≤ x)).map .int)]) (by simp [e2]) ?_
    have e3 := lc_fm2 (C := run F G k) (G := G) (j := 4) (it := .var 1) (c := .cmp .Lt (.var 4) (.bin .Pow (.int 10) (.int 18))) (elt := .var 4) (σ := [some (.ro (ns.map .int)), some (.obj 0), some (.obj 1), none, none]) (g0 := [.lst (cs.map .int), .lst ((cs.filter fun x => decide (1000000000000000000 ≤ x)).map .int)]) (g := [.lst (cs.map .int), .lst ((cs.filter fun x => decide (1000000000000000000 ≤ x)).map .int)]) (s := lsrc 0) (xs := cs) (m := .int) (y := .int) (f := fun x => decide (x < 1000000000000000000)) (by simp [src_obj (n := 0) (h := [O.lst (cs.map D.int), .lst ((cs.filter fun x => decide (1000000000000000000 ≤ x)).map .int)]) rfl]) (w1 []) rfl (by rw [sizeLine_eq]; omega) (fun x _ => by simp) (fun x _ _ => by simp)
    have l1 := List.length_filter_le (fun x : Int => decide (1000000000000000000 ≤ x)) cs
    have l2 := List.length_filter_le (fun x : Int => decide (x < 1000000000000000000)) cs
    generalize (cs.filter fun x => decide (1000000000000000000 ≤ x)) = gs at e2 e3 l1 ⊢
    generalize (cs.filter fun x => decide (x < 1000000000000000000)) = ss at e3 l2
    refine Ok.nx (σ' := [some (.ro (ns.map .int)), some (.obj 0), some (.obj 1), some (.obj 2), none]) (h1 := [.lst (cs.map .int), .lst (gs.map .int), .lst (ss.map .int)]) (by simp [e3]) ?_
    have em : DL.mergeD [] [(Sum.inr [103, 114, 101, 97, 116], D.obj 1), (Sum.inr [115, 109, 97, 108, 108], D.obj 2), (Sum.inr [99, 111, 117, 110, 116], D.int 0)] = [(Sum.inr sG, D.obj 1), (Sum.inr sS, D.obj 2), (Sum.inr sC, D.int 0)] := by simp [DL.mergeD, DL.putK, sG, sS, sC]
    refine Ok.ret (w := .v (.obj 3)) (h1 := [.lst (cs.map .int), .lst (gs.map .int), .lst (ss.map .int), drD 0]) (by simp [D.key?, em, drD]) ?_
    have eld : Elder [] ([.lst (cs.map .int), .lst (gs.map .int), .lst (ss.map .int), drD 0] : Hd) := fun i o hi => absurd hi (by simp)
    refine .eq (a := .v (.obj 3)) (h := [.lst (cs.map .int), .lst (gs.map .int), .lst (ss.map .int), drD 0]) ?_ ⟨rfl, gs, ss, 0, rfl, rfl, rfl, by omega, by omega⟩
    simp only [gc]
    rw [if_pos eld]
    rfl
  obtain ⟨w, g, e, rfl, p⟩ := main
  exact ⟨g, e, p⟩
end
end PR
namespace PR
open PySem PySem.Spec PyProof.Rows L2 DL
structure Mv where
  o : Int
  l : List Nat
  t : Int
  p : Int
def Mv.key (m : Mv) : List DK := [.inl m.o, .inr m.l, .inl m.t]
def Mv.kd (m : Mv) : D := .tup [.int m.o, .str m.l, .int m.t]
def Mv.d (m : Mv) : D := .tup [.int m.o, .str m.l, .int m.t, .int m.p]
def ent (m : Mv) : List DK × D := (m.key, .int m.p)
theorem key_of (m : Mv) : D.keys? [.int m.o, .str m.l, .int m.t] = some m.key := rfl
def Mv.wp (m : Mv) (p : Int) : Mv := ⟨m.o, m.l, m.t, p⟩
def valM (kv : List Mv) (k : List DK) : Option Int := (kv.find? fun e => decide (e.key = k)).map (·.p)
def putM (kv : List Mv) (m : Mv) : List Mv := if kv.any (fun e => decide (e.key = m.key)) then kv.map (fun e => if e.key = m.key then e.wp m.p else e) else kv ++ [m]
def offer (kv : List Mv) (m : Mv) : List Mv := match valM kv m.key with
  | none => putM kv m
  | some q => if m.p < q then putM kv m else kv
theorem valK_ent (kv : List Mv) (k : List DK) : DL.valK (kv.map ent) k = (valM kv k).map .int := by
  unfold DL.valK valM
  rw [List.find?_map]
  rw [Option.map_map, Option.map_map]
  rfl
theorem putK_ent (kv : List Mv) (m : Mv) : DL.putK (kv.map ent) m.key (.int m.p) = (putM kv m).map ent := by
  unfold DL.putK putM
  rw [List.any_map]
  have e : (kv.any ((fun kv => decide (kv.1 = m.key)) ∘ ent)) = kv.any (fun e => decide (e.key = m.key)) := rfl
  rw [e]
  split
  · rw [List.map_map, List.map_map]
    refine List.map_congr_left fun e _ => ?_
    show (if e.key = m.key then (e.key, D.int m.p) else ent e) = ent (if e.key = m.key then e.wp m.p else e)
    split <;> rfl
  · rw [List.map_append]; rfl
theorem inj_key : ∀ {kv : List Mv} {a b : Mv}, (kv.map Mv.key).Nodup → a ∈ kv → b ∈ kv → a.key = b.key → a = b
  | e :: kv, a, b, h, ha, hb, hk => by
    rw [List.map_cons, List.nodup_cons] at h
    rcases List.mem_cons.mp ha with ea | ha
    · rcases List.mem_cons.mp hb with eb | hb
      · rw [ea, eb]
      · exact absurd (List.mem_map.mpr ⟨b, hb, by rw [← hk, ea]⟩) h.1
    · rcases List.mem_cons.mp hb with eb | hb
      · exact absurd (List.mem_map.mpr ⟨a, ha, by rw [hk, eb]⟩) h.1
      · exact inj_key h.2 ha hb hk
theorem valM_mem {kv : List Mv} {m : Mv} (h : (kv.map Mv.key).Nodup) (hm : m ∈ kv) : valM kv m.key = some m.p := by
  unfold valM
  cases e : kv.find? fun e => decide (e.key = m.key) with
  | none =>
    rw [List.find?_eq_none] at e
    exact absurd (decide_eq_true rfl) (e m hm)
  | some a =>
    have h1 := of_decide_eq_true (List.find?_some (p := fun e : Mv => decide (e.key = m.key)) e)
    rw [inj_key h (List.mem_of_find?_eq_some e) hm h1]
    rfl
theorem valM_some {kv : List Mv} {k : List DK} {q : Int} (e : valM kv k = some q) : ∃ a ∈ kv, a.key = k ∧ a.p = q := by
  unfold valM at e
  obtain ⟨a, e1, e2⟩ := Option.map_eq_some_iff.mp e
  exact ⟨a, List.mem_of_find?_eq_some e1, of_decide_eq_true (List.find?_some (p := fun e : Mv => decide (e.key = k)) e1), e2⟩
theorem valM_none {kv : List Mv} {k : List DK} (e : valM kv k = none) : ∀ a ∈ kv, a.key ≠ k := by
  unfold valM at e
  rw [Option.map_eq_none_iff, List.find?_eq_none] at e
  intro a ha hk
  exact e a ha (decide_eq_true hk)
theorem valM_no {kv : List Mv} {k : List DK} (h : ∀ a ∈ kv, a.key ≠ k) : valM kv k = none := by
  cases e : valM kv k with
  | none => rfl
  | some q =>
    obtain ⟨a, ha, hk, _⟩ := valM_some e
    exact absurd hk (h a ha)
theorem wp_key (m : Mv) (p : Int) : (m.wp p).key = m.key := rfl
theorem putM_keys (kv : List Mv) (m : Mv) : (putM kv m).map Mv.key = if kv.any (fun e => decide (e.key = m.key)) then kv.map Mv.key else kv.map Mv.key ++ [m.key] := by
  unfold putM
  split
  · rw [List.map_map]
    refine List.map_congr_left fun e _ => ?_
    show (if e.key = m.key then e.wp m.p else e).key = e.key
    split <;> rfl
  · rw [List.map_append]; rfl
theorem putM_nd {kv : List Mv} {m : Mv} (h : (kv.map Mv.key).Nodup) : ((putM kv m).map Mv.key).Nodup := by
  rw [putM_keys]
  split
  · exact h
  · rename_i q
    rw [List.nodup_append]
    refine ⟨h, by simp, fun a ha b hb => ?_⟩
    rw [List.mem_singleton.mp hb]
    rintro rfl
    obtain ⟨e, he, hk⟩ := List.mem_map.mp ha
    exact q (List.any_eq_true.mpr ⟨e, he, decide_eq_true hk⟩)
theorem putM_len (kv : List Mv) (m : Mv) : (putM kv m).length ≤ kv.length + 1 := by
  unfold putM
  split <;> simp
theorem offer_nd {kv : List Mv} {m : Mv} (h : (kv.map Mv.key).Nodup) : ((offer kv m).map Mv.key).Nodup := by
  unfold offer
  split
  · exact putM_nd h
  · split
    · exact putM_nd h
    · exact h
theorem offer_len (kv : List Mv) (m : Mv) : (offer kv m).length ≤ kv.length + 1 := by
  have := putM_len kv m
  unfold offer
  split
  · exact this
  · split
    · exact this
    · omega
theorem putM_id {kv : List Mv} {m : Mv} (h : (kv.map Mv.key).Nodup) (e : valM kv m.key = some m.p) : putM kv m = kv := by
  obtain ⟨a, ha, hk, hp⟩ := valM_some e
  unfold putM
  rw [if_pos (List.any_eq_true.mpr ⟨a, ha, decide_eq_true hk⟩)]
  refine (List.map_congr_left fun b hb => ?_).trans (List.map_id kv)
  by_cases q : b.key = m.key
  · rw [if_pos q, inj_key h hb ha (q.trans hk.symm), ← hp]
    rfl
  · rw [if_neg q]; rfl
theorem law_offer {kv : List Mv} {m : Mv} (h : (kv.map Mv.key).Nodup) : putM kv (m.wp (if (valM kv m.key).getD m.p < m.p then (valM kv m.key).getD m.p else m.p)) = offer kv m := by
  unfold offer
  cases e : valM kv m.key with
  | none =>
    show putM kv (m.wp (if m.p < m.p then m.p else m.p)) = putM kv m
    rw [if_neg (by omega)]
    rfl
  | some q =>
    show putM kv (m.wp (if q < m.p then q else m.p)) = if m.p < q then putM kv m else kv
    by_cases h1 : q < m.p
    · rw [if_pos h1, if_neg (by omega)]
      exact putM_id h e
    · rw [if_neg h1]
      by_cases h2 : m.p < q
      · rw [if_pos h2]; rfl
      · rw [if_neg h2]
        have e2 : q = m.p := by omega
        exact putM_id h (by rw [wp_key, e, e2]; rfl)
theorem new_offer {kv : List Mv} {m : Mv} (h : ∀ a ∈ kv, a.key ≠ m.key) : putM kv m = offer kv m := by
  unfold offer
  rw [valM_no h]
def pK (m : Mv) : PyData := .tuple [.int m.o, .str (mkS m.l), .int m.t]
def pE (m : Mv) : PyData := .tuple [pK m, .int m.p]
def pD (m : Mv) : PyData := .tuple [.int m.o, .str (mkS m.l), .int m.t, .int m.p]
def Mv.ed (m : Mv) : D := .tup [m.kd, .int m.p]
theorem kvD_ent (m : Mv) : kvD (ent m) = m.ed := rfl
theorem py_kd (m : Mv) : m.kd.py = some (pK m) := by simp [Mv.kd, pK, D.py, D.pys]
theorem py_ed (m : Mv) : m.ed.py = some (pE m) := by simp [Mv.ed, Mv.kd, pE, pK, D.py, D.pys]
theorem py_d (m : Mv) : m.d.py = some (pD m) := by simp [Mv.d, pD, D.py, D.pys]
theorem al_K (a b : Mv) : PySem.W.alike (pK a) (pK b) = true := by simp [pK, PySem.W.alike, PySem.W.alikeAll]
theorem al_E (a b : Mv) : PySem.W.alike (pE a) (pE b) = true := by simp [pE, pK, PySem.W.alike, PySem.W.alikeAll]
theorem al_D (a b : Mv) : PySem.W.alike (pD a) (pD b) = true := by simp [pD, PySem.W.alike, PySem.W.alikeAll]
structure Lay (f : Mv → D) (q : Mv → PyData) : Prop where
  py : ∀ m, (f m).py = some (q m)
  al : ∀ a b, PySem.W.alike (q a) (q b) = true
  tp : ∀ m, isTupC (q m) = true
  dp : ∀ m, (q m).depth ≤ 100
theorem layK : Lay Mv.kd pK := ⟨py_kd, al_K, fun _ => rfl, fun m => by simp [pK, PyData.depth, PyData.depthAll]⟩
theorem layE : Lay Mv.ed pE := ⟨py_ed, al_E, fun _ => rfl, fun m => by simp [pE, pK, PyData.depth, PyData.depthAll]⟩
theorem layD : Lay Mv.d pD := ⟨py_d, al_D, fun _ => rfl, fun m => by simp [pD, PyData.depth, PyData.depthAll]⟩
theorem Lay.pys {f : Mv → D} {q : Mv → PyData} (y : Lay f q) : ∀ kv : List Mv, D.pys (kv.map f) = some (kv.map q)
  | [] => rfl
  | m :: kv => by simp only [List.map_cons, D.pys, y.py m, y.pys kv]
theorem Lay.srt {f : Mv → D} {q : Mv → PyData} (y : Lay f q) (kv : List Mv) : srtOk (kv.map q) = true := by
  unfold srtOk
  rw [Bool.and_eq_true, Bool.and_eq_true]
  refine ⟨⟨?_, ?_⟩, ?_⟩
  · rw [List.all_eq_true]
    intro a ha
    rw [List.all_eq_true]
    intro b hb
    obtain ⟨a, _, rfl⟩ := List.mem_map.mp ha
    obtain ⟨b, _, rfl⟩ := List.mem_map.mp hb
    exact y.al a b
  · rw [Bool.or_eq_true]
    left
    rw [List.all_eq_true]
    intro a ha
    obtain ⟨a, _, rfl⟩ := List.mem_map.mp ha
    exact y.tp a
  · rw [List.all_eq_true]
    intro a ha
    obtain ⟨a, _, rfl⟩ := List.mem_map.mp ha
    exact decide_eq_true (y.dp a)
theorem ints_no {f : Mv → D} {q : Mv → PyData} (y : Lay f q) (m : Mv) (kv : List Mv) (h : Hd) : srt0 (.l ((m :: kv).map f)) h = none := by
  have h1 : ∃ x r, f m = .tup (x :: r) ∨ ∃ xs, f m = .ro xs := by
    have e := y.py m
    have t := y.tp m
    cases ef : f m with
    | tup xs =>
      cases xs with
      | nil => rw [ef] at e; simp [D.py, D.pys] at e; rw [← e] at t; cases t
      | cons x r => exact ⟨x, r, .inl rfl⟩
    | ro xs => exact ⟨.non, [], .inr ⟨xs, rfl⟩⟩
    | non => rw [ef] at e; rw [← Option.some.inj e] at t; cases t
    | bl b => rw [ef] at e; rw [← Option.some.inj e] at t; cases t
    | int b => rw [ef] at e; rw [← Option.some.inj e] at t; cases t
    | str b => rw [ef] at e; rw [← Option.some.inj e] at t; cases t
    | obj b => rw [ef] at e; cases e
    | xt b => rw [ef] at e; cases e
  obtain ⟨x, r, e | ⟨xs, e⟩⟩ := h1
  · simp [srt0, W.items, e, intsOf, strsOf]
  · simp [srt0, W.items, e, intsOf, strsOf]
theorem Lay.sorted {f : Mv → D} {q : Mv → PyData} (y : Lay f q) (kv : List Mv) (h : Hd) : bl1 .sorted (.l (kv.map f)) h = some (.l (sortPy (kv.map f))) := by
  cases kv with
  | nil => simp [bl1, srt0, W.items, intsOf, sortI, sortPy]
  | cons m kv =>
    simp only [bl1, ints_no y]
    unfold blS
    show (match D.pys ((m :: kv).map f) with
      | some ps => if srtOk ps = true then some (W.l (sortPy ((m :: kv).map f))) else none
      | none => none) = _
    rw [y.pys]
    simp only [y.srt, if_true]
def leK (a b : Mv) : Bool := leD a.kd b.kd
def sortM (kv : List Mv) : List Mv := kv.mergeSort leK
theorem sort_keys (kv : List Mv) : sortPy (kv.map Mv.kd) = (sortM kv).map Mv.kd := (List.map_mergeSort (r := leK) (s := leD) (f := Mv.kd) (l := kv) fun _ _ _ _ => rfl).symm
theorem eqv_K {a b : Mv} (h : a.key ≠ b.key) : PyData.eqv (pK a) (pK b) = false := by
  cases e : PyData.eqv (pK a) (pK b) with
  | false => rfl
  | true =>
    simp only [pK, PyData.eqv, PyData.eqvAll, Bool.and_true, Bool.and_eq_true, beq_iff_eq, decide_eq_true_eq] at e
    obtain ⟨h1, h2, h3⟩ := e
    have h2 : a.l = b.l := by
      have := congrArg (fun s : Str => s.cps.toList) h2
      simpa [mkS] using this
    exact absurd (by unfold Mv.key; rw [h1, h2, h3]) h
theorem le_self (x : D) : leD x x = true := by
  unfold leD PySem.W.dataLt
  rw [lex_irrefl]
  rfl
theorem pyE_of {d : D} {q : PyData} (h : d.py = some q) : pyE d = q := by unfold pyE; rw [h]; rfl
theorem sort_items {kv : List Mv} (h : (kv.map Mv.key).Nodup) : sortPy (kv.map Mv.ed) = (sortM kv).map Mv.ed := by
  refine (List.map_mergeSort (r := leK) (s := leD) (f := Mv.ed) (l := kv) fun a ha b hb => ?_).symm
  by_cases q : a.key = b.key
  · rw [inj_key h ha hb q]
    unfold leK
    rw [le_self, le_self]
  · unfold leK leD
    rw [pyE_of (py_ed a), pyE_of (py_ed b), pyE_of (py_kd a), pyE_of (py_kd b)]
    congr 1
    have e : PySem.W.dataLt (pE b) (pE a) = PySem.W.dataLt (pK b) (pK a) := by
      unfold pE
      show PyProof.Rows.lexLt itemOrd (PySem.W.keyToks (.tuple [pK b, .int b.p])) (PySem.W.keyToks (.tuple [pK a, .int a.p])) = _
      rw [PySem.W.keyToks, PySem.W.keyToks]
      exact PySem.W.dataLt_all_no (al_K b a) (eqv_K fun z => q z.symm)
    exact e.symm
theorem sortM_perm (kv : List Mv) : (sortM kv).Perm kv := List.mergeSort_perm _ _
def sortD4 (kv : List Mv) : List Mv := kv.mergeSort fun a b => leD a.d b.d
theorem sort_d (kv : List Mv) : sortPy (kv.map Mv.d) = (sortD4 kv).map Mv.d := (List.map_mergeSort (r := fun a b : Mv => leD a.d b.d) (s := leD) (f := Mv.d) (l := kv) fun _ _ _ _ => rfl).symm
theorem sortD4_perm (kv : List Mv) : (sortD4 kv).Perm kv := List.mergeSort_perm _ _
structure Mc where
  n : Int
  st : List Int
  en : List Int
  mv : List Mv
def Mc.d (m : Mc) : D := .tup [.int m.n, .tup (m.st.map .int), .tup (m.en.map .int), .tup (m.mv.map Mv.d)]
def nums (n : Int) : List Int := (List.range n.toNat).map fun (k : Nat) => (k : Int)
theorem rgs_nums (n : Int) : rgs 0 n.toNat = (nums n).map .int := by
  unfold rgs nums
  rw [List.map_map]
  exact List.map_congr_left fun k _ => by simp
theorem nums_len (n : Int) : (nums n).length = n.toNat := by simp [nums]
theorem nums_nd (n : Int) : (nums n).Nodup := by
  unfold nums
  rw [List.nodup_iff_pairwise_ne, List.pairwise_map]
  exact List.nodup_range.imp fun h => by omega
theorem nums_mem {n x : Int} : x ∈ nums n ↔ 0 ≤ x ∧ x < n := by
  unfold nums
  rw [List.mem_map]
  constructor
  · rintro ⟨k, hk, rfl⟩
    rw [List.mem_range] at hk
    omega
  · intro h
    exact ⟨x.toNat, by rw [List.mem_range]; omega, by omega⟩
theorem sl_big {n : Nat} (h : n ≤ 16777216) : n ≤ sizeLine := by rw [sizeLine_eq]; exact h
theorem set_same {h : Hd} {n : Nat} {o : O} (e : h[n]? = some o) : h.set n o = h := by
  apply List.ext_getElem?
  intro i
  by_cases hi : n = i
  · subst hi; rw [gt_self e, e]
  · rw [List.getElem?_set_ne hi]
section
variable {F : List Fn} {G : List D} {k : Nat} {h : Hd}
theorem ix3 (m : Mc) : atI [D.int m.n, .tup (m.st.map .int), .tup (m.en.map .int), .tup (m.mv.map Mv.d)] 3 = some (.tup (m.mv.map Mv.d)) := rfl
theorem ix2 (m : Mc) : atI [D.int m.n, .tup (m.st.map .int), .tup (m.en.map .int), .tup (m.mv.map Mv.d)] 2 = some (.tup (m.en.map .int)) := rfl
theorem ix1 (m : Mc) : atI [D.int m.n, .tup (m.st.map .int), .tup (m.en.map .int), .tup (m.mv.map Mv.d)] 1 = some (.tup (m.st.map .int)) := rfl
theorem ix0 (m : Mc) : atI [D.int m.n, .tup (m.st.map .int), .tup (m.en.map .int), .tup (m.mv.map Mv.d)] 0 = some (.int m.n) := rfl
theorem mv0 (e : Mv) : atI [D.int e.o, .str e.l, .int e.t, .int e.p] 0 = some (.int e.o) := rfl
theorem mv1 (e : Mv) : atI [D.int e.o, .str e.l, .int e.t, .int e.p] 1 = some (.str e.l) := rfl
theorem mv2 (e : Mv) : atI [D.int e.o, .str e.l, .int e.t, .int e.p] 2 = some (.int e.t) := rfl
theorem mv3 (e : Mv) : atI [D.int e.o, .str e.l, .int e.t, .int e.p] 3 = some (.int e.p) := rfl
def sm : Nat → D → Prop
  | 0, d => (∃ i, d = .int i) ∨ ∃ s, d = .str s
  | n + 1, d => ((∃ i, d = .int i) ∨ ∃ s, d = .str s) ∨ ∃ xs, d = .tup xs ∧ xs.length ≤ 3000000 ∧ ∀ x ∈ xs, sm n x
theorem sm_int {n : Nat} {i : Int} : sm n (.int i) := by cases n with
  | zero => exact .inl ⟨i, rfl⟩
  | succ n => exact .inl (.inl ⟨i, rfl⟩)
theorem sm_str {n : Nat} {i : List Nat} : sm n (.str i) := by cases n with
  | zero => exact .inr ⟨i, rfl⟩
  | succ n => exact .inl (.inr ⟨i, rfl⟩)
def fSm (i : Nat) : Fn := ⟨2, ["told", "due", "k"],
  [.ite (.isi .tuple (.var 1)) [.ite (.or_ [(.not_ (.isi .tuple (.var 0))), (.cmp .NotEq (.b1 .len (.var 0)) (.b1 .len (.var 1)))]) [.ret (.bl false)] [], .for_ (.nm 2) (.rng1 (.b1 .len (.var 1))) [.ite (.not_ (.call i [(.ix (.var 0) (.var 2)), (.ix (.var 1) (.var 2))])) [.ret (.bl false)] []], .ret (.bl true)] [], .ite (.isi .str (.var 1)) [.ret (.and_ [(.isi .str (.var 0)), (.cmp .Eq (.var 0) (.var 1))])] [], .ret (.and_ [(.isi .int (.var 0)), (.not_ (.isi .bool (.var 0))), (.cmp .Eq (.var 0) (.var 1))])]⟩
theorem same_leaf {i : Nat} (ei : F[i]? = some (fSm i)) {d : D} (hd : (∃ i, d = .int i) ∨ ∃ s, d = .str s) : run F G (k + 1) i [d, d] h = .ok (.v (.bl true)) h := by
  apply ok_eq
  refine run_ok (fn := fSm i) ei rfl ?_
  show Ok (sdns (run F G k) G (fSm i).body [some d, some d, none] h) _
  unfold fSm
  simp only []
  rcases hd with ⟨i, rfl⟩ | ⟨s, rfl⟩
  · refine Ok.ifF (h1 := h) (by simp) (Ok.ifF (h1 := h) (by simp) ?_)
    exact Ok.ret (w := .v (.bl true)) (h1 := h) (by simp) (.eq (gc_v0 (.refl h) rfl) ⟨rfl, rfl⟩)
  · refine Ok.ifF (h1 := h) (by simp) (Ok.ifT (h1 := h) (by simp) ?_)
    exact Ok.ret (w := .v (.bl true)) (h1 := h) (by simp) (.eq (gc_v0 (.refl h) rfl) ⟨rfl, rfl⟩)
theorem same_ok {i : Nat} (ei : F[i]? = some (fSm i)) : ∀ (n : Nat) (d : D), sm n d → ∀ (k : Nat) (h : Hd), run F G (k + n + 1) i [d, d] h = .ok (.v (.bl true)) h
  | 0, d, hd, k, h => same_leaf ei hd
  | n + 1, d, hd, k, h => by
    rcases hd with hd | ⟨xs, rfl, hl, hx⟩
    · exact same_leaf ei hd
    · apply ok_eq
      refine run_ok (fn := fSm i) ei rfl ?_
      show Ok (sdns (run F G (k + n + 1)) G (fSm i).body [some (.tup xs), some (.tup xs), none] h) _
      unfold fSm
      simp only []
      refine Ok.ifT (h1 := h) (by simp) (Ok.ifF (h1 := h) (by simp) ?_)
      obtain ⟨z, hz⟩ : ∃ z : Int, z = xs.length := ⟨_, rfl⟩
      have r1 := rng0 (d := z) (by omega) (by omega)
      refine Ok.for_ (s := .fx (rgs 0 z.toNat)) (h1 := h) (fun _ σ g => ∃ x, σ = [some (.tup xs), some (.tup xs), x] ∧ g = h) (by simp [← hz, r1]) (.fx _) ⟨none, rfl, rfl⟩ (fun _ _ _ _ => trivial) ?_ ?_
      · rintro j d σ g hd ⟨x, rfl, rfl⟩
        obtain ⟨rfl, hi⟩ := rg0 hd
        obtain ⟨y, ey, hy, _⟩ := atI_mem (s := xs) (i := (j : Int)) (by omega) (by omega)
        have ih := same_ok ei n y (hx y hy) k g
        refine ⟨[some (.tup xs), some (.tup xs), some (.int j)], rfl, Ok.ifF (h1 := g) (by simp [ey, ih]) (Ok.nil ⟨_, rfl, rfl⟩)⟩
      · rintro σ g ⟨x, rfl, rfl⟩
        exact Ok.ret (w := .v (.bl true)) (h1 := g) (by simp) (.eq (gc_v0 (.refl g) rfl) ⟨rfl, rfl⟩)
theorem sm_ints (n : Nat) {xs : List Int} (h : xs.length ≤ 3000000) : sm (n + 1) (.tup (xs.map .int)) := .inr ⟨_, rfl, by rw [List.length_map]; exact h, fun x hx => by
  obtain ⟨i, _, rfl⟩ := List.mem_map.mp hx
  exact sm_int⟩
theorem sm_mv (e : Mv) : sm 1 e.d := .inr ⟨_, rfl, by simp, fun x hx => by
  simp only [List.mem_cons, List.not_mem_nil, or_false] at hx
  rcases hx with rfl | rfl | rfl | rfl
  · exact sm_int
  · exact sm_str
  · exact sm_int
  · exact sm_int⟩
theorem sm_mc {m : Mc} (h1 : m.st.length ≤ 3000000) (h2 : m.en.length ≤ 3000000) (h3 : m.mv.length ≤ 3000000) : sm 3 m.d := .inr ⟨_, rfl, by simp, fun x hx => by
  simp only [List.mem_cons, List.not_mem_nil, or_false] at hx
  rcases hx with rfl | rfl | rfl | rfl
  · exact sm_int
  · exact sm_ints 1 h1
  · exact sm_ints 1 h2
  · refine .inr ⟨_, rfl, by rw [List.length_map]; exact h3, fun x hx => ?_⟩
    obtain ⟨e, _, rfl⟩ := List.mem_map.mp hx
    exact sm_mv e⟩
def sgn : List Nat := [40, 41, 44, 46, 48, 49, 50, 51, 52, 53, 54, 55, 56, 57, 97, 98, 99, 100, 101, 102, 103, 104, 105, 106, 107, 108, 109, 110, 111, 112, 113, 114, 115, 116, 117, 118, 119, 120, 121, 122]
def fSgn : Fn := ⟨0, [], [.ret (.str sgn)]⟩
def fSt (ip : Nat) (q : Int) : Fn := ⟨2, ["draws", "many", "state"], [.ret (.b1 .tuple (.lc (.var 2) (.nm 2) (.rng1 (.var 1)) (some (.cmp .Lt (.call ip [(.var 0), (.int q)]) (.int 2))) [2]))]⟩
theorem signs_ok {i : Nat} (ei : F[i]? = some fSgn) : run F G (k + 1) i [] h = .ok (.v (.str sgn)) h := by
  apply ok_eq
  refine run_ok (fn := fSgn) ei rfl ?_
  show Ok (sdns (run F G k) G fSgn.body [] h) _
  unfold fSgn
  simp only []
  exact Ok.ret (w := .v (.str sgn)) (h1 := h) (by simp) (.eq (gc_v0 (.refl h) rfl) ⟨rfl, rfl⟩)
structure Pk (F : List Fn) (G : List D) (ip : Nat) : Prop where
  sp : ∀ (k : Nat) (m : Int), 1 ≤ m → m < 18446744073709551616 → Sp (run F G (k + 1) ip [.obj 3, .int m]) fun w => ∃ d, w = .v (.int d) ∧ 0 ≤ d ∧ d < m
theorem Pk.at (y : Pk F G ip) (k : Nat) {m : Int} (h1 : 1 ≤ m) (h2 : m < 18446744073709551616) {g : Hd} (p : Dr g) (L : Hd) : ∃ d g', run F G (k + 1) ip [.obj 3, .int m] (g ++ L) = .ok (.v (.int d)) (g' ++ L) ∧ Stp g g' ∧ 0 ≤ d ∧ d < m := by
  obtain ⟨w, g', e, s, d, rfl, d0, d1⟩ := (y.sp k m h1 h2).app p L
  exact ⟨d, g', e, s, d0, d1⟩
theorem Pk.at0 (y : Pk F G ip) (k : Nat) {m : Int} (h1 : 1 ≤ m) (h2 : m < 18446744073709551616) {g : Hd} (p : Dr g) : ∃ d g', run F G (k + 1) ip [.obj 3, .int m] g = .ok (.v (.int d)) g' ∧ Stp g g' ∧ 0 ≤ d ∧ d < m := by
  obtain ⟨w, g', e, s, d, rfl, d0, d1⟩ := y.sp k m h1 h2 g p
  exact ⟨d, g', e, s, d0, d1⟩
theorem states_sp {ip i : Nat} {q : Int} (y : Pk F G ip) (ei : F[i]? = some (fSt ip q)) (q1 : 1 ≤ q) (q2 : q < 1000) (k : Nat) (n : Int) (h0 : 0 ≤ n) (h1 : n ≤ 1000) : Sp (run F G (k + 2) i [.obj 3, .int n]) fun w => ∃ js : List Int, w = .v (.tup (js.map .int)) ∧ js.Sublist (nums n) := by
  intro h p
  refine run_ok (fn := fSt ip q) ei rfl ?_
  show Ok (sdns (run F G (k + 1)) G (fSt ip q).body [some (.obj 3), some (.int n), none] h) _
  unfold fSt
  simp only []
  have lc : Ok ((dn (run F G (k + 1)) G (.lc (.var 2) (.nm 2) (.rng1 (.var 1)) (some (.cmp .Lt (.call ip [(.var 0), (.int q)]) (.int 2))) [2])).v [some (.obj 3), some (.int n), none] h) fun w g => Stp h g ∧ ∃ js : List Int, w = .l (js.map .int) ∧ js.Sublist (nums n) := by
    refine Ok.lc1 (s := .fx ((nums n).map .int)) (xs := (nums n).map .int) (ok := fun _ => True) (fun j ys g => Stp h g ∧ ∃ js : List Int, ys = js.map .int ∧ js.Sublist ((nums n).take j)) (by simp [rng0 (d := n) h0 (by omega), rgs_nums]) (.fx _) ⟨.refl p, [], rfl, by simp⟩ (fun _ _ _ _ => trivial) ?_ ?_
    · rintro j d ys g hd ⟨s, js, rfl, hj⟩
      rw [List.getElem?_map, Option.map_eq_some_iff] at hd
      obtain ⟨x, ex, rfl⟩ := hd
      obtain ⟨v, g2, e2, s2, _, _⟩ := y.at0 k (m := q) q1 (by omega) s.dr
      refine ⟨[some (.obj 3), some (.int n), some (.int x)], decide (v < 2), g2, rfl, by simp [e2], fun _ => ⟨.int x, g2, by simp, s.trans s2, js ++ [x], by simp, ?_⟩, fun _ => ⟨s.trans s2, js, rfl, ?_⟩⟩
      · rw [take_at ex]
        exact hj.append (List.Sublist.refl _)
      · rw [take_at ex]
        exact hj.trans (List.sublist_append_left _ _)
    · rintro ys g ⟨s, js, rfl, hj⟩
      rw [List.length_map, List.take_length] at hj
      have hl := hj.length_le
      rw [nums_len] at hl
      exact ⟨by rw [List.length_map, sizeLine_eq]; omega, s, js, rfl, hj⟩
  obtain ⟨w, g, e, s, js, rfl, hj⟩ := lc
  refine Ok.ret (w := .v (.tup (js.map .int))) (h1 := g) (by simp only [ev_b1, e, R.bind_ok, tup_l, R.ofO_some]) ?_
  exact .eq (gc_v0 s.eld (noInts js)) ⟨s, js, rfl, hj⟩
theorem states_at {ip i : Nat} {q : Int} (y : Pk F G ip) (ei : F[i]? = some (fSt ip q)) (q1 : 1 ≤ q) (q2 : q < 1000) (k : Nat) {n : Int} (h0 : 0 ≤ n) (h1 : n ≤ 1000) {g : Hd} (p : Dr g) (L : Hd) : ∃ (js : List Int) (g' : Hd), run F G (k + 2) i [.obj 3, .int n] (g ++ L) = .ok (.v (.tup (js.map .int))) (g' ++ L) ∧ Stp g g' ∧ js.Sublist (nums n) := by
  obtain ⟨w, g', e, s, js, rfl, hj⟩ := (states_sp y ei q1 q2 k n h0 h1).app p L
  exact ⟨js, g', e, s, hj⟩
end
section
variable {C : DL.Cls} {G : List D} {k : Nat} {h : Hd}
theorem keys_ok {σ : Sd} {i j n : Nat} {kv : List Mv} (si : σ[i]? = some (some (.obj n))) (hj : j < σ.length) (hij : i ≠ j) (e : h[n]? = some (.dT (kv.map ent))) (hz : kv.length ≤ 3000000) :
    (dn C G (.b1 .sorted (.lock i (.lc (.var j) (.nm j) (.dw .keys (.var i)) none [j])))).v σ h = .ok (.l ((sortM kv).map Mv.kd)) h := by
  have inner : (dn C G (.lock i (.lc (.var j) (.nm j) (.dw .keys (.var i)) none [j]))).v σ h = .ok (.l (kv.map Mv.kd)) h := by
    have q2 : lockD (.v (.obj n)) h = some (n, h.set n (.lkT (kv.map ent))) := by simp only [lockD, e]
    have glk : (h.set n (.lkT (kv.map ent)))[n]? = some (.lkT (kv.map ent)) := gt_self e
    have es : (dn C G (.dw .keys (.var i))).i σ (h.set n (.lkT (kv.map ent))) = .ok (.re fun a h => match h[n]? with
        | some (.lkT kvs) => some (kvs[a]?.map fun kv => .tup (kv.1.map DK.d))
        | _ => none) (h.set n (.lkT (kv.map ent))) := by
      show ((dn C G (.var i)).v σ _).bind (fun w h => R.ofO (dictSrc .keys w h) h) = _
      rw [ev_var si]
      simp only [R.bind_ok, dictSrc, glk]
      rfl
    have wk : Walks (.re fun a h => match h[n]? with
        | some (.lkT kvs) => some (kvs[a]?.map fun kv => .tup (kv.1.map DK.d))
        | _ => none) (kv.map Mv.kd) fun h => h[n]? = some (.lkT (kv.map ent)) := ⟨by rw [List.length_map]; unfold FU; omega, fun a h e => by
      simp only [e]
      rw [List.getElem?_map, List.getElem?_map, Option.map_map]
      rfl⟩
    have e1 := lc_m2 (C := C) (G := G) (j := j) (it := .dw .keys (.var i)) (elt := .var j) (σ := σ) (m := Mv.kd) (y := Mv.kd) es wk glk (sl_big (by omega)) (fun x _ => by
      rw [ev_var]
      exact List.getElem?_set_self hj)
    show lockV i (dn C G (.lc (.var j) (.nm j) (.dw .keys (.var i)) none [j])).v σ h = _
    unfold lockV
    rw [si]
    simp only [q2, e1, R.bind_ok]
    have q3 : freeD n (h.set n (.lkT (kv.map ent))) = some h := by
      simp only [freeD, glk, List.set_set]
      rw [set_same e]
    simp only [q3]
  rw [ev_b1, inner, R.bind_ok, layK.sorted, R.ofO_some, sort_keys]
theorem putM_all {P : Int → List Nat → Int → Prop} {kv : List Mv} {m : Mv} (h : ∀ e ∈ kv, P e.o e.l e.t) (hm : P m.o m.l m.t) : ∀ e ∈ putM kv m, P e.o e.l e.t := by
  intro e he
  unfold putM at he
  split at he
  · obtain ⟨a, ha, rfl⟩ := List.mem_map.mp he
    split
    · exact h a ha
    · exact h a ha
  · rcases List.mem_append.mp he with he | he
    · exact h e he
    · rw [List.mem_singleton.mp he]; exact hm
theorem moves_ok {σ : Sd} {i j n : Nat} {kv : List Mv} (si : σ[i]? = some (some (.obj n))) (hj : j < σ.length) (hij : i ≠ j) (e : h[n]? = some (.dT (kv.map ent))) (hz : kv.length ≤ 3000000) (nd : (kv.map Mv.key).Nodup) :
    (dn C G (.lc (.tup [(.ix (.var j) (.int 0)), (.ix (.var j) (.int 1)), (.ix (.var j) (.int 2)), (.ix (.var i) (.var j))]) (.nm j) (.b1 .sorted (.lock i (.lc (.var j) (.nm j) (.dw .keys (.var i)) none [j]))) none [j])).v σ h = .ok (.l ((sortM kv).map Mv.d)) h := by
  have e1 := keys_ok (C := C) (G := G) si hj hij e hz
  have pl := (sortM_perm kv).length_eq
  refine lc_m2 (C := C) (G := G) (j := j) (it := .b1 .sorted (.lock i (.lc (.var j) (.nm j) (.dw .keys (.var i)) none [j]))) (σ := σ) (s := .fx ((sortM kv).map Mv.kd)) (m := Mv.kd) (y := Mv.d) (ok := fun _ => True) ?_ (.fx _) trivial (sl_big (by omega)) fun x hx => ?_
  · rw [ei_b1, e1]; rfl
  · have hm := (sortM_perm kv).mem_iff.mp hx
    have ev := valM_mem nd hm
    have g1 : getIx (.v (.obj n)) (.v (.tup [.int x.o, .str x.l, .int x.t])) h = some (.v (.int x.p)) := get_dT e (key_of x) (by rw [valK_ent, ev]; rfl)
    have sj : (σ.set j (some x.kd))[j]? = some (some x.kd) := List.getElem?_set_self hj
    have si2 : (σ.set j (some x.kd))[i]? = some (some (.obj n)) := by rw [List.getElem?_set_ne (Ne.symm hij)]; exact si
    have i0 : atI [D.int x.o, .str x.l, .int x.t] 0 = some (.int x.o) := rfl
    have i1 : atI [D.int x.o, .str x.l, .int x.t] 1 = some (.str x.l) := rfl
    have i2 : atI [D.int x.o, .str x.l, .int x.t] 2 = some (.int x.t) := rfl
    have z4 : 4 ≤ sizeLine := sl_big (by omega)
    have w1 : (dn C G (.var j)).v (σ.set j (some x.kd)) h = .ok (.v (.tup [.int x.o, .str x.l, .int x.t])) h := ev_var sj
    have w2 : (dn C G (.var i)).v (σ.set j (some x.kd)) h = .ok (.v (.obj n)) h := ev_var si2
    simp [w1, w2, i0, i1, i2, g1, z4, Mv.d]
end
section
variable {h : Hd}
theorem Lay.sorted_obj {f : Mv → D} {q : Mv → PyData} (y : Lay f q) {kv : List Mv} {h : Hd} {n : Nat} (e : h[n]? = some (.lst (kv.map f))) : bl1 .sorted (.v (.obj n)) h = some (.l (sortPy (kv.map f))) := by
  have e1 : srt0 (.v (.obj n)) h = srt0 (.l (kv.map f)) h := by simp only [srt0, W.items, D.items, e]
  have e2 : blS (.v (.obj n)) h = blS (.l (kv.map f)) h := by simp only [blS, W.items, D.items, e]
  have e3 := y.sorted kv h
  simp only [bl1] at e3 ⊢
  rw [e1, e2]
  exact e3
theorem mvs_no : ∀ mv : List Mv, D.noObjs (mv.map Mv.d) = true
  | [] => rfl
  | m :: mv => mvs_no mv
theorem mc_no (m : Mc) : m.d.noObj = true := by
  show (true && ((D.noObjs (m.st.map .int)) && ((D.noObjs (m.en.map .int)) && ((D.noObjs (m.mv.map Mv.d)) && true)))) = true
  rw [noInts, noInts, mvs_no]; rfl
theorem sgn_nd : sgn.Nodup := by decide
end
end PR
namespace Wk26
open PySem PySem.Spec PyProof.Rows L2 DL
def top (i : Nat) : Stmt := PySem.Challenge.pw_wellbegun_k26_machines_made.main.body.getD i (.Pass ⟨0, 0, 0, 0⟩)
def f0 : Fn := ⟨0, [],
  [.ret (.tup [(.int 1), (.tup [(.int 0)]), (.tup [(.int 0)]), (.b1 .tuple (.call 6 [(.int 0), (.int 0), (.int 1)]))])]⟩
def f1 : Fn := ⟨1, ["text"],
  [.ret (.tup [(.bin .Add (.b1 .len (.var 0)) (.int 1)), (.tup [(.int 0)]), (.tup [(.b1 .len (.var 0))]), (.b1 .tuple (.call 5 [(.var 0)]))])]⟩
def f2 : Fn := ⟨2, ["text", "machine", "many", "made", "number", "starts", "ends", "moves", "start", "origin", "letter", "target", "price", "end"],
  [.set (.nm 2) (.b1 .len (.var 0)), .ite (.cmp .Eq (.var 2) (.int 0)) [.ret (.var 1)] [], .set (.tp [(.nm 4), (.nm 5), (.nm 6), (.nm 7)]) (.var 1), .set (.nm 3) (.call 5 [(.sl (.var 0) none (some (.neg (.int 1))))]), .ex (.m1 .extend (.var 3) (.lc (.tup [(.bin .Sub (.var 2) (.int 1)), (.ix (.var 0) (.neg (.int 1))), (.bin .Add (.var 2) (.var 8)), (.int 0)]) (.nm 8) (.var 5) none [8])), .ex (.m1 .extend (.var 3) (.lc (.tup [(.bin .Add (.var 2) (.var 9)), (.var 10), (.bin .Add (.var 2) (.var 11)), (.var 12)]) (.tp [(.nm 9), (.nm 10), (.nm 11), (.nm 12)]) (.var 7) none [9, 10, 11, 12])), .ret (.tup [(.bin .Add (.var 2) (.var 4)), (.tup [(.int 0)]), (.b1 .tuple (.lc (.bin .Add (.var 2) (.var 13)) (.nm 13) (.var 6) none [13])), (.b1 .tuple (.var 3))])]⟩
def f3 : Fn := ⟨1, ["text"],
  [.ret (.call 2 [(.var 0), (.call 0 [])])]⟩
def f4 : Fn := ⟨1, ["text", "letters", "made", "spot", "last", "letter"],
  [.rep .val (.nm 1) (.var 0) [42] [], .set (.nm 2) (.call 5 [(.var 1)]), .set (.nm 3) (.int 0), .set (.nm 4) (.neg (.int 1)), .for_ (.nm 5) (.var 0) [.ite (.cmp .NotEq (.var 5) (.str [42])) [.aug 3 .Add (.int 1)] [.ite (.cmp .Lt (.var 4) (.var 3)) [.ex (.m1 .extend (.var 2) (.call 6 [(.var 3), (.var 3), (.int 1)])), .set (.nm 4) (.var 3)] []]], .ret (.tup [(.bin .Add (.b1 .len (.var 1)) (.int 1)), (.tup [(.int 0)]), (.tup [(.b1 .len (.var 1))]), (.b1 .tuple (.b1 .sorted (.var 2)))])]⟩
def f5 : Fn := ⟨1, ["text", "spot", "letter"],
  [.ret (.lc (.tup [(.var 1), (.var 2), (.bin .Add (.var 1) (.int 1)), (.int 0)]) (.tp [(.nm 1), (.nm 2)]) (.enum (.var 0)) none [1, 2])]⟩
def f6 : Fn := ⟨3, ["origin", "to", "price", "sign"],
  [.ret (.lc (.tup [(.var 0), (.var 3), (.var 1), (.var 2)]) (.nm 3) (.glb 0) none [3])]⟩
def f7 : Fn := ⟨0, [],
  [.ret (.str [40, 41, 44, 46, 48, 49, 50, 51, 52, 53, 54, 55, 56, 57, 97, 98, 99, 100, 101, 102, 103, 104, 105, 106, 107, 108, 109, 110, 111, 112, 113, 114, 115, 116, 117, 118, 119, 120, 121, 122])]⟩
def f8 : Fn := ⟨1, ["script", "cells", "great", "small", "cell"],
  [.set (.nm 1) (.lc (.b1 .abs (.b1 .int (.var 4))) (.nm 4) (.sl (.var 0) none (some (.int 63))) none [4]), .set (.nm 2) (.lc (.var 4) (.nm 4) (.var 1) (some (.cmp .GtE (.var 4) (.bin .Pow (.int 10) (.int 18)))) [4]), .set (.nm 3) (.lc (.var 4) (.nm 4) (.var 1) (some (.cmp .Lt (.var 4) (.bin .Pow (.int 10) (.int 18)))) [4]), .ret (.dd [(.str [103, 114, 101, 97, 116]), (.str [115, 109, 97, 108, 108]), (.str [99, 111, 117, 110, 116])] [(.var 2), (.var 3), (.int 0)])]⟩
def f9 : Fn := ⟨2, ["draws", "many", "great", "count", "small", "cell", "number", "rest"],
  [.set (.nm 2) (.ix (.var 0) (.str [103, 114, 101, 97, 116])), .ite (.var 2) [.set (.nm 6) (.ix (.var 2) (.int 0)), .set (.nm 7) (.bin .FloorDiv (.var 6) (.var 1)), .sub (.var 2) (.int 0) (.var 7), .ite (.cmp .Eq (.var 7) (.int 0)) [.ex (.m1 .pop (.var 2) (.int 0))] [], .ret (.bin .Mod (.b1 .int (.var 6)) (.var 1))] [], .set (.nm 3) (.ix (.var 0) (.str [99, 111, 117, 110, 116])), .sub (.var 0) (.str [99, 111, 117, 110, 116]) (.bin .Add (.var 3) (.int 1)), .set (.nm 4) (.ix (.var 0) (.str [115, 109, 97, 108, 108])), .set (.nm 5) (.int 0), .ite (.var 4) [.set (.nm 5) (.ix (.var 4) (.bin .Mod (.var 3) (.b1 .len (.var 4))))] [], .set (.nm 6) (.bin .Mod (.b1 .int (.bin .Add (.bin .Add (.bin .Mult (.var 5) (.int 131)) (.bin .Mult (.var 3) (.int 65537))) (.int 2611))) (.int 4294967296)), .set (.nm 6) (.bin .Mod (.b1 .int (.bin .Mult (.bin .BitXor (.var 6) (.bin .RShift (.var 6) (.int 13))) (.int 2654435761))) (.int 4294967296)), .set (.nm 6) (.bin .Mod (.b1 .int (.bin .Mult (.bin .BitXor (.var 6) (.bin .RShift (.var 6) (.int 15))) (.int 2246822519))) (.int 4294967296)), .ret (.bin .Mod (.b1 .int (.bin .RShift (.var 6) (.int 7))) (.var 1))]⟩
def f10 : Fn := ⟨1, ["draws"],
  [.ite (.cmp .Eq (.call 9 [(.var 0), (.int 5)]) (.int 0)) [.ret (.str [63])] [], .ret (.ix (.call 7 []) (.call 9 [(.var 0), (.int 40)]))]⟩
def f11 : Fn := ⟨2, ["draws", "wide", "size", "k"],
  [.set (.nm 2) (.call 9 [(.var 0), (.int 12)]), .ite (.var 1) [.set (.nm 2) (.bin .Add (.int 50) (.call 9 [(.var 0), (.int 71)]))] [], .ret (.m1 .join (.str []) (.lc (.call 10 [(.var 0)]) (.nm 3) (.rng1 (.var 2)) none [3]))]⟩
def f12 : Fn := ⟨2, ["draws", "wide", "text", "k", "place"],
  [.set (.nm 2) (.sl (.call 11 [(.var 0), (.var 1)]) none (some (.int 110))), .for_ (.nm 3) (.rng1 (.bin .Add (.int 1) (.call 9 [(.var 0), (.int 5)]))) [.set (.nm 4) (.call 9 [(.var 0), (.bin .Add (.b1 .len (.var 2)) (.int 1))]), .set (.nm 2) (.bin .Add (.bin .Add (.sl (.var 2) none (some (.var 4))) (.str [42])) (.sl (.var 2) (some (.var 4)) none))], .ret (.var 2)]⟩
def f13 : Fn := ⟨2, ["draws", "many", "state"],
  [.ret (.b1 .tuple (.lc (.var 2) (.nm 2) (.rng1 (.var 1)) (some (.cmp .Lt (.call 9 [(.var 0), (.int 3)]) (.int 2))) [2]))]⟩
def f14 : Fn := ⟨2, ["draws", "large", "letters", "found", "moves", "many", "by", "turn", "state", "k", "begin", "letter", "end", "price", "key", "sign"],
  [.set (.nm 2) (.bin .Add (.lst [(.str []), (.str [63])]) (.lc (.var 15) (.nm 15) (.call 7 []) none [15])), .set (.nm 3) (.dt), .ite (.var 1) [.set (.nm 5) (.int 160), .set (.nm 6) (.bin .Add (.int 1) (.call 9 [(.var 0), (.int 79)])), .set (.nm 7) (.call 9 [(.var 0), (.int 160)]), .for_ (.nm 8) (.rng1 (.var 5)) [.for_ (.nm 9) (.rng1 (.int 50)) [.sub (.var 3) (.tup [(.var 8), (.ix (.var 2) (.bin .Mod (.var 9) (.int 42))), (.bin .Mod (.b1 .int (.bin .Add (.bin .Add (.bin .Mult (.var 8) (.int 3)) (.bin .Mult (.var 9) (.var 6))) (.var 7))) (.var 5))]) (.bin .Add (.int 1) (.bin .Mod (.b1 .int (.bin .Mult (.var 8) (.var 9))) (.int 997)))]]] [.set (.nm 5) (.bin .Add (.int 1) (.call 9 [(.var 0), (.int 5)])), .for_ (.nm 9) (.rng1 (.call 9 [(.var 0), (.int 13)])) [.set (.nm 10) (.call 9 [(.var 0), (.var 5)]), .set (.nm 11) (.ix (.var 2) (.call 9 [(.var 0), (.int 42)])), .ite (.cmp .Eq (.call 9 [(.var 0), (.int 3)]) (.int 0)) [.set (.nm 11) (.ix (.var 2) (.call 9 [(.var 0), (.int 2)]))] [], .set (.nm 12) (.call 9 [(.var 0), (.var 5)]), .set (.nm 13) (.call 9 [(.var 0), (.int 4)]), .ite (.cmp .Eq (.var 13) (.int 3)) [.set (.nm 13) (.call 9 [(.var 0), (.bin .Add (.bin .Pow (.int 10) (.int 9)) (.int 1))])] [], .ite (.and_ [(.cmp .LtE (.var 12) (.var 10)), (.cmp .Eq (.var 13) (.int 0))]) [.set (.nm 13) (.int 1)] [], .sub (.var 3) (.tup [(.var 10), (.var 11), (.var 12)]) (.var 13)]], .set (.nm 4) (.lc (.tup [(.ix (.var 14) (.int 0)), (.ix (.var 14) (.int 1)), (.ix (.var 14) (.int 2)), (.ix (.var 3) (.var 14))]) (.nm 14) (.b1 .sorted (.lock 3 (.lc (.var 14) (.nm 14) (.dw .keys (.var 3)) none [14]))) none [14]), .ret (.tup [(.var 5), (.call 13 [(.var 0), (.var 5)]), (.call 13 [(.var 0), (.var 5)]), (.b1 .tuple (.var 4))])]⟩
def f15 : Fn := ⟨2, ["text", "machine", "size", "moves", "starts", "k", "move", "start", "end"],
  [.set (.nm 2) (.b1 .len (.var 0)), .set (.nm 3) (.lc (.tup [(.var 5), (.ix (.var 0) (.var 5)), (.bin .Add (.var 5) (.int 1)), (.int 0)]) (.nm 5) (.rng1 (.bin .Sub (.var 2) (.int 1))) none [5]), .set (.nm 4) (.ix (.var 1) (.int 1)), .ite (.cmp .Gt (.var 2) (.int 0)) [.ex (.m1 .extend (.var 3) (.lc (.tup [(.bin .Sub (.var 2) (.int 1)), (.ix (.var 0) (.bin .Sub (.var 2) (.int 1))), (.bin .Add (.var 2) (.var 7)), (.int 0)]) (.nm 7) (.ix (.var 1) (.int 1)) none [7])), .set (.nm 4) (.tup [(.int 0)])] [], .ex (.m1 .extend (.var 3) (.lc (.tup [(.bin .Add (.ix (.var 6) (.int 0)) (.var 2)), (.ix (.var 6) (.int 1)), (.bin .Add (.ix (.var 6) (.int 2)) (.var 2)), (.ix (.var 6) (.int 3))]) (.nm 6) (.ix (.var 1) (.int 3)) none [6])), .ret (.tup [(.bin .Add (.var 2) (.ix (.var 1) (.int 0))), (.var 4), (.b1 .tuple (.lc (.bin .Add (.var 8) (.var 2)) (.nm 8) (.ix (.var 1) (.int 2)) none [8])), (.b1 .tuple (.var 3))])]⟩
def f16 : Fn := ⟨1, ["text", "k"],
  [.ret (.tup [(.bin .Add (.b1 .len (.var 0)) (.int 1)), (.tup [(.int 0)]), (.tup [(.b1 .len (.var 0))]), (.b1 .tuple (.lc (.tup [(.var 1), (.ix (.var 0) (.var 1)), (.bin .Add (.var 1) (.int 1)), (.int 0)]) (.nm 1) (.rng1 (.b1 .len (.var 0))) none [1]))])]⟩
def f17 : Fn := ⟨1, ["pattern", "plain", "moves", "done", "place", "move", "state", "sign"],
  [.rep (.call 16) (.nm 1) (.var 0) [42] [], .set (.nm 2) (.lc (.var 5) (.nm 5) (.ix (.var 1) (.int 3)) none [5]), .set (.nm 3) (.lst []), .for_ (.nm 4) (.rng1 (.b1 .len (.var 0))) [.ite (.cmp .Eq (.ix (.var 0) (.var 4)) (.str [42])) [.rep .len (.nm 6) (.sl (.var 0) none (some (.var 4))) [42] [], .ite (.cmp .NotIn (.var 6) (.var 3)) [.ex (.m1 .append (.var 3) (.var 6)), .ex (.m1 .extend (.var 2) (.lc (.tup [(.var 6), (.var 7), (.var 6), (.int 1)]) (.nm 7) (.call 7 []) none [7]))] []] []], .ret (.tup [(.ix (.var 1) (.int 0)), (.ix (.var 1) (.int 1)), (.ix (.var 1) (.int 2)), (.b1 .tuple (.b1 .sorted (.var 2)))])]⟩
def f18 : Fn := ⟨2, ["told", "due", "k"],
  [.ite (.isi .tuple (.var 1)) [.ite (.or_ [(.not_ (.isi .tuple (.var 0))), (.cmp .NotEq (.b1 .len (.var 0)) (.b1 .len (.var 1)))]) [.ret (.bl false)] [], .for_ (.nm 2) (.rng1 (.b1 .len (.var 1))) [.ite (.not_ (.call 18 [(.ix (.var 0) (.var 2)), (.ix (.var 1) (.var 2))])) [.ret (.bl false)] []], .ret (.bl true)] [], .ite (.isi .str (.var 1)) [.ret (.and_ [(.isi .str (.var 0)), (.cmp .Eq (.var 0) (.var 1))])] [], .ret (.and_ [(.isi .int (.var 0)), (.not_ (.isi .bool (.var 0))), (.cmp .Eq (.var 0) (.var 1))])]⟩
def f19 : Fn := ⟨1, ["script", "draws", "wide", "large", "text", "other", "pattern", "machine", "anything", "sign"],
  [.set (.nm 1) (.call 8 [(.var 0)]), .set (.nm 2) (.cmp .Eq (.call 9 [(.var 1), (.int 11)]) (.int 7)), .set (.nm 3) (.cmp .Eq (.call 9 [(.var 1), (.int 13)]) (.int 5)), .set (.nm 4) (.call 11 [(.var 1), (.var 2)]), .set (.nm 5) (.call 11 [(.var 1), (.bl false)]), .set (.nm 6) (.call 12 [(.var 1), (.var 2)]), .set (.nm 7) (.call 14 [(.var 1), (.var 3)]), .set (.nm 8) (.tup [(.int 1), (.tup [(.int 0)]), (.tup [(.int 0)]), (.b1 .tuple (.lc (.tup [(.int 0), (.var 9), (.int 0), (.int 1)]) (.nm 9) (.call 7 []) none [9]))]), .ite (.not_ (.call 18 [(.call 0 []), (.var 8)])) [.ret (.bl false)] [], .ite (.not_ (.call 18 [(.call 1 [(.var 4)]), (.call 16 [(.var 4)])])) [.ret (.bl false)] [], .ite (.not_ (.call 18 [(.call 2 [(.var 4), (.var 7)]), (.call 15 [(.var 4), (.var 7)])])) [.ret (.bl false)] [], .ite (.not_ (.call 18 [(.call 3 [(.var 4)]), (.call 15 [(.var 4), (.var 8)])])) [.ret (.bl false)] [], .ite (.not_ (.call 18 [(.call 4 [(.var 6)]), (.call 17 [(.var 6)])])) [.ret (.bl false)] [], .ite (.not_ (.call 18 [(.call 4 [(.var 5)]), (.call 16 [(.var 5)])])) [.ret (.bl false)] [], .ite (.and_ [(.not_ (.var 3)), (.not_ (.call 18 [(.call 2 [(.str []), (.var 7)]), (.var 7)]))]) [.ret (.bl false)] [], .ite (.not_ (.call 18 [(.call 2 [(.bin .Add (.var 5) (.str [63])), (.var 7)]), (.call 15 [(.bin .Add (.var 5) (.str [63])), (.var 7)])])) [.ret (.bl false)] [], .ite (.or_ [(.not_ (.call 18 [(.call 3 [(.str [])]), (.var 8)])), (.not_ (.call 18 [(.call 1 [(.str [])]), (.tup [(.int 1), (.tup [(.int 0)]), (.tup [(.int 0)]), (.tup [])])]))]) [.ret (.bl false)] [], .ret (.call 18 [(.call 1 [(.var 4)]), (.call 16 [(.var 4)])])]⟩
def F : List Fn := [f0, f1, f2, f3, f4, f5, f6, f7, f8, f9, f10, f11, f12, f13, f14, f15, f16, f17, f18, f19]
def Gm : Gam := ⟨[("anything_machine", 0), ("just_machine", 1), ("after_machine", 2), ("begun_machine", 1), ("pattern_machine", 1), ("text_moves", 1), ("sign_moves", 3), ("_law_signs", 0), ("_law_begin", 1), ("_law_pick", 2), ("_law_letter", 1), ("_law_text", 2), ("_law_pattern", 2), ("_law_states", 2), ("_law_machine", 2), ("_law_after", 2), ("_law_just", 1), ("_law_gaps", 1), ("_law_same", 2), ("law", 1)],
  [("SIGNS", (.str [40, 41, 44, 46, 48, 49, 50, 51, 52, 53, 54, 55, 56, 57, 97, 98, 99, 100, 101, 102, 103, 104, 105, 106, 107, 108, 109, 110, 111, 112, 113, 114, 115, 116, 117, 118, 119, 120, 121, 122]))],
  ["abs", "bool", "enumerate", "int", "isinstance", "len", "range", "sorted", "str", "tuple"],
  [],
  []⟩
def G : List D := [(.str [40, 41, 44, 46, 48, 49, 50, 51, 52, 53, 54, 55, 56, 57, 97, 98, 99, 100, 101, 102, 103, 104, 105, 106, 107, 108, 109, 110, 111, 112, 113, 114, 115, 116, 117, 118, 119, 120, 121, 122])]
theorem c0 : defC Gm [] f0 (top 2) = true := by decide +kernel
theorem c1 : defC Gm ["text"] f1 (top 3) = true := by decide +kernel
theorem c2 : defC Gm ["text", "machine"] f2 (top 4) = true := by decide +kernel
theorem c3 : defC Gm ["text"] f3 (top 5) = true := by decide +kernel
theorem c4 : defC Gm ["text"] f4 (top 6) = true := by decide +kernel
theorem c5 : defC Gm ["text"] f5 (top 7) = true := by decide +kernel
theorem c6 : defC Gm ["origin", "to", "price"] f6 (top 8) = true := by decide +kernel
theorem c7 : defC Gm [] f7 (top 10) = true := by decide +kernel
theorem c8 : defC Gm ["script"] f8 (top 11) = true := by decide +kernel
theorem c9 : defC Gm ["draws", "many"] f9 (top 12) = true := by decide +kernel
theorem c10 : defC Gm ["draws"] f10 (top 13) = true := by decide +kernel
theorem c11 : defC Gm ["draws", "wide"] f11 (top 14) = true := by decide +kernel
theorem c12 : defC Gm ["draws", "wide"] f12 (top 15) = true := by decide +kernel
theorem c13 : defC Gm ["draws", "many"] f13 (top 16) = true := by decide +kernel
theorem c14 : defC Gm ["draws", "large"] f14 (top 17) = true := by decide +kernel
theorem c15 : defC Gm ["text", "machine"] f15 (top 18) = true := by decide +kernel
theorem c16 : defC Gm ["text"] f16 (top 19) = true := by decide +kernel
theorem c17 : defC Gm ["pattern"] f17 (top 20) = true := by decide +kernel
theorem c18 : defC Gm ["told", "due"] f18 (top 21) = true := by decide +kernel
theorem c19 : defC Gm ["script"] f19 (top 22) = true := by decide +kernel
theorem all_mk {l : PySem.W.OpenLaw} {w : World} {K : PySem.W.Frag} {h : Heap} {mg : Str → Option Value} {fa a0 a1 a2 a3 a4 a5 a6 a7 a8 a9 a10 a11 a12 a13 a14 a15 a16 a17 a18 a19 : Addr} (X : K.In h) (Gg : h.Ns mainGlobals mg) (hfa : mg "law" = some (.ref fa))
    {od0 an0 od1 an1 od2 an2 od3 an3 od4 an4 od5 an5 od6 an6 od7 an7 od8 an8 od9 an9 od10 an10 od11 an11 od12 an12 od13 an13 od14 an14 od15 an15 od16 an16 od17 an17 od18 an18 od19 an19 : Option Addr} {sl0 sl1 sl2 sl3 sl4 sl5 sl6 sl7 sl8 sl9 sl10 sl11 sl12 sl13 sl14 sl15 sl16 sl17 sl18 sl19 : Array (Option Value)} {oc0 kV0 dc0 pm0 cd0 ct0 oc1 kV1 dc1 pm1 cd1 ct1 oc2 kV2 dc2 pm2 cd2 ct2 oc3 kV3 dc3 pm3 cd3 ct3 oc4 kV4 dc4 pm4 cd4 ct4 oc5 kV5 dc5 pm5 cd5 ct5 oc6 kV6 dc6 pm6 cd6 ct6 oc7 kV7 dc7 pm7 cd7 ct7 oc8 kV8 dc8 pm8 cd8 ct8 oc9 kV9 dc9 pm9 cd9 ct9 oc10 kV10 dc10 pm10 cd10 ct10 oc11 kV11 dc11 pm11 cd11 ct11 oc12 kV12 dc12 pm12 cd12 ct12 oc13 kV13 dc13 pm13 cd13 ct13 oc14 kV14 dc14 pm14 cd14 ct14 oc15 kV15 dc15 pm15 cd15 ct15 oc16 kV16 dc16 pm16 cd16 ct16 oc17 kV17 dc17 pm17 cd17 ct17 oc18 kV18 dc18 pm18 cd18 ct18 oc19 kV19 dc19 pm19 cd19 ct19 : Value}
    (h0 : PySem.W.nsIn K mainGlobals "anything_machine" = some (some (.ref a0))) (l0 : K.lookup a0 = some ⟨oc0, od0, .func (PySem.W.fnOf "anything_machine" "anything_machine" (defArgs (top 2)) (defBody (top 2)) (defScope (top 2)) .none kV0 dc0 pm0 an0 cd0 ct0), sl0⟩) (e0 : PySem.W.codeIn K cd0 "anything_machine" = true) (k0 : PySem.W.keepIn K (.ref a0) = true)
    (h1 : PySem.W.nsIn K mainGlobals "just_machine" = some (some (.ref a1))) (l1 : K.lookup a1 = some ⟨oc1, od1, .func (PySem.W.fnOf "just_machine" "just_machine" (defArgs (top 3)) (defBody (top 3)) (defScope (top 3)) .none kV1 dc1 pm1 an1 cd1 ct1), sl1⟩) (e1 : PySem.W.codeIn K cd1 "just_machine" = true) (k1 : PySem.W.keepIn K (.ref a1) = true)
    (h2 : PySem.W.nsIn K mainGlobals "after_machine" = some (some (.ref a2))) (l2 : K.lookup a2 = some ⟨oc2, od2, .func (PySem.W.fnOf "after_machine" "after_machine" (defArgs (top 4)) (defBody (top 4)) (defScope (top 4)) .none kV2 dc2 pm2 an2 cd2 ct2), sl2⟩) (e2 : PySem.W.codeIn K cd2 "after_machine" = true) (k2 : PySem.W.keepIn K (.ref a2) = true)
    (h3 : PySem.W.nsIn K mainGlobals "begun_machine" = some (some (.ref a3))) (l3 : K.lookup a3 = some ⟨oc3, od3, .func (PySem.W.fnOf "begun_machine" "begun_machine" (defArgs (top 5)) (defBody (top 5)) (defScope (top 5)) .none kV3 dc3 pm3 an3 cd3 ct3), sl3⟩) (e3 : PySem.W.codeIn K cd3 "begun_machine" = true) (k3 : PySem.W.keepIn K (.ref a3) = true)
    (h4 : PySem.W.nsIn K mainGlobals "pattern_machine" = some (some (.ref a4))) (l4 : K.lookup a4 = some ⟨oc4, od4, .func (PySem.W.fnOf "pattern_machine" "pattern_machine" (defArgs (top 6)) (defBody (top 6)) (defScope (top 6)) .none kV4 dc4 pm4 an4 cd4 ct4), sl4⟩) (e4 : PySem.W.codeIn K cd4 "pattern_machine" = true) (k4 : PySem.W.keepIn K (.ref a4) = true)
    (h5 : PySem.W.nsIn K mainGlobals "text_moves" = some (some (.ref a5))) (l5 : K.lookup a5 = some ⟨oc5, od5, .func (PySem.W.fnOf "text_moves" "text_moves" (defArgs (top 7)) (defBody (top 7)) (defScope (top 7)) .none kV5 dc5 pm5 an5 cd5 ct5), sl5⟩) (e5 : PySem.W.codeIn K cd5 "text_moves" = true) (k5 : PySem.W.keepIn K (.ref a5) = true)
    (h6 : PySem.W.nsIn K mainGlobals "sign_moves" = some (some (.ref a6))) (l6 : K.lookup a6 = some ⟨oc6, od6, .func (PySem.W.fnOf "sign_moves" "sign_moves" (defArgs (top 8)) (defBody (top 8)) (defScope (top 8)) .none kV6 dc6 pm6 an6 cd6 ct6), sl6⟩) (e6 : PySem.W.codeIn K cd6 "sign_moves" = true) (k6 : PySem.W.keepIn K (.ref a6) = true)
    (h7 : PySem.W.nsIn K mainGlobals "_law_signs" = some (some (.ref a7))) (l7 : K.lookup a7 = some ⟨oc7, od7, .func (PySem.W.fnOf "_law_signs" "_law_signs" (defArgs (top 10)) (defBody (top 10)) (defScope (top 10)) .none kV7 dc7 pm7 an7 cd7 ct7), sl7⟩) (e7 : PySem.W.codeIn K cd7 "_law_signs" = true) (k7 : PySem.W.keepIn K (.ref a7) = true)
    (h8 : PySem.W.nsIn K mainGlobals "_law_begin" = some (some (.ref a8))) (l8 : K.lookup a8 = some ⟨oc8, od8, .func (PySem.W.fnOf "_law_begin" "_law_begin" (defArgs (top 11)) (defBody (top 11)) (defScope (top 11)) .none kV8 dc8 pm8 an8 cd8 ct8), sl8⟩) (e8 : PySem.W.codeIn K cd8 "_law_begin" = true) (k8 : PySem.W.keepIn K (.ref a8) = true)
    (h9 : PySem.W.nsIn K mainGlobals "_law_pick" = some (some (.ref a9))) (l9 : K.lookup a9 = some ⟨oc9, od9, .func (PySem.W.fnOf "_law_pick" "_law_pick" (defArgs (top 12)) (defBody (top 12)) (defScope (top 12)) .none kV9 dc9 pm9 an9 cd9 ct9), sl9⟩) (e9 : PySem.W.codeIn K cd9 "_law_pick" = true) (k9 : PySem.W.keepIn K (.ref a9) = true)
    (h10 : PySem.W.nsIn K mainGlobals "_law_letter" = some (some (.ref a10))) (l10 : K.lookup a10 = some ⟨oc10, od10, .func (PySem.W.fnOf "_law_letter" "_law_letter" (defArgs (top 13)) (defBody (top 13)) (defScope (top 13)) .none kV10 dc10 pm10 an10 cd10 ct10), sl10⟩) (e10 : PySem.W.codeIn K cd10 "_law_letter" = true) (k10 : PySem.W.keepIn K (.ref a10) = true)
    (h11 : PySem.W.nsIn K mainGlobals "_law_text" = some (some (.ref a11))) (l11 : K.lookup a11 = some ⟨oc11, od11, .func (PySem.W.fnOf "_law_text" "_law_text" (defArgs (top 14)) (defBody (top 14)) (defScope (top 14)) .none kV11 dc11 pm11 an11 cd11 ct11), sl11⟩) (e11 : PySem.W.codeIn K cd11 "_law_text" = true) (k11 : PySem.W.keepIn K (.ref a11) = true)
    (h12 : PySem.W.nsIn K mainGlobals "_law_pattern" = some (some (.ref a12))) (l12 : K.lookup a12 = some ⟨oc12, od12, .func (PySem.W.fnOf "_law_pattern" "_law_pattern" (defArgs (top 15)) (defBody (top 15)) (defScope (top 15)) .none kV12 dc12 pm12 an12 cd12 ct12), sl12⟩) (e12 : PySem.W.codeIn K cd12 "_law_pattern" = true) (k12 : PySem.W.keepIn K (.ref a12) = true)
    (h13 : PySem.W.nsIn K mainGlobals "_law_states" = some (some (.ref a13))) (l13 : K.lookup a13 = some ⟨oc13, od13, .func (PySem.W.fnOf "_law_states" "_law_states" (defArgs (top 16)) (defBody (top 16)) (defScope (top 16)) .none kV13 dc13 pm13 an13 cd13 ct13), sl13⟩) (e13 : PySem.W.codeIn K cd13 "_law_states" = true) (k13 : PySem.W.keepIn K (.ref a13) = true)
    (h14 : PySem.W.nsIn K mainGlobals "_law_machine" = some (some (.ref a14))) (l14 : K.lookup a14 = some ⟨oc14, od14, .func (PySem.W.fnOf "_law_machine" "_law_machine" (defArgs (top 17)) (defBody (top 17)) (defScope (top 17)) .none kV14 dc14 pm14 an14 cd14 ct14), sl14⟩) (e14 : PySem.W.codeIn K cd14 "_law_machine" = true) (k14 : PySem.W.keepIn K (.ref a14) = true)
    (h15 : PySem.W.nsIn K mainGlobals "_law_after" = some (some (.ref a15))) (l15 : K.lookup a15 = some ⟨oc15, od15, .func (PySem.W.fnOf "_law_after" "_law_after" (defArgs (top 18)) (defBody (top 18)) (defScope (top 18)) .none kV15 dc15 pm15 an15 cd15 ct15), sl15⟩) (e15 : PySem.W.codeIn K cd15 "_law_after" = true) (k15 : PySem.W.keepIn K (.ref a15) = true)
    (h16 : PySem.W.nsIn K mainGlobals "_law_just" = some (some (.ref a16))) (l16 : K.lookup a16 = some ⟨oc16, od16, .func (PySem.W.fnOf "_law_just" "_law_just" (defArgs (top 19)) (defBody (top 19)) (defScope (top 19)) .none kV16 dc16 pm16 an16 cd16 ct16), sl16⟩) (e16 : PySem.W.codeIn K cd16 "_law_just" = true) (k16 : PySem.W.keepIn K (.ref a16) = true)
    (h17 : PySem.W.nsIn K mainGlobals "_law_gaps" = some (some (.ref a17))) (l17 : K.lookup a17 = some ⟨oc17, od17, .func (PySem.W.fnOf "_law_gaps" "_law_gaps" (defArgs (top 20)) (defBody (top 20)) (defScope (top 20)) .none kV17 dc17 pm17 an17 cd17 ct17), sl17⟩) (e17 : PySem.W.codeIn K cd17 "_law_gaps" = true) (k17 : PySem.W.keepIn K (.ref a17) = true)
    (h18 : PySem.W.nsIn K mainGlobals "_law_same" = some (some (.ref a18))) (l18 : K.lookup a18 = some ⟨oc18, od18, .func (PySem.W.fnOf "_law_same" "_law_same" (defArgs (top 21)) (defBody (top 21)) (defScope (top 21)) .none kV18 dc18 pm18 an18 cd18 ct18), sl18⟩) (e18 : PySem.W.codeIn K cd18 "_law_same" = true) (k18 : PySem.W.keepIn K (.ref a18) = true)
    (h19 : PySem.W.nsIn K mainGlobals "law" = some (some (.ref a19))) (l19 : K.lookup a19 = some ⟨oc19, od19, .func (PySem.W.fnOf "law" "law" (defArgs (top 22)) (defBody (top 22)) (defScope (top 22)) .none kV19 dc19 pm19 an19 cd19 ct19), sl19⟩) (e19 : PySem.W.codeIn K cd19 "law" = true) (k19 : PySem.W.keepIn K (.ref a19) = true)
    (z0 : PySem.W.nsIn K mainGlobals "abs" = some none)
    (z1 : PySem.W.nsIn K mainGlobals "bool" = some none)
    (z2 : PySem.W.nsIn K mainGlobals "enumerate" = some none)
    (z3 : PySem.W.nsIn K mainGlobals "int" = some none)
    (z4 : PySem.W.nsIn K mainGlobals "isinstance" = some none)
    (z5 : PySem.W.nsIn K mainGlobals "len" = some none)
    (z6 : PySem.W.nsIn K mainGlobals "range" = some none)
    (z7 : PySem.W.nsIn K mainGlobals "sorted" = some none)
    (z8 : PySem.W.nsIn K mainGlobals "str" = some none)
    (z9 : PySem.W.nsIn K mainGlobals "tuple" = some none)
    {yv0 : Value} (y0 : PySem.W.nsIn K mainGlobals "SIGNS" = some (some yv0)) (yr0 : RelV (V.str (mkS [40, 41, 44, 46, 48, 49, 50, 51, 52, 53, 54, 55, 56, 57, 97, 98, 99, 100, 101, 102, 103, 104, 105, 106, 107, 108, 109, 110, 111, 112, 113, 114, 115, 116, 117, 118, 119, 120, 121, 122])) yv0)
    : ∃ fd : FuncData, (∀ (s : Shared) (v : Value), BindsTo s fd ⟨[v], []⟩ [("script", v)]) ∧ ∀ base : Heap, K.In base → base.Ns mainGlobals mg → FnOk l.prog w K mg base (L2.CX l.prog w) 42 fa fd ["script"] (spR K 1 (run F G 40 19)) := by
  have ee := hfa.symm.trans (PySem.W.mg_of X Gg h19)
  cases ee
  have hd : ∀ (f : Nat) (x : Str) (n : Nat), Gm.fns[f]? = some (x, n) → DefAt K mg Gm F f x := by
    intro f x n hf
    match f, hf with
    | 0, hf =>
      have hf : (some ("anything_machine", 0) : Option (Str × Nat)) = some (x, n) := hf
      cases hf
      exact defAt_mk (fn := f0) (ps := []) rfl (PySem.W.mg_of X Gg h0) l0 e0 k0 c0 rfl fun _ _ _ _ _ _ us hl => match us, hl with
        | [], _ => rfl
    | 1, hf =>
      have hf : (some ("just_machine", 1) : Option (Str × Nat)) = some (x, n) := hf
      cases hf
      exact defAt_mk (fn := f1) (ps := ["text"]) rfl (PySem.W.mg_of X Gg h1) l1 e1 k1 c1 rfl fun _ _ _ _ _ _ us hl => match us, hl with
        | [_], _ => rfl
    | 2, hf =>
      have hf : (some ("after_machine", 2) : Option (Str × Nat)) = some (x, n) := hf
      cases hf
      exact defAt_mk (fn := f2) (ps := ["text", "machine"]) rfl (PySem.W.mg_of X Gg h2) l2 e2 k2 c2 rfl fun _ _ _ _ _ _ us hl => match us, hl with
        | [_, _], _ => rfl
    | 3, hf =>
      have hf : (some ("begun_machine", 1) : Option (Str × Nat)) = some (x, n) := hf
      cases hf
      exact defAt_mk (fn := f3) (ps := ["text"]) rfl (PySem.W.mg_of X Gg h3) l3 e3 k3 c3 rfl fun _ _ _ _ _ _ us hl => match us, hl with
        | [_], _ => rfl
    | 4, hf =>
      have hf : (some ("pattern_machine", 1) : Option (Str × Nat)) = some (x, n) := hf
      cases hf
      exact defAt_mk (fn := f4) (ps := ["text"]) rfl (PySem.W.mg_of X Gg h4) l4 e4 k4 c4 rfl fun _ _ _ _ _ _ us hl => match us, hl with
        | [_], _ => rfl
    | 5, hf =>
      have hf : (some ("text_moves", 1) : Option (Str × Nat)) = some (x, n) := hf
      cases hf
      exact defAt_mk (fn := f5) (ps := ["text"]) rfl (PySem.W.mg_of X Gg h5) l5 e5 k5 c5 rfl fun _ _ _ _ _ _ us hl => match us, hl with
        | [_], _ => rfl
    | 6, hf =>
      have hf : (some ("sign_moves", 3) : Option (Str × Nat)) = some (x, n) := hf
      cases hf
      exact defAt_mk (fn := f6) (ps := ["origin", "to", "price"]) rfl (PySem.W.mg_of X Gg h6) l6 e6 k6 c6 rfl fun _ _ _ _ _ _ us hl => match us, hl with
        | [_, _, _], _ => rfl
    | 7, hf =>
      have hf : (some ("_law_signs", 0) : Option (Str × Nat)) = some (x, n) := hf
      cases hf
      exact defAt_mk (fn := f7) (ps := []) rfl (PySem.W.mg_of X Gg h7) l7 e7 k7 c7 rfl fun _ _ _ _ _ _ us hl => match us, hl with
        | [], _ => rfl
    | 8, hf =>
      have hf : (some ("_law_begin", 1) : Option (Str × Nat)) = some (x, n) := hf
      cases hf
      exact defAt_mk (fn := f8) (ps := ["script"]) rfl (PySem.W.mg_of X Gg h8) l8 e8 k8 c8 rfl fun _ _ _ _ _ _ us hl => match us, hl with
        | [_], _ => rfl
    | 9, hf =>
      have hf : (some ("_law_pick", 2) : Option (Str × Nat)) = some (x, n) := hf
      cases hf
      exact defAt_mk (fn := f9) (ps := ["draws", "many"]) rfl (PySem.W.mg_of X Gg h9) l9 e9 k9 c9 rfl fun _ _ _ _ _ _ us hl => match us, hl with
        | [_, _], _ => rfl
    | 10, hf =>
      have hf : (some ("_law_letter", 1) : Option (Str × Nat)) = some (x, n) := hf
      cases hf
      exact defAt_mk (fn := f10) (ps := ["draws"]) rfl (PySem.W.mg_of X Gg h10) l10 e10 k10 c10 rfl fun _ _ _ _ _ _ us hl => match us, hl with
        | [_], _ => rfl
    | 11, hf =>
      have hf : (some ("_law_text", 2) : Option (Str × Nat)) = some (x, n) := hf
      cases hf
      exact defAt_mk (fn := f11) (ps := ["draws", "wide"]) rfl (PySem.W.mg_of X Gg h11) l11 e11 k11 c11 rfl fun _ _ _ _ _ _ us hl => match us, hl with
        | [_, _], _ => rfl
    | 12, hf =>
      have hf : (some ("_law_pattern", 2) : Option (Str × Nat)) = some (x, n) := hf
      cases hf
      exact defAt_mk (fn := f12) (ps := ["draws", "wide"]) rfl (PySem.W.mg_of X Gg h12) l12 e12 k12 c12 rfl fun _ _ _ _ _ _ us hl => match us, hl with
        | [_, _], _ => rfl
    | 13, hf =>
      have hf : (some ("_law_states", 2) : Option (Str × Nat)) = some (x, n) := hf
      cases hf
      exact defAt_mk (fn := f13) (ps := ["draws", "many"]) rfl (PySem.W.mg_of X Gg h13) l13 e13 k13 c13 rfl fun _ _ _ _ _ _ us hl => match us, hl with
        | [_, _], _ => rfl
    | 14, hf =>
      have hf : (some ("_law_machine", 2) : Option (Str × Nat)) = some (x, n) := hf
      cases hf
      exact defAt_mk (fn := f14) (ps := ["draws", "large"]) rfl (PySem.W.mg_of X Gg h14) l14 e14 k14 c14 rfl fun _ _ _ _ _ _ us hl => match us, hl with
        | [_, _], _ => rfl
    | 15, hf =>
      have hf : (some ("_law_after", 2) : Option (Str × Nat)) = some (x, n) := hf
      cases hf
      exact defAt_mk (fn := f15) (ps := ["text", "machine"]) rfl (PySem.W.mg_of X Gg h15) l15 e15 k15 c15 rfl fun _ _ _ _ _ _ us hl => match us, hl with
        | [_, _], _ => rfl
    | 16, hf =>
      have hf : (some ("_law_just", 1) : Option (Str × Nat)) = some (x, n) := hf
      cases hf
      exact defAt_mk (fn := f16) (ps := ["text"]) rfl (PySem.W.mg_of X Gg h16) l16 e16 k16 c16 rfl fun _ _ _ _ _ _ us hl => match us, hl with
        | [_], _ => rfl
    | 17, hf =>
      have hf : (some ("_law_gaps", 1) : Option (Str × Nat)) = some (x, n) := hf
      cases hf
      exact defAt_mk (fn := f17) (ps := ["pattern"]) rfl (PySem.W.mg_of X Gg h17) l17 e17 k17 c17 rfl fun _ _ _ _ _ _ us hl => match us, hl with
        | [_], _ => rfl
    | 18, hf =>
      have hf : (some ("_law_same", 2) : Option (Str × Nat)) = some (x, n) := hf
      cases hf
      exact defAt_mk (fn := f18) (ps := ["told", "due"]) rfl (PySem.W.mg_of X Gg h18) l18 e18 k18 c18 rfl fun _ _ _ _ _ _ us hl => match us, hl with
        | [_, _], _ => rfl
    | 19, hf =>
      have hf : (some ("law", 1) : Option (Str × Nat)) = some (x, n) := hf
      cases hf
      exact defAt_mk (fn := f19) (ps := ["script"]) rfl (PySem.W.mg_of X Gg h19) l19 e19 k19 c19 rfl fun _ _ _ _ _ _ us hl => match us, hl with
        | [_], _ => rfl
    | n + 20, hf => cases hf
  have hb : ∀ x ∈ Gm.blt, mg x = none := by
    intro x hx
    have hx : x ∈ (["abs", "bool", "enumerate", "int", "isinstance", "len", "range", "sorted", "str", "tuple"] : List Str) := hx
    simp only [List.mem_cons, List.not_mem_nil, or_false] at hx
    rcases hx with rfl | rfl | rfl | rfl | rfl | rfl | rfl | rfl | rfl | rfl
    · exact PySem.W.mg_none_of X Gg z0
    · exact PySem.W.mg_none_of X Gg z1
    · exact PySem.W.mg_none_of X Gg z2
    · exact PySem.W.mg_none_of X Gg z3
    · exact PySem.W.mg_none_of X Gg z4
    · exact PySem.W.mg_none_of X Gg z5
    · exact PySem.W.mg_none_of X Gg z6
    · exact PySem.W.mg_none_of X Gg z7
    · exact PySem.W.mg_none_of X Gg z8
    · exact PySem.W.mg_none_of X Gg z9
  have hc : ∀ (g : Nat) (x : Str) (d : D), Gm.cns[g]? = some (x, d) → G[g]? = some d ∧ ∃ (v : V) (u : Value), mg x = some u ∧ RelV v u ∧ ∀ α H, RelD K α H d v := by
    intro g x d hg
    match g, hg with
    | 0, hg =>
      cases hg
      exact ⟨rfl, _, _, PySem.W.mg_of X Gg y0, yr0, fun _ _ => rfl⟩
    | n + 1, hg => cases hg
  have hk : ∀ (x : Str) (g : Nat), (x, g) ∈ Gm.dks → ∃ kvs, G[g]? = some (.tup kvs) ∧ GdOk K w mg x kvs := by
    intro x g hx
    cases hx
  have he : ∀ (c : Nat) (x : Str) (ns : List Str), Gm.exs[c]? = some (x, ns) → ∃ C : Addr, ([] : Ys)[c]? = some (C, ns) ∧ mg x = some (.ref C) := by
    intro c x ns h
    match c, h with
    | n + 0, h => cases h
  have xw : XWorld K ([] : Ys) := by
    refine ⟨fun c C ns h hc => ?_, fun c c2 C C2 ns ns2 h h2 hc => ?_⟩
    · match c, h, hc with
      | n + 0, h, _ => cases h
    · match c, c2, h, h2, hc with
      | n + 0, _, h, _, _ => cases h
  exact ⟨_, fun s v => .of_eq rfl, fun base _ _ => spR_of (law_fn (k := 39) (f := 19) (fn := f19) hd hc hb hk he xw rfl l19 e19 k19 c19)⟩
end Wk26
namespace Wk26
open PySem PySem.Spec PyProof.Rows L2 DL PR
theorem pk : Pk F G 9 := ⟨fun k m h1 h2 => pick_sp (F := F) (G := G) (ip := 9) (A := 131) (B := 65537) (E := 2611) (s1 := 13) (M1 := 2654435761) (s2 := 15) (M2 := 2246822519) (s3 := 7) rfl ⟨by decide, by decide, by decide, by decide, by decide, by decide, by decide⟩ k m h1 h2⟩
theorem signs {k : Nat} {h : Hd} : run F G (k + 1) 7 [] h = .ok (.v (.str sgn)) h := signs_ok (F := F) (G := G) (i := 7) rfl
def Tx (n : Nat) (t : List Nat) : Prop := t.length ≤ n ∧ ∀ c ∈ t, c ≠ 42
theorem letter_sp (k : Nat) : Sp (run F G (k + 2) 10 [.obj 3]) fun w => ∃ c : Nat, w = .v (.str [c]) ∧ c ≠ 42 := by
  intro h p
  refine run_ok (fn := f10) rfl rfl ?_
  show Ok (sdns (run F G (k + 1)) G f10.body [some (.obj 3)] h) _
  unfold f10
  simp only []
  obtain ⟨d, g, e, s, d0, d1⟩ := pk.at0 k (m := 5) (by omega) (by omega) p
  refine Ok.if_ (t := decide (d = 0)) (h1 := g) (by simp [e]) (fun _ => ?_) (fun _ => ?_)
  · refine Ok.ret (w := .v (.str [63])) (h1 := g) (by simp) ?_
    exact .eq (gc_v0 s.eld rfl) ⟨s, 63, rfl, by decide⟩
  · obtain ⟨x, g2, e2, s2, x0, x1⟩ := pk.at0 k (m := 40) (by omega) (by omega) s.dr
    obtain ⟨c, ec, hc, _⟩ := atI_mem (s := sgn) (i := x) x0 (by simpa [sgn] using x1)
    have z40 : sgn.length ≤ sizeLine := sl_big (by decide)
    have ixs : getIx (.v (.str sgn)) (.v (.int x)) g2 = some (.v (.str [c])) := by rw [DL.ix_str, if_pos z40, ec]; rfl
    refine Ok.ret (w := .v (.str [c])) (h1 := g2) (by simp [-DL.ix_str, signs, e2, ixs]) ?_
    refine .eq (gc_v0 (s.trans s2).eld rfl) ⟨s.trans s2, c, rfl, ?_⟩
    intro z
    subst z
    revert hc
    decide
theorem letter0 (k : Nat) {g : Hd} (p : Dr g) : ∃ (c : Nat) (g' : Hd), run F G (k + 2) 10 [.obj 3] g = .ok (.v (.str [c])) g' ∧ Stp g g' ∧ c ≠ 42 := by
  obtain ⟨w, g', e, s, c, rfl, hc⟩ := letter_sp k g p
  exact ⟨c, g', e, s, hc⟩
theorem join_ones : ∀ cs : List Nat, joinD [] (cs.map fun c => [c]) = cs
  | [] => rfl
  | [c] => rfl
  | c :: d :: cs => by
    show [c] ++ [] ++ joinD [] ((d :: cs).map fun c => [c]) = _
    rw [join_ones (d :: cs)]
    rfl
theorem sum_ones : ∀ cs : List Nat, ((cs.map fun c => [c]).map (·.length)).sum = cs.length
  | [] => rfl
  | c :: cs => by
    rw [List.map_cons, List.map_cons, List.sum_cons, sum_ones cs, List.length_cons]
    simp; omega
theorem text_sp (k : Nat) (b : Bool) : Sp (run F G (k + 3) 11 [.obj 3, .bl b]) fun w => ∃ t : List Nat, w = .v (.str t) ∧ Tx (if b then 120 else 11) t := by
  intro h p
  refine run_ok (fn := f11) rfl rfl ?_
  show Ok (sdns (run F G (k + 2)) G f11.body [some (.obj 3), some (.bl b), none, none] h) _
  unfold f11
  simp only []
  obtain ⟨d, g, e, s, d0, d1⟩ := pk.at0 (k + 1) (m := 12) (by omega) (by omega) p
  refine Ok.nx (σ' := [some (.obj 3), some (.bl b), some (.int d), none]) (h1 := g) (by simp [e]) ?_
  have rest : ∀ (g2 : Hd) (n : Int), Stp h g2 → 0 ≤ n → n ≤ (if b then 120 else 11) → Ok (sdns (run F G (k + 2)) G [.ret (.m1 .join (.str []) (.lc (.call 10 [(.var 0)]) (.nm 3) (.rng1 (.var 2)) none [3]))] [some (.obj 3), some (.bl b), some (.int n), none] g2) (DL.Fin h fun w h' => Stp h h' ∧ ∃ t : List Nat, w = .v (.str t) ∧ Tx (if b then 120 else 11) t) := by
    intro g2 n st n0 n1
    have n2 : n ≤ 120 := by cases b <;> simp at n1 <;> omega
    have lc : Ok ((dn (run F G (k + 2)) G (.lc (.call 10 [(.var 0)]) (.nm 3) (.rng1 (.var 2)) none [3])).v [some (.obj 3), some (.bl b), some (.int n), none] g2) fun w g => Stp h g ∧ ∃ cs : List Nat, w = .l ((cs.map fun c => [c]).map .str) ∧ cs.length = n.toNat ∧ ∀ c ∈ cs, c ≠ 42 := by
      refine Ok.lc0 (s := .fx ((nums n).map .int)) (xs := (nums n).map .int) (ok := fun _ => True) (fun i ys g => Stp h g ∧ ∃ cs : List Nat, ys = (cs.map fun c => [c]).map .str ∧ cs.length = i ∧ ∀ c ∈ cs, c ≠ 42) (by simp [rng0 (d := n) n0 (by omega), rgs_nums]) (.fx _) ⟨st, [], rfl, rfl, by simp⟩ (fun _ _ _ _ => trivial) ?_ ?_
      · rintro i dd ys g hd ⟨st, cs, rfl, hl, hc⟩
        rw [List.getElem?_map, Option.map_eq_some_iff] at hd
        obtain ⟨x, _, rfl⟩ := hd
        obtain ⟨c, g3, e3, s3, c42⟩ := letter0 k st.dr
        refine ⟨[some (.obj 3), some (.bl b), some (.int n), some (.int x)], .str [c], g3, rfl, by simp [e3], st.trans s3, cs ++ [c], by simp, by simp [hl], fun z hz => ?_⟩
        rcases List.mem_append.mp hz with q | q
        · exact hc z q
        · rw [List.mem_singleton.mp q]; exact c42
      · rintro ys g ⟨st, cs, rfl, hl, hc⟩
        rw [List.length_map, nums_len] at hl
        exact ⟨by rw [List.length_map, List.length_map]; exact sl_big (by omega), st, cs, rfl, hl, hc⟩
    obtain ⟨w, g3, e3, st3, cs, rfl, hl, hc⟩ := lc
    have ej : DL.mt1 .join (.v (.str [])) (.l ((cs.map fun c => [c]).map .str)) g3 = .ok (.v (.str cs)) g3 := by
      simp only [DL.mt1, W.seq, W.items, strsOf_map]
      rw [if_pos (by rw [sum_ones, List.length_map]; simp; omega), join_ones]
    refine Ok.ret (w := .v (.str cs)) (h1 := g3) (by rw [ev_join, ev_str, R.bind_ok, if_pos (isS_str), e3, R.bind_ok, ej]) ?_
    refine .eq (gc_v0 st3.eld rfl) ⟨st3, cs, rfl, ?_, hc⟩
    cases b <;> simp at n1 ⊢ <;> omega
  refine Ok.if_ (t := b) (h1 := g) (by simp) (fun q => ?_) (fun q => ?_)
  · obtain ⟨x, g2, e2, s2, x0, x1⟩ := pk.at0 (k + 1) (m := 71) (by omega) (by omega) s.dr
    refine Ok.nx (σ' := [some (.obj 3), some (.bl b), some (.int (50 + x)), none]) (h1 := g2) (by simp [e2]) ?_
    exact rest g2 (50 + x) (s.trans s2) (by omega) (by rw [q]; simp; omega)
  · exact rest g d s d0 (by rw [q]; simp; omega)
theorem text0 (k : Nat) (b : Bool) {g : Hd} (p : Dr g) : ∃ (t : List Nat) (g' : Hd), run F G (k + 3) 11 [.obj 3, .bl b] g = .ok (.v (.str t)) g' ∧ Stp g g' ∧ Tx (if b then 120 else 11) t := by
  obtain ⟨w, g', e, s, t, rfl, ht⟩ := text_sp k b g p
  exact ⟨t, g', e, s, ht⟩
theorem str_sl {s : List Nat} {lo hi : Option Int} {h : Hd} (hz : s.length ≤ 1000) : getSl (.v (.str s)) lo hi h = some (.v (.str (cutL s lo hi))) := by rw [DL.sl_str, if_pos (sl_big (by omega))]
theorem str_len {s : List Nat} {h : Hd} {z : Int} (hz : s.length ≤ 1000) (e : z = s.length) : bl1 .len (.v (.str s)) h = some (.v (.int z)) := by rw [DL.len_str, if_pos (sl_big (by omega)), e]
theorem pattern_sp (k : Nat) (b : Bool) : Sp (run F G (k + 4) 12 [.obj 3, .bl b]) fun w => ∃ t : List Nat, w = .v (.str t) ∧ t.length ≤ 115 := by
  intro h p
  refine run_ok (fn := f12) rfl rfl ?_
  show Ok (sdns (run F G (k + 3)) G f12.body [some (.obj 3), some (.bl b), none, none, none] h) _
  unfold f12
  simp only []
  obtain ⟨t, g, e, s, ht, _⟩ := text0 k b p
  have tl : t.length ≤ 120 := by cases b <;> simp at ht <;> omega
  have c110 : cutL t none (some 110) = t.take 110 := by rw [show (110 : Int) = ((110 : Nat) : Int) from rfl, cut_to]
  refine Ok.nx (σ' := [some (.obj 3), some (.bl b), some (.str (t.take 110)), none, none]) (h1 := g) (by simp [-DL.sl_str, e, str_sl (s := t) (by omega), c110]) ?_
  have u0 : (t.take 110).length ≤ 110 := by rw [List.length_take]; omega
  generalize t.take 110 = u at u0
  obtain ⟨n, g1, e1, s1, n0, n1⟩ := pk.at0 (k + 2) (m := 5) (by omega) (by omega) s.dr
  refine Ok.for_ (s := .fx ((nums (1 + n)).map .int)) (h1 := g1) (fun i σ g' => ∃ (u : List Nat) (x3 x4 : Option D), σ = [some (.obj 3), some (.bl b), some (.str u), x3, x4] ∧ Stp h g' ∧ u.length ≤ 110 + i ∧ i ≤ 5) (by simp [e1, rng0 (d := 1 + n) (by omega) (by omega), rgs_nums]) (.fx _) ⟨u, none, none, rfl, s.trans s1, by omega, by omega⟩ (fun _ _ _ _ => trivial) ?_ ?_
  · rintro i dd σ g' hd ⟨u, x3, x4, rfl, st, ul, hi⟩
    have hi2 : i < (nums (1 + n)).length := by
      have := (List.getElem?_eq_some_iff.mp hd).1
      rwa [List.length_map] at this
    rw [nums_len] at hi2
    rw [List.getElem?_map, Option.map_eq_some_iff] at hd
    obtain ⟨x, _, rfl⟩ := hd
    refine ⟨[some (.obj 3), some (.bl b), some (.str u), some (.int x), x4], rfl, ?_⟩
    obtain ⟨m, hm⟩ : ∃ m : Int, m = (u.length : Int) := ⟨_, rfl⟩
    obtain ⟨pl, g2, e2, s2, p0, p1⟩ := pk.at0 (k + 2) (m := m + 1) (by omega) (by omega) st.dr
    refine Ok.nx (σ' := [some (.obj 3), some (.bl b), some (.str u), some (.int x), some (.int pl)]) (h1 := g2) (by simp [-DL.len_str, str_len (s := u) (by omega) hm, e2]) ?_
    have q1 : cutL u none (some pl) = u.take pl.toNat := by
      have := cut_to u pl.toNat
      rwa [show ((pl.toNat : Nat) : Int) = pl from by omega] at this
    have q2 : cutL u (some pl) none = u.drop pl.toNat := by
      have := cut_from u pl.toNat
      rwa [show ((pl.toNat : Nat) : Int) = pl from by omega] at this
    have l1 : (u.take pl.toNat).length ≤ 120 := by rw [List.length_take]; omega
    have l2 : (u.drop pl.toNat).length ≤ 120 := by rw [List.length_drop]; omega
    have tot : (u.take pl.toNat).length + (u.drop pl.toNat).length = u.length := by rw [List.length_take, List.length_drop]; omega
    have a1 : ∀ (x y : List Nat) (h : Hd), x.length + y.length ≤ 1000 → addW (.v (.str x)) (.v (.str y)) h = some (.v (.str (x ++ y))) := fun x y h hz => by rw [DL.add_str, if_pos (sl_big (by omega))]
    generalize u.take pl.toNat = ua at q1 l1 tot
    generalize u.drop pl.toNat = ub at q2 l2 tot
    refine Ok.nx (σ' := [some (.obj 3), some (.bl b), some (.str (ua ++ [42] ++ ub)), some (.int x), some (.int pl)]) (h1 := g2) (by simp [-DL.sl_str, -DL.add_str, str_sl (s := u) (by omega), q1, q2, a1 ua [42] g2 (by simp; omega), a1 (ua ++ [42]) ub g2 (by simp; omega)]) (Ok.nil ⟨_, _, _, rfl, st.trans s2, ?_, by omega⟩)
    simp; omega
  · rintro σ g' ⟨u, x3, x4, rfl, st, ul, hi⟩
    exact Ok.ret (w := .v (.str u)) (h1 := g') (by simp) (.eq (gc_v0 st.eld rfl) ⟨st, u, rfl, by omega⟩)
end Wk26
namespace Wk26
open PySem PySem.Spec PyProof.Rows L2 DL PR
section
variable {k : Nat} {h : Hd}
structure Sz (m : Mc) : Prop where
  n0 : 0 ≤ m.n
  n1 : m.n ≤ 160
  st : m.st.length ≤ 160
  en : m.en.length ≤ 160
  mv : m.mv.length ≤ 8100
def lts : List (List Nat) := [] :: [63] :: sgn.map fun c => [c]
theorem lts_len : lts.length = 42 := by decide
theorem states0 (k : Nat) {n : Int} (h0 : 0 ≤ n) (h1 : n ≤ 1000) {g : Hd} (p : Dr g) (L : Hd) : ∃ (js : List Int) (g' : Hd), run F G (k + 2) 13 [.obj 3, .int n] (g ++ L) = .ok (.v (.tup (js.map .int))) (g' ++ L) ∧ Stp g g' ∧ js.length ≤ n.toNat := by
  obtain ⟨js, g', e, s, hj⟩ := states_at (F := F) (G := G) (ip := 9) (i := 13) (q := 3) pk rfl (by omega) (by omega) k h0 h1 p L
  have := hj.length_le
  rw [nums_len] at this
  exact ⟨js, g', e, s, this⟩
abbrev LL (kv : List Mv) : Hd := [.lst (lts.map .str), .dT (kv.map ent)]
theorem machine_sp (k : Nat) (b : Bool) : Sp (run F G (k + 3) 14 [.obj 3, .bl b]) fun w => ∃ m : Mc, w = .v m.d ∧ Sz m := by
  intro h p
  refine run_ok (fn := f14) rfl rfl ?_
  show Ok (sdns (run F G (k + 2)) G f14.body [some (.obj 3), some (.bl b), none, none, none, none, none, none, none, none, none, none, none, none, none, none] h) _
  unfold f14
  simp only []
  have z0 : 2 ≤ sizeLine := sl_big (by omega)
  have z3 : 3 ≤ sizeLine := sl_big (by omega)
  have z4 : 4 ≤ sizeLine := sl_big (by omega)
  have el := lc_m2 (C := run F G (k + 2)) (G := G) (j := 15) (it := .call 7 []) (elt := .var 15) (σ := [some (.obj 3), some (.bl b), none, none, none, none, none, none, none, none, none, none, none, none, none, none]) (g0 := h) (g := h) (s := .fx (sgn.map fun c => .str [c])) (xs := sgn) (m := fun c => .str [c]) (y := fun c => .str [c]) (by simp [signs, W.src]) (.fx _) trivial (sl_big (by decide)) (fun x _ => by simp)
  have e42 : (([D.str [], .str [63]] : List D).length + (sgn.map fun c => D.str [c]).length) ≤ sizeLine := sl_big (by decide)
  have el2 : ([D.str [], .str [63]] ++ sgn.map fun c => D.str [c]) = lts.map .str := rfl
  have ea : (dn (run F G (k + 2)) G (.lst [(.str []), (.str [63])])).v [some (.obj 3), some (.bl b), none, none, none, none, none, none, none, none, none, none, none, none, none, none] h = .ok (.l [.str [], .str [63]]) h := by simp [z0]
  refine Ok.nx (σ' := [some (.obj 3), some (.bl b), some (.obj h.length), none, none, none, none, none, none, none, none, none, none, none, none, none]) (h1 := h ++ [.lst (lts.map .str)]) (by
    rw [sd_set, ev_bin, ea, R.bind_ok, el, R.bind_ok, b_add, add_ll, if_pos e42, el2]; rfl) ?_
  obtain ⟨N, hN⟩ : ∃ N, N = h.length := ⟨_, rfl⟩
  rw [← hN]
  refine Ok.nx (σ' := [some (.obj 3), some (.bl b), some (.obj N), some (.obj (N + 1)), none, none, none, none, none, none, none, none, none, none, none, none]) (h1 := h ++ LL []) (by simp [hN]) ?_
  have ixl : ∀ (g : Hd) (kv : List Mv) (i : Int), g.length = N → 0 ≤ i → i < 42 → ∃ l, getIx (.v (.obj N)) (.v (.int i)) (g ++ LL kv) = some (.v (.str l)) := by
    intro g kv i hg i0 i1
    obtain ⟨l, e1, hl, _⟩ := atI_mem (s := lts.map D.str) (i := i) i0 (by rw [List.length_map, lts_len]; omega)
    obtain ⟨x, _, rfl⟩ := List.mem_map.mp hl
    exact ⟨x, by rw [ix_obj (get_loc hg), e1]; rfl⟩
  have put : ∀ (g : Hd) (kv : List Mv) (m : Mv), g.length = N → kv.length ≤ 8100 → setIx (.v (.obj (N + 1))) (.v (.tup [.int m.o, .str m.l, .int m.t])) (.int m.p) (g ++ LL kv) = some (g ++ LL (putM kv m)) := by
    intro g kv m hg hz
    have ge : (g ++ LL kv)[N + 1]? = some (.dT (kv.map ent)) := get_loc1 hg
    rw [set_dT ge (key_of m) (by rw [List.length_map, sizeLine_eq]; omega), putK_ent kv m, set_loc1 hg]
  have fin : ∀ (g : Hd) (kv : List Mv) (n : Int) (y6 y7 y8 y9 y10 y11 y12 y13 : Option D), Stp h g → (kv.map Mv.key).Nodup → kv.length ≤ 8100 → 0 ≤ n → n ≤ 160 →
      Ok (sdns (run F G (k + 2)) G [.set (.nm 4) (.lc (.tup [(.ix (.var 14) (.int 0)), (.ix (.var 14) (.int 1)), (.ix (.var 14) (.int 2)), (.ix (.var 3) (.var 14))]) (.nm 14) (.b1 .sorted (.lock 3 (.lc (.var 14) (.nm 14) (.dw .keys (.var 3)) none [14]))) none [14]), .ret (.tup [(.var 5), (.call 13 [(.var 0), (.var 5)]), (.call 13 [(.var 0), (.var 5)]), (.b1 .tuple (.var 4))])]
        [some (.obj 3), some (.bl b), some (.obj N), some (.obj (N + 1)), none, some (.int n), y6, y7, y8, y9, y10, y11, y12, y13, none, none] (g ++ LL kv)) (DL.Fin h fun w h' => Stp h h' ∧ ∃ m : Mc, w = .v m.d ∧ Sz m) := by
    intro g kv n y6 y7 y8 y9 y10 y11 y12 y13 st nd kl n0 n1
    have gN : g.length = N := by rw [st.len, hN]
    have ge : (g ++ LL kv)[N + 1]? = some (.dT (kv.map ent)) := get_loc1 gN
    have em := moves_ok (C := run F G (k + 2)) (G := G) (h := g ++ LL kv) (σ := [some (.obj 3), some (.bl b), some (.obj N), some (.obj (N + 1)), none, some (.int n), y6, y7, y8, y9, y10, y11, y12, y13, none, none]) (i := 3) (j := 14) (n := N + 1) (kv := kv) rfl (by simp) (by omega) ge (by omega) nd
    refine Ok.nx (σ' := [some (.obj 3), some (.bl b), some (.obj N), some (.obj (N + 1)), some (.obj (N + 2)), some (.int n), y6, y7, y8, y9, y10, y11, y12, y13, none, none]) (h1 := g ++ [.lst (lts.map .str), .dT (kv.map ent), .lst ((sortM kv).map Mv.d)]) (by rw [sd_set, em]; simp [gN]) ?_
    obtain ⟨j1, g4, e6, s4, hj1⟩ := states0 k (n := n) n0 (by omega) st.dr [.lst (lts.map .str), .dT (kv.map ent), .lst ((sortM kv).map Mv.d)]
    obtain ⟨j2, g5, e7, s5, hj2⟩ := states0 k (n := n) n0 (by omega) s4.dr [.lst (lts.map .str), .dT (kv.map ent), .lst ((sortM kv).map Mv.d)]
    have l5 : g5.length = N := by rw [s5.len, s4.len, gN]
    have gl : (g5 ++ [O.lst (lts.map .str), .dT (kv.map ent), .lst ((sortM kv).map Mv.d)])[N + 2]? = some (.lst ((sortM kv).map Mv.d)) := get_loc2 l5
    refine Ok.ret (w := .v (Mc.d ⟨n, j1, j2, sortM kv⟩)) (h1 := g5 ++ [.lst (lts.map .str), .dT (kv.map ent), .lst ((sortM kv).map Mv.d)]) (by simp [e6, e7, tup_obj gl, z4, Mc.d]) ?_
    have st5 : Stp h g5 := (st.trans s4).trans s5
    have pl := (sortM_perm kv).length_eq
    exact .eq (gc_v st5.eld (mc_no _)) ⟨st5, _, rfl, ⟨n0, n1, by show j1.length ≤ 160; omega, by show j2.length ≤ 160; omega, by show (sortM kv).length ≤ 8100; omega⟩⟩
  refine Ok.if_ (t := b) (h1 := h ++ LL []) (by simp) (fun _ => ?_) (fun _ => ?_)
  · refine Ok.nx (σ' := [some (.obj 3), some (.bl b), some (.obj N), some (.obj (N + 1)), none, some (.int 160), none, none, none, none, none, none, none, none, none, none]) (h1 := h ++ LL []) (by simp) ?_
    obtain ⟨x, g1, e1, s1, x0, x1⟩ := pk.at (k + 1) (m := 79) (by omega) (by omega) p (LL [])
    obtain ⟨by_, hby⟩ : ∃ z : Int, z = 1 + x := ⟨_, rfl⟩
    refine Ok.nx (σ' := [some (.obj 3), some (.bl b), some (.obj N), some (.obj (N + 1)), none, some (.int 160), some (.int by_), none, none, none, none, none, none, none, none, none]) (h1 := g1 ++ LL []) (by simp [e1, hby]) ?_
    obtain ⟨t, g2, e2, s2, t0, t1⟩ := pk.at (k + 1) (m := 160) (by omega) (by omega) s1.dr (LL [])
    refine Ok.nx (σ' := [some (.obj 3), some (.bl b), some (.obj N), some (.obj (N + 1)), none, some (.int 160), some (.int by_), some (.int t), none, none, none, none, none, none, none, none]) (h1 := g2 ++ LL []) (by simp [e2]) ?_
    have st : Stp h g2 := s1.trans s2
    have gN : g2.length = N := by rw [st.len, hN]
    refine Ok.for_ (s := .fx ((nums 160).map .int)) (h1 := g2 ++ LL []) (fun i σ g => ∃ (y8 y9 : Option D) (kv : List Mv), σ = [some (.obj 3), some (.bl b), some (.obj N), some (.obj (N + 1)), none, some (.int 160), some (.int by_), some (.int t), y8, y9, none, none, none, none, none, none] ∧ g = g2 ++ LL kv ∧ (kv.map Mv.key).Nodup ∧ kv.length ≤ 50 * i ∧ i ≤ 160)
      (by simp [rng0 (d := 160) (by omega) (by omega), show rgs 0 160 = (nums 160).map .int from rgs_nums 160]) (.fx _) ⟨none, none, [], rfl, rfl, by simp, by simp, by omega⟩ (fun _ _ _ _ => trivial) ?_ ?_
    · rintro i d σ g hd ⟨y8, y9, kv, rfl, rfl, nd, kl, hi⟩
      have hi2 : i < 160 := by
        have := (List.getElem?_eq_some_iff.mp hd).1
        rwa [List.length_map, nums_len] at this
      rw [← rgs_nums] at hd
      obtain ⟨rfl, _⟩ := rg0 hd
      obtain ⟨z, hz⟩ : ∃ z : Int, z = (i : Int) := ⟨_, rfl⟩
      rw [← hz]
      have wz : wide z = true := wide_of (by omega) (by omega)
      have w3 : wide 3 = true := by decide
      refine ⟨[some (.obj 3), some (.bl b), some (.obj N), some (.obj (N + 1)), none, some (.int 160), some (.int by_), some (.int t), some (.int z), y9, none, none, none, none, none, none], rfl, ?_⟩
      refine Ok.for_ (s := .fx ((nums 50).map .int)) (h1 := g2 ++ LL kv) (fun j σ g => ∃ (y9 : Option D) (kv : List Mv), σ = [some (.obj 3), some (.bl b), some (.obj N), some (.obj (N + 1)), none, some (.int 160), some (.int by_), some (.int t), some (.int z), y9, none, none, none, none, none, none] ∧ g = g2 ++ LL kv ∧ (kv.map Mv.key).Nodup ∧ kv.length ≤ 50 * i + j ∧ j ≤ 50)
        (by simp [rng0 (d := 50) (by omega) (by omega), show rgs 0 50 = (nums 50).map .int from rgs_nums 50]) (.fx _) ⟨y9, kv, rfl, rfl, nd, by omega, by omega⟩ (fun _ _ _ _ => trivial) ?_ ?_
      · rintro j d σ g hd ⟨y9, kv, rfl, rfl, nd, kl, hj⟩
        have hj2 : j < 50 := by
          have := (List.getElem?_eq_some_iff.mp hd).1
          rwa [List.length_map, nums_len] at this
        rw [← rgs_nums] at hd
        obtain ⟨rfl, _⟩ := rg0 hd
        obtain ⟨y, hy⟩ : ∃ y : Int, y = (j : Int) := ⟨_, rfl⟩
        rw [← hy]
        have wy : wide y = true := wide_of (by omega) (by omega)
        obtain ⟨l, el⟩ := ixl g2 kv (y % 42) gN (Int.emod_nonneg _ (by omega)) (Int.emod_lt_of_pos _ (by omega))
        have pu := put g2 kv (Mv.mk z l ((z * 3 + y * by_ + t) % 160) (1 + (z * y) % 997)) gN (by omega)
        simp only [] at pu
        refine ⟨[some (.obj 3), some (.bl b), some (.obj N), some (.obj (N + 1)), none, some (.int 160), some (.int by_), some (.int t), some (.int z), some (.int y), none, none, none, none, none, none], rfl, ?_⟩
        refine Ok.nx (σ' := [some (.obj 3), some (.bl b), some (.obj N), some (.obj (N + 1)), none, some (.int 160), some (.int by_), some (.int t), some (.int z), some (.int y), none, none, none, none, none, none]) (h1 := g2 ++ LL (putM kv (Mv.mk z l ((z * 3 + y * by_ + t) % 160) (1 + (z * y) % 997)))) (by simp [-DL.ix_obj, wz, wy, w3, z3, el, pu]) (Ok.nil ⟨_, _, rfl, rfl, putM_nd nd, ?_, by omega⟩)
        have := putM_len kv (Mv.mk z l ((z * 3 + y * by_ + t) % 160) (1 + (z * y) % 997))
        omega
      · rintro σ g ⟨y9, kv, rfl, rfl, nd, kl, hj⟩
        rw [List.length_map, nums_len] at kl
        have kl : kv.length ≤ 50 * i + 50 := kl
        exact Ok.nil ⟨_, _, kv, rfl, rfl, nd, by omega, by omega⟩
    · rintro σ g ⟨y8, y9, kv, rfl, rfl, nd, kl, hi⟩
      rw [List.length_map, nums_len] at kl
      have kl : kv.length ≤ 50 * 160 := kl
      exact fin g2 kv 160 _ _ _ _ _ _ _ _ st nd (by omega) (by omega) (by omega)
  · obtain ⟨x, g1, e1, s1, x0, x1⟩ := pk.at (k + 1) (m := 5) (by omega) (by omega) p (LL [])
    obtain ⟨n, hn⟩ : ∃ z : Int, z = 1 + x := ⟨_, rfl⟩
    refine Ok.nx (σ' := [some (.obj 3), some (.bl b), some (.obj N), some (.obj (N + 1)), none, some (.int n), none, none, none, none, none, none, none, none, none, none]) (h1 := g1 ++ LL []) (by simp [e1, hn]) ?_
    obtain ⟨r, g2, e2, s2, r0, r1⟩ := pk.at (k + 1) (m := 13) (by omega) (by omega) s1.dr (LL [])
    refine Ok.for_ (s := .fx ((nums r).map .int)) (h1 := g2 ++ LL []) (fun i σ g => ∃ (y9 y10 y11 y12 y13 : Option D) (g' : Hd) (kv : List Mv), σ = [some (.obj 3), some (.bl b), some (.obj N), some (.obj (N + 1)), none, some (.int n), none, none, none, y9, y10, y11, y12, y13, none, none] ∧ g = g' ++ LL kv ∧ Stp h g' ∧ (kv.map Mv.key).Nodup ∧ kv.length ≤ i ∧ i ≤ 13)
      (by simp [e2, rng0 (d := r) r0 (by omega), rgs_nums]) (.fx _) ⟨none, none, none, none, none, g2, [], rfl, rfl, s1.trans s2, by simp, by simp, by omega⟩ (fun _ _ _ _ => trivial) ?_ ?_
    · rintro i d σ g hd ⟨y9, y10, y11, y12, y13, g3, kv, rfl, rfl, st, nd, kl, hi⟩
      have hi2 : i < (nums r).length := by
        have := (List.getElem?_eq_some_iff.mp hd).1
        rwa [List.length_map] at this
      rw [nums_len] at hi2
      rw [List.getElem?_map, Option.map_eq_some_iff] at hd
      obtain ⟨y, _, rfl⟩ := hd
      refine ⟨[some (.obj 3), some (.bl b), some (.obj N), some (.obj (N + 1)), none, some (.int n), none, none, none, some (.int y), y10, y11, y12, y13, none, none], rfl, ?_⟩
      obtain ⟨be, g4, e4, s4, b0, b1⟩ := pk.at (k + 1) (m := n) (by omega) (by omega) st.dr (LL kv)
      refine Ok.nx (σ' := [some (.obj 3), some (.bl b), some (.obj N), some (.obj (N + 1)), none, some (.int n), none, none, none, some (.int y), some (.int be), y11, y12, y13, none, none]) (h1 := g4 ++ LL kv) (by simp [e4]) ?_
      obtain ⟨c, g5, e5, s5, c0, c1⟩ := pk.at (k + 1) (m := 42) (by omega) (by omega) s4.dr (LL kv)
      have st5 : Stp h g5 := (st.trans s4).trans s5
      obtain ⟨l, el⟩ := ixl g5 kv c (by rw [st5.len, hN]) c0 c1
      refine Ok.nx (σ' := [some (.obj 3), some (.bl b), some (.obj N), some (.obj (N + 1)), none, some (.int n), none, none, none, some (.int y), some (.int be), some (.str l), y12, y13, none, none]) (h1 := g5 ++ LL kv) (by simp [-DL.ix_obj, e5, el]) ?_
      have r3 : ∀ (g : Hd) (l : List Nat) (en pr : Int), Stp h g → Ok (sdns (run F G (k + 2)) G [.sub (.var 3) (.tup [(.var 10), (.var 11), (.var 12)]) (.var 13)] [some (.obj 3), some (.bl b), some (.obj N), some (.obj (N + 1)), none, some (.int n), none, none, none, some (.int y), some (.int be), some (.str l), some (.int en), some (.int pr), none, none] (g ++ LL kv))
          (fun r h' => match r with
            | .nx σ => ∃ (y9 y10 y11 y12 y13 : Option D) (g' : Hd) (kv : List Mv), σ = [some (.obj 3), some (.bl b), some (.obj N), some (.obj (N + 1)), none, some (.int n), none, none, none, y9, y10, y11, y12, y13, none, none] ∧ h' = g' ++ LL kv ∧ Stp h g' ∧ (kv.map Mv.key).Nodup ∧ kv.length ≤ i + 1 ∧ i + 1 ≤ 13
            | _ => False) := by
        intro g l en pr sg
        have pu := put g kv (Mv.mk be l en pr) (by rw [sg.len, hN]) (by omega)
        simp only [] at pu
        refine Ok.nx (σ' := [some (.obj 3), some (.bl b), some (.obj N), some (.obj (N + 1)), none, some (.int n), none, none, none, some (.int y), some (.int be), some (.str l), some (.int en), some (.int pr), none, none]) (h1 := g ++ LL (putM kv (Mv.mk be l en pr))) (by simp [z3, pu]) (Ok.nil ?_)
        have := putM_len kv (Mv.mk be l en pr)
        exact ⟨_, _, _, _, _, g, _, rfl, rfl, sg, putM_nd nd, by omega, by omega⟩
      have r2 : ∀ (g : Hd) (l : List Nat), Stp h g → Ok (sdns (run F G (k + 2)) G [.set (.nm 12) (.call 9 [(.var 0), (.var 5)]), .set (.nm 13) (.call 9 [(.var 0), (.int 4)]), .ite (.cmp .Eq (.var 13) (.int 3)) [.set (.nm 13) (.call 9 [(.var 0), (.bin .Add (.bin .Pow (.int 10) (.int 9)) (.int 1))])] [], .ite (.and_ [(.cmp .LtE (.var 12) (.var 10)), (.cmp .Eq (.var 13) (.int 0))]) [.set (.nm 13) (.int 1)] [], .sub (.var 3) (.tup [(.var 10), (.var 11), (.var 12)]) (.var 13)]
            [some (.obj 3), some (.bl b), some (.obj N), some (.obj (N + 1)), none, some (.int n), none, none, none, some (.int y), some (.int be), some (.str l), y12, y13, none, none] (g ++ LL kv))
          (fun r h' => match r with
            | .nx σ => ∃ (y9 y10 y11 y12 y13 : Option D) (g' : Hd) (kv : List Mv), σ = [some (.obj 3), some (.bl b), some (.obj N), some (.obj (N + 1)), none, some (.int n), none, none, none, y9, y10, y11, y12, y13, none, none] ∧ h' = g' ++ LL kv ∧ Stp h g' ∧ (kv.map Mv.key).Nodup ∧ kv.length ≤ i + 1 ∧ i + 1 ≤ 13
            | _ => False) := by
        intro g l sg
        obtain ⟨en, g6, e6, s6, _, _⟩ := pk.at (k + 1) (m := n) (by omega) (by omega) sg.dr (LL kv)
        refine Ok.nx (σ' := [some (.obj 3), some (.bl b), some (.obj N), some (.obj (N + 1)), none, some (.int n), none, none, none, some (.int y), some (.int be), some (.str l), some (.int en), y13, none, none]) (h1 := g6 ++ LL kv) (by simp [e6]) ?_
        obtain ⟨pr, g7, e7, s7, _, _⟩ := pk.at (k + 1) (m := 4) (by omega) (by omega) s6.dr (LL kv)
        refine Ok.nx (σ' := [some (.obj 3), some (.bl b), some (.obj N), some (.obj (N + 1)), none, some (.int n), none, none, none, some (.int y), some (.int be), some (.str l), some (.int en), some (.int pr), none, none]) (h1 := g7 ++ LL kv) (by simp [e7]) ?_
        have s67 : Stp h g7 := (sg.trans s6).trans s7
        have last : ∀ (g : Hd) (pr : Int), Stp h g → Ok (sdns (run F G (k + 2)) G [.ite (.and_ [(.cmp .LtE (.var 12) (.var 10)), (.cmp .Eq (.var 13) (.int 0))]) [.set (.nm 13) (.int 1)] [], .sub (.var 3) (.tup [(.var 10), (.var 11), (.var 12)]) (.var 13)] [some (.obj 3), some (.bl b), some (.obj N), some (.obj (N + 1)), none, some (.int n), none, none, none, some (.int y), some (.int be), some (.str l), some (.int en), some (.int pr), none, none] (g ++ LL kv))
            (fun r h' => match r with
            | .nx σ => ∃ (y9 y10 y11 y12 y13 : Option D) (g' : Hd) (kv : List Mv), σ = [some (.obj 3), some (.bl b), some (.obj N), some (.obj (N + 1)), none, some (.int n), none, none, none, y9, y10, y11, y12, y13, none, none] ∧ h' = g' ++ LL kv ∧ Stp h g' ∧ (kv.map Mv.key).Nodup ∧ kv.length ≤ i + 1 ∧ i + 1 ≤ 13
            | _ => False) := by
          intro g pr sg
          refine Ok.if_ (t := (decide (en ≤ be) && decide (pr = 0))) (h1 := g ++ LL kv) (by by_cases q : en ≤ be <;> simp [q]) (fun _ => ?_) (fun _ => ?_)
          · refine Ok.nx (σ' := [some (.obj 3), some (.bl b), some (.obj N), some (.obj (N + 1)), none, some (.int n), none, none, none, some (.int y), some (.int be), some (.str l), some (.int en), some (.int 1), none, none]) (h1 := g ++ LL kv) (by simp) ?_
            exact r3 g l en 1 sg
          · exact r3 g l en pr sg
        refine Ok.if_ (t := decide (pr = 3)) (h1 := g7 ++ LL kv) (by simp) (fun _ => ?_) (fun _ => ?_)
        · obtain ⟨p2, g8, e8, s8, _, _⟩ := pk.at (k + 1) (m := 10 ^ 9 + 1) (by decide) (by decide) s7.dr (LL kv)
          refine Ok.nx (σ' := [some (.obj 3), some (.bl b), some (.obj N), some (.obj (N + 1)), none, some (.int n), none, none, none, some (.int y), some (.int be), some (.str l), some (.int en), some (.int p2), none, none]) (h1 := g8 ++ LL kv) (by simp at e8 ⊢; simp [e8]) ?_
          exact last g8 p2 (s67.trans s8)
        · exact last g7 pr s67
      have fix : ∀ {r : R Fl}, Ok r (fun r h' => match r with
            | .nx σ => ∃ (y9 y10 y11 y12 y13 : Option D) (g' : Hd) (kv : List Mv), σ = [some (.obj 3), some (.bl b), some (.obj N), some (.obj (N + 1)), none, some (.int n), none, none, none, y9, y10, y11, y12, y13, none, none] ∧ h' = g' ++ LL kv ∧ Stp h g' ∧ (kv.map Mv.key).Nodup ∧ kv.length ≤ i + 1 ∧ i + 1 ≤ 13
            | _ => False) → ∀ {Q : Fl → Hd → Prop}, Ok r (Trn Q fun σ h' => ∃ (y9 y10 y11 y12 y13 : Option D) (g' : Hd) (kv : List Mv), σ = [some (.obj 3), some (.bl b), some (.obj N), some (.obj (N + 1)), none, some (.int n), none, none, none, y9, y10, y11, y12, y13, none, none] ∧ h' = g' ++ LL kv ∧ Stp h g' ∧ (kv.map Mv.key).Nodup ∧ kv.length ≤ i + 1 ∧ i + 1 ≤ 13) := fun q Q => q.mono fun r h z => by
        cases r with
        | nx σ => exact z
        | _ => exact z.elim
      obtain ⟨q, g6, e6, s6, _, _⟩ := pk.at (k + 1) (m := 3) (by omega) (by omega) s5.dr (LL kv)
      have st6 := st5.trans s6
      refine Ok.if_ (t := decide (q = 0)) (h1 := g6 ++ LL kv) (by simp [e6]) (fun _ => ?_) (fun _ => ?_)
      · obtain ⟨c2, g7, e7, s7, c20, c21⟩ := pk.at (k + 1) (m := 2) (by omega) (by omega) s6.dr (LL kv)
        have st7 := st6.trans s7
        obtain ⟨l2, el2⟩ := ixl g7 kv c2 (by rw [st7.len, hN]) c20 (by omega)
        refine Ok.nx (σ' := [some (.obj 3), some (.bl b), some (.obj N), some (.obj (N + 1)), none, some (.int n), none, none, none, some (.int y), some (.int be), some (.str l2), y12, y13, none, none]) (h1 := g7 ++ LL kv) (by simp [-DL.ix_obj, e7, el2]) ?_
        exact fix (r2 g7 l2 st7)
      · exact fix (r2 g6 l st6)
    · rintro σ g ⟨y9, y10, y11, y12, y13, g3, kv, rfl, rfl, st, nd, kl, hi⟩
      rw [List.length_map, nums_len] at kl hi
      exact fin g3 kv n _ _ _ _ _ _ _ _ st nd (by omega) (by omega) (by omega)
end
end Wk26
namespace Wk26
open PySem PySem.Spec PyProof.Rows L2 DL PR
def tm (t : List Nat) : List Mv := t.mapIdx fun i c => Mv.mk (i : Nat) [c] ((i : Nat) + 1) 0
def sg (o t p : Int) : List Mv := sgn.map fun c => Mv.mk o [c] t p
def anyM : Mc := ⟨1, [0], [0], sg 0 0 1⟩
def justM (t : List Nat) : Mc := ⟨t.length + 1, [0], [(t.length : Int)], tm t⟩
theorem tm_len (t : List Nat) : (tm t).length = t.length := by unfold tm; simp
theorem tm_at {t : List Nat} {i : Nat} {c : Nat} (h : t[i]? = some c) : (tm t)[i]? = some (Mv.mk (i : Nat) [c] ((i : Nat) + 1) 0) := by
  unfold tm
  rw [List.getElem?_mapIdx, h]; rfl
theorem tm_snoc (t : List Nat) (c : Nat) : tm (t ++ [c]) = tm t ++ [Mv.mk t.length [c] (t.length + 1) 0] := by
  unfold tm
  rw [List.mapIdx_append]
  simp
section
variable {k : Nat} {h : Hd}
theorem tmoves_ok (t : List Nat) (hz : t.length ≤ 1000) : run F G (k + 1) 5 [.str t] h = .ok (.l ((tm t).map Mv.d)) h := by
  apply ok_eq
  refine run_ok (fn := f5) rfl rfl ?_
  show Ok (sdns (run F G k) G f5.body [some (.str t), none, none] h) _
  unfold f5
  simp only []
  have z4 : 4 ≤ sizeLine := sl_big (by omega)
  have lc : (dn (run F G k) G (.lc (.tup [(.var 1), (.var 2), (.bin .Add (.var 1) (.int 1)), (.int 0)]) (.tp [(.nm 1), (.nm 2)]) (.enum (.var 0)) none [1, 2])).v [some (.str t), none, none] h = .ok (.l ((tm t).map Mv.d)) h := by
    apply ok_eq
    refine Ok.lc0 (s := .fx (pairI (t.map fun c => .str [c]))) (xs := pairI (t.map fun c => .str [c])) (ok := fun _ => True) (fun i ys g => g = h ∧ ys = ((tm t).take i).map Mv.d) (by simp [W.enumSrc]) (.fx _) ⟨rfl, by simp⟩ (fun _ _ _ _ => trivial) ?_ ?_
    · rintro i d ys g hd ⟨rfl, rfl⟩
      unfold pairI at hd
      rw [List.getElem?_mapIdx, List.getElem?_map, Option.map_map, Option.map_eq_some_iff] at hd
      obtain ⟨c, ec, rfl⟩ := hd
      refine ⟨[some (.str t), some (.int (i : Nat)), some (.str [c])], Mv.d (Mv.mk (i : Nat) [c] ((i : Nat) + 1) 0), g, rfl, by simp [z4, Mv.d], rfl, ?_⟩
      rw [take_at (tm_at ec), List.map_append]; rfl
    · rintro ys g ⟨rfl, rfl⟩
      have tl : (pairI (t.map fun c => D.str [c])).length = (tm t).length := by rw [tm_len]; unfold pairI; simp
      rw [tl, List.take_length, List.length_map, tm_len]
      exact ⟨sl_big (by omega), rfl, rfl⟩
  exact Ok.ret (w := .l ((tm t).map Mv.d)) (h1 := h) lc (.eq (gc_l0 (.refl h) (mvs_no _)) ⟨rfl, rfl⟩)
theorem smoves_ok (o t p : Int) : run F G (k + 1) 6 [.int o, .int t, .int p] h = .ok (.l ((sg o t p).map Mv.d)) h := by
  apply ok_eq
  refine run_ok (fn := f6) rfl rfl ?_
  show Ok (sdns (run F G k) G f6.body [some (.int o), some (.int t), some (.int p), none] h) _
  unfold f6
  simp only []
  have z4 : 4 ≤ sizeLine := sl_big (by omega)
  have lc := lc_m2 (C := run F G k) (G := G) (j := 3) (it := .glb 0) (elt := .tup [(.var 0), (.var 3), (.var 1), (.var 2)]) (σ := [some (.int o), some (.int t), some (.int p), none]) (g0 := h) (g := h) (s := .fx (sgn.map fun c => .str [c])) (xs := sgn) (m := fun c => .str [c]) (y := fun c => Mv.d (Mv.mk o [c] t p)) rfl (.fx _) trivial (sl_big (by decide)) (fun x _ => by simp [z4, Mv.d])
  have e : sgn.map (fun c => Mv.d (Mv.mk o [c] t p)) = (sg o t p).map Mv.d := by unfold sg; rw [List.map_map]; rfl
  rw [e] at lc
  exact Ok.ret (w := .l ((sg o t p).map Mv.d)) (h1 := h) lc (.eq (gc_l0 (.refl h) (mvs_no _)) ⟨rfl, rfl⟩)
theorem any_ok : run F G (k + 2) 0 [] h = .ok (.v anyM.d) h := by
  apply ok_eq
  refine run_ok (fn := f0) rfl rfl ?_
  show Ok (sdns (run F G (k + 1)) G f0.body [] h) _
  unfold f0
  simp only []
  have z4 : 4 ≤ sizeLine := sl_big (by omega)
  have z1 : 1 ≤ sizeLine := sl_big (by omega)
  have e1 := smoves_ok (k := k) (h := h) 0 0 1
  exact Ok.ret (w := .v anyM.d) (h1 := h) (by simp [e1, z4, z1, Mc.d, anyM]) (.eq (gc_v0 (.refl h) (mc_no _)) ⟨rfl, rfl⟩)
theorem just_ok (t : List Nat) (hz : t.length ≤ 1000) : run F G (k + 2) 1 [.str t] h = .ok (.v (justM t).d) h := by
  apply ok_eq
  refine run_ok (fn := f1) rfl rfl ?_
  show Ok (sdns (run F G (k + 1)) G f1.body [some (.str t)] h) _
  unfold f1
  simp only []
  have z4 : 4 ≤ sizeLine := sl_big (by omega)
  have z1 : 1 ≤ sizeLine := sl_big (by omega)
  have e1 := tmoves_ok (k := k) (h := h) t hz
  have el : ∀ g, bl1 .len (.v (.str t)) g = some (.v (.int t.length)) := fun g => str_len hz rfl
  exact Ok.ret (w := .v (justM t).d) (h1 := h) (by simp [-DL.len_str, el, e1, z4, z1, Mc.d, justM]) (.eq (gc_v0 (.refl h) (mc_no _)) ⟨rfl, rfl⟩)
theorem ranged {C : DL.Cls} {σ : Sd} {j it : Nat} {t u : List Nat} {n : Int} {eN : Ex} (hz : t.length ≤ 1000) (n0 : -5 ≤ n) (n1 : n ≤ 1000) (eu : u = t.take n.toNat) (ul : u.length = n.toNat) (st : σ[it]? = some (some (.str t))) (hj : j < σ.length) (ne : it ≠ j) (hN : (dn C G eN).v σ h = .ok (.v (.int n)) h) :
    (dn C G (.lc (.tup [(.var j), (.ix (.var it) (.var j)), (.bin .Add (.var j) (.int 1)), (.int 0)]) (.nm j) (.rng1 eN) none [j])).v σ h = .ok (.l ((tm u).map Mv.d)) h := by
  apply ok_eq
  have z4 : 4 ≤ sizeLine := sl_big (by omega)
  have rs : rngSrc 0 n = some (.fx (rgs 0 n.toNat)) := by
    have := rng_src (lo := 0) (hi := n) (by omega) (by omega) (by omega) (by omega)
    rwa [Int.sub_zero] at this
  refine Ok.lc0 (s := .fx (rgs 0 n.toNat)) (xs := rgs 0 n.toNat) (ok := fun _ => True) (fun i ys g => g = h ∧ ys = ((tm u).take i).map Mv.d) (by rw [ei_rng1, hN, R.bind_ok]; simp [rs]) (.fx _) ⟨rfl, by simp⟩ (fun _ _ _ _ => trivial) ?_ ?_
  · rintro i d ys g hd ⟨rfl, rfl⟩
    obtain ⟨rfl, hi⟩ := rg0 hd
    have hiu : i < u.length := by omega
    obtain ⟨x, ec⟩ : ∃ x, u[i]? = some x := ⟨_, List.getElem?_eq_getElem hiu⟩
    have ect : t[i]? = some x := by
      rw [eu, List.getElem?_take_of_lt hi] at ec
      exact ec
    have hit : i < t.length := (List.getElem?_eq_some_iff.mp ect).1
    have ix : getIx (.v (.str t)) (.v (.int (i : Int))) g = some (.v (.str [x])) := by
      rw [DL.ix_str, if_pos (sl_big (by omega)), atI_pos (by omega) (by omega), show ((i : Int)).toNat = i from by omega, ect]; rfl
    have sj : ((wipeD σ [j]).set j (some (.int (i : Int))))[j]? = some (some (.int (i : Int))) := List.getElem?_set_self (by simpa using hj)
    have si : ((wipeD σ [j]).set j (some (.int (i : Int))))[it]? = some (some (.str t)) := by
      rw [wipe_cons, wipe_nil, List.getElem?_set_ne (Ne.symm ne), List.getElem?_set_ne (Ne.symm ne)]; exact st
    refine ⟨(wipeD σ [j]).set j (some (.int (i : Int))), Mv.d (Mv.mk (i : Nat) [x] ((i : Nat) + 1) 0), g, rfl, ?_, rfl, ?_⟩
    · simp [-wipe_cons, -DL.ix_str, ev_var sj, ev_var si, ix, z4, Mv.d]
    · rw [take_at (tm_at ec), List.map_append]; rfl
  · rintro ys g ⟨rfl, rfl⟩
    have tl : (rgs 0 n.toNat).length = (tm u).length := by rw [tm_len, ints_len, ul]
    rw [tl, List.take_length, List.length_map, tm_len]
    exact ⟨sl_big (by omega), rfl, rfl⟩
theorem ljust_ok (t : List Nat) (hz : t.length ≤ 1000) : run F G (k + 1) 16 [.str t] h = .ok (.v (justM t).d) h := by
  apply ok_eq
  refine run_ok (fn := f16) rfl rfl ?_
  show Ok (sdns (run F G k) G f16.body [some (.str t), none] h) _
  unfold f16
  simp only []
  have z4 : 4 ≤ sizeLine := sl_big (by omega)
  have z1 : 1 ≤ sizeLine := sl_big (by omega)
  have el : ∀ g, bl1 .len (.v (.str t)) g = some (.v (.int t.length)) := fun g => str_len hz rfl
  have lc := ranged (h := h) (C := run F G k) (σ := [some (.str t), none]) (j := 1) (it := 0) (t := t) (u := t) (n := t.length) (eN := .b1 .len (.var 0)) hz (by omega) (by omega) (by simp) (by simp) rfl (by simp) (by omega) (by simp [-DL.len_str, el])
  exact Ok.ret (w := .v (justM t).d) (h1 := h) (by simp [-DL.len_str, el, lc, z4, z1, Mc.d, justM]) (.eq (gc_v0 (.refl h) (mc_no _)) ⟨rfl, rfl⟩)
def shift (n : Int) (m : Mv) : Mv := Mv.mk (n + m.o) m.l (n + m.t) m.p
def joinS (n : Int) (c : Nat) (s : Int) : Mv := Mv.mk (n - 1) [c] (n + s) 0
def afterM (u : List Nat) (c : Nat) (m : Mc) : Mc := ⟨(u.length + 1 : Nat) + m.n, [0], m.en.map ((u.length + 1 : Nat) + ·), tm u ++ m.st.map (joinS (u.length + 1 : Nat) c) ++ m.mv.map (shift (u.length + 1 : Nat))⟩
theorem getN {m : Mc} (hm : m.st.length ≤ 200) (he : m.en.length ≤ 200) (hv : m.mv.length ≤ 8100) : True := trivial
structure Sz2 (m : Mc) : Prop where
  st : m.st.length ≤ 200
  en : m.en.length ≤ 200
  mv : m.mv.length ≤ 8100
theorem after_nil (m : Mc) : run F G (k + 1) 2 [.str [], m.d] h = .ok (.v m.d) h := by
  apply ok_eq
  refine run_ok (fn := f2) rfl rfl ?_
  show Ok (sdns (run F G k) G f2.body [some (.str []), some m.d, none, none, none, none, none, none, none, none, none, none, none, none] h) _
  unfold f2
  simp only []
  refine Ok.nx (σ' := [some (.str []), some m.d, some (.int 0), none, none, none, none, none, none, none, none, none, none, none]) (h1 := h) (by simp) ?_
  refine Ok.ifT (h1 := h) (by simp) ?_
  exact Ok.ret (w := .v m.d) (h1 := h) (by simp) (.eq (gc_v0 (.refl h) (mc_no _)) ⟨rfl, rfl⟩)
theorem cut_last (u : List Nat) (c : Nat) : cutL (u ++ [c]) none (some (-1)) = u := by
  unfold cutL HT.sIx
  have e : (-1 + ((u.length : Int) + 1)).toNat = u.length := by omega
  simp [e]
theorem after_ok {u : List Nat} {c : Nat} {m : Mc} (hz : u.length ≤ 500) (hm : Sz2 m) : run F G (k + 2) 2 [.str (u ++ [c]), m.d] h = .ok (.v (afterM u c m).d) h := by
  apply ok_eq
  refine run_ok (fn := f2) rfl rfl ?_
  show Ok (sdns (run F G (k + 1)) G f2.body [some (.str (u ++ [c])), some m.d, none, none, none, none, none, none, none, none, none, none, none, none] h) _
  unfold f2
  simp only []
  have tl : (u ++ [c]).length = u.length + 1 := by simp
  have z4 : 4 ≤ sizeLine := sl_big (by omega)
  have z1 : 1 ≤ sizeLine := sl_big (by omega)
  obtain ⟨n, hn⟩ : ∃ n : Int, n = ((u.length + 1 : Nat) : Int) := ⟨_, rfl⟩
  have el : ∀ g, bl1 .len (.v (.str (u ++ [c]))) g = some (.v (.int n)) := fun g => str_len (by omega) (by rw [tl, hn])
  have h1 := hm.st
  have h2 := hm.en
  have h3 := hm.mv
  refine Ok.nx (σ' := [some (.str (u ++ [c])), some m.d, some (.int n), none, none, none, none, none, none, none, none, none, none, none]) (h1 := h) (by simp [-DL.len_str, el]) ?_
  refine Ok.ifF (h1 := h) (by simp; omega) ?_
  refine Ok.nx (σ' := [some (.str (u ++ [c])), some m.d, some (.int n), none, some (.int m.n), some (.tup (m.st.map .int)), some (.tup (m.en.map .int)), some (.tup (m.mv.map Mv.d)), none, none, none, none, none, none]) (h1 := h) (by simp [Mc.d]) ?_
  have e1 := tmoves_ok (k := k) (h := h) u (by omega)
  have es : ∀ g, getSl (.v (.str (u ++ [c]))) none (some (-1)) g = some (.v (.str u)) := fun g => by rw [str_sl (by omega), cut_last]
  refine Ok.nx (σ' := [some (.str (u ++ [c])), some m.d, some (.int n), some (.obj h.length), some (.int m.n), some (.tup (m.st.map .int)), some (.tup (m.en.map .int)), some (.tup (m.mv.map Mv.d)), none, none, none, none, none, none]) (h1 := h ++ [.lst ((tm u).map Mv.d)]) (by simp [-DL.sl_str, es, e1]) ?_
  have il : ∀ g, getIx (.v (.str (u ++ [c]))) (.v (.int (-1))) g = some (.v (.str [c])) := fun g => by rw [DL.ix_str, if_pos (sl_big (by omega)), DL.atI_last]; rfl
  have c1 := lc_m2 (C := run F G (k + 1)) (G := G) (j := 8) (it := .var 5) (elt := .tup [(.bin .Sub (.var 2) (.int 1)), (.ix (.var 0) (.neg (.int 1))), (.bin .Add (.var 2) (.var 8)), (.int 0)]) (σ := [some (.str (u ++ [c])), some m.d, some (.int n), some (.obj h.length), some (.int m.n), some (.tup (m.st.map .int)), some (.tup (m.en.map .int)), some (.tup (m.mv.map Mv.d)), none, none, none, none, none, none]) (g0 := h ++ [.lst ((tm u).map Mv.d)]) (g := h ++ [.lst ((tm u).map Mv.d)]) (s := .fx (m.st.map .int)) (xs := m.st) (m := .int) (y := fun s => Mv.d (joinS n c s)) (by simp [W.src]) (.fx _) trivial (sl_big (by omega)) (fun x _ => by simp [-DL.ix_str, il, z4, Mv.d, joinS])
  have m1 : (m.st.map fun s => Mv.d (joinS n c s)) = (m.st.map (joinS n c)).map Mv.d := by rw [List.map_map]; rfl
  rw [m1] at c1
  have gA : (h ++ [O.lst ((tm u).map Mv.d)])[h.length]? = some (.lst ((tm u).map Mv.d)) := gt_new
  have x1 : DL.mt1 .extend (.v (.obj h.length)) (.l ((m.st.map (joinS n c)).map Mv.d)) (h ++ [O.lst ((tm u).map Mv.d)]) = .ok (.v .non) (h ++ [.lst ((tm u ++ m.st.map (joinS n c)).map Mv.d)]) := by
    rw [ext_obj gA, if_pos (by rw [List.length_map, List.length_map, tm_len, List.length_map]; exact sl_big (by omega)), set_loc rfl, List.map_append]
  refine Ok.nx (σ' := [some (.str (u ++ [c])), some m.d, some (.int n), some (.obj h.length), some (.int m.n), some (.tup (m.st.map .int)), some (.tup (m.en.map .int)), some (.tup (m.mv.map Mv.d)), none, none, none, none, none, none]) (h1 := h ++ [.lst ((tm u ++ m.st.map (joinS n c)).map Mv.d)]) (by rw [sd_ex, ev_extend, ev_var (d := .obj h.length) rfl, R.bind_ok, if_pos (isL_obj gA), c1, R.bind_ok, x1]; rfl) ?_
  have tA : (tm u ++ m.st.map (joinS n c)).length ≤ 700 := by rw [List.length_append, tm_len, List.length_map]; omega
  generalize hA : tm u ++ m.st.map (joinS n c) = A at tA
  have c2 : (dn (run F G (k + 1)) G (.lc (.tup [(.bin .Add (.var 2) (.var 9)), (.var 10), (.bin .Add (.var 2) (.var 11)), (.var 12)]) (.tp [(.nm 9), (.nm 10), (.nm 11), (.nm 12)]) (.var 7) none [9, 10, 11, 12])).v [some (.str (u ++ [c])), some m.d, some (.int n), some (.obj h.length), some (.int m.n), some (.tup (m.st.map .int)), some (.tup (m.en.map .int)), some (.tup (m.mv.map Mv.d)), none, none, none, none, none, none] (h ++ [.lst (A.map Mv.d)]) = .ok (.l ((m.mv.map (shift n)).map Mv.d)) (h ++ [.lst (A.map Mv.d)]) := by
    apply ok_eq
    refine Ok.lc0 (s := .fx (m.mv.map Mv.d)) (xs := m.mv.map Mv.d) (ok := fun _ => True) (fun i ys g => g = h ++ [.lst (A.map Mv.d)] ∧ ys = ((m.mv.take i).map (shift n)).map Mv.d) (by simp [W.src]) (.fx _) ⟨rfl, by simp⟩ (fun _ _ _ _ => trivial) ?_ ?_
    · rintro i dd ys g hd ⟨rfl, rfl⟩
      rw [List.getElem?_map, Option.map_eq_some_iff] at hd
      obtain ⟨e, ee, rfl⟩ := hd
      refine ⟨[some (.str (u ++ [c])), some m.d, some (.int n), some (.obj h.length), some (.int m.n), some (.tup (m.st.map .int)), some (.tup (m.en.map .int)), some (.tup (m.mv.map Mv.d)), none, some (.int e.o), some (.str e.l), some (.int e.t), some (.int e.p), none], (shift n e).d, _, rfl, by simp [z4, Mv.d, shift], rfl, ?_⟩
      rw [take_at ee, List.map_append, List.map_append]; rfl
    · rintro ys g ⟨rfl, rfl⟩
      have tk : m.mv.take (m.mv.map Mv.d).length = m.mv := by rw [List.length_map, List.take_length]
      rw [tk, List.length_map, List.length_map]
      exact ⟨sl_big (by omega), rfl, rfl⟩
  have gB : (h ++ [O.lst (A.map Mv.d)])[h.length]? = some (.lst (A.map Mv.d)) := gt_new
  have x2 : DL.mt1 .extend (.v (.obj h.length)) (.l ((m.mv.map (shift n)).map Mv.d)) (h ++ [O.lst (A.map Mv.d)]) = .ok (.v .non) (h ++ [.lst ((A ++ m.mv.map (shift n)).map Mv.d)]) := by
    rw [ext_obj gB, if_pos (by rw [List.length_map, List.length_map, List.length_map]; exact sl_big (by omega)), set_loc rfl, List.map_append]
  refine Ok.nx (σ' := [some (.str (u ++ [c])), some m.d, some (.int n), some (.obj h.length), some (.int m.n), some (.tup (m.st.map .int)), some (.tup (m.en.map .int)), some (.tup (m.mv.map Mv.d)), none, none, none, none, none, none]) (h1 := h ++ [.lst ((A ++ m.mv.map (shift n)).map Mv.d)]) (by rw [sd_ex, ev_extend, ev_var (d := .obj h.length) rfl, R.bind_ok, if_pos (isL_obj gB), c2, R.bind_ok, x2]; rfl) ?_
  generalize hB : A ++ m.mv.map (shift n) = B
  have gC : (h ++ [O.lst (B.map Mv.d)])[h.length]? = some (.lst (B.map Mv.d)) := gt_new
  have c3 := lc_m2 (C := run F G (k + 1)) (G := G) (j := 13) (it := .var 6) (elt := .bin .Add (.var 2) (.var 13)) (σ := [some (.str (u ++ [c])), some m.d, some (.int n), some (.obj h.length), some (.int m.n), some (.tup (m.st.map .int)), some (.tup (m.en.map .int)), some (.tup (m.mv.map Mv.d)), none, none, none, none, none, none]) (g0 := h ++ [.lst (B.map Mv.d)]) (g := h ++ [.lst (B.map Mv.d)]) (s := .fx (m.en.map .int)) (xs := m.en) (m := .int) (y := fun s => .int (n + s)) (by simp [W.src]) (.fx _) trivial (sl_big (by omega)) (fun x _ => by simp)
  have m3 : (m.en.map fun s => D.int (n + s)) = (m.en.map (n + ·)).map .int := by rw [List.map_map]; rfl
  rw [m3] at c3
  have ed : afterM u c m = ⟨n + m.n, [0], m.en.map (n + ·), B⟩ := by unfold afterM; rw [← hB, ← hA, hn]
  rw [ed]
  have g0 : ∀ g, getIx (.v m.d) (.v (.int 0)) g = some (.v (.int m.n)) := fun _ => rfl
  refine Ok.ret (w := .v (.tup [.int (n + m.n), .tup [.int 0], .tup ((m.en.map (n + ·)).map .int), .tup (B.map Mv.d)])) (h1 := h ++ [.lst (B.map Mv.d)]) (by simp [-List.map_map, c3, tup_obj gC, z4, z1]) ?_
  exact .eq (gc_v (.refl h) (by first | exact mc_no m | exact mc_no ⟨n + m.n, [0], m.en.map (n + ·), B⟩)) ⟨rfl, rfl⟩
theorem lafter_nil {m : Mc} (hm : Sz2 m) : run F G (k + 1) 15 [.str [], m.d] h = .ok (.v m.d) h := by
  apply ok_eq
  refine run_ok (fn := f15) rfl rfl ?_
  show Ok (sdns (run F G k) G f15.body [some (.str []), some m.d, none, none, none, none, none, none, none] h) _
  unfold f15
  simp only []
  have z4 : 4 ≤ sizeLine := sl_big (by omega)
  have h2 := hm.en
  have h3 := hm.mv
  refine Ok.nx (σ' := [some (.str []), some m.d, some (.int 0), none, none, none, none, none, none]) (h1 := h) (by simp) ?_
  have e1 := ranged (h := h) (C := run F G k) (σ := [some (.str []), some m.d, some (.int 0), none, none, none, none, none, none]) (j := 5) (it := 0) (t := []) (u := []) (n := -1) (eN := .bin .Sub (.var 2) (.int 1)) (by simp) (by omega) (by omega) rfl rfl rfl (by simp) (by omega) (by simp)
  refine Ok.nx (σ' := [some (.str []), some m.d, some (.int 0), some (.obj h.length), none, none, none, none, none]) (h1 := h ++ [.lst []]) (by rw [sd_set, e1]; rfl) ?_
  refine Ok.nx (σ' := [some (.str []), some m.d, some (.int 0), some (.obj h.length), some (.tup (m.st.map .int)), none, none, none, none]) (h1 := h ++ [.lst []]) (by simp [Mc.d, ix1]) ?_
  refine Ok.ifF (h1 := h ++ [.lst []]) (by simp) ?_
  have c2 := lc_m2 (C := run F G k) (G := G) (j := 6) (it := .ix (.var 1) (.int 3)) (elt := .tup [(.bin .Add (.ix (.var 6) (.int 0)) (.var 2)), (.ix (.var 6) (.int 1)), (.bin .Add (.ix (.var 6) (.int 2)) (.var 2)), (.ix (.var 6) (.int 3))]) (σ := [some (.str []), some m.d, some (.int 0), some (.obj h.length), some (.tup (m.st.map .int)), none, none, none, none]) (g0 := h ++ [.lst []]) (g := h ++ [.lst []]) (s := .fx (m.mv.map Mv.d)) (xs := m.mv) (m := Mv.d) (y := Mv.d) (by simp [Mc.d, ix3, W.src]) (.fx _) trivial (sl_big (by omega)) (fun x _ => by simp [Mv.d, mv0, mv1, mv2, mv3, z4])
  have gA : (h ++ [O.lst []])[h.length]? = some (.lst []) := gt_new
  have x2 : DL.mt1 .extend (.v (.obj h.length)) (.l (m.mv.map Mv.d)) (h ++ [O.lst []]) = .ok (.v .non) (h ++ [.lst (m.mv.map Mv.d)]) := by
    rw [ext_obj gA, if_pos (by rw [List.length_map]; exact sl_big (by simp; omega)), set_loc rfl]; rfl
  refine Ok.nx (σ' := [some (.str []), some m.d, some (.int 0), some (.obj h.length), some (.tup (m.st.map .int)), none, none, none, none]) (h1 := h ++ [.lst (m.mv.map Mv.d)]) (by rw [sd_ex, ev_extend, ev_var (d := .obj h.length) rfl, R.bind_ok, if_pos (isL_obj gA), c2, R.bind_ok, x2]; rfl) ?_
  have gC : (h ++ [O.lst (m.mv.map Mv.d)])[h.length]? = some (.lst (m.mv.map Mv.d)) := gt_new
  have c3 := lc_m2 (C := run F G k) (G := G) (j := 8) (it := .ix (.var 1) (.int 2)) (elt := .bin .Add (.var 8) (.var 2)) (σ := [some (.str []), some m.d, some (.int 0), some (.obj h.length), some (.tup (m.st.map .int)), none, none, none, none]) (g0 := h ++ [.lst (m.mv.map Mv.d)]) (g := h ++ [.lst (m.mv.map Mv.d)]) (s := .fx (m.en.map .int)) (xs := m.en) (m := .int) (y := .int) (by simp [Mc.d, ix2, W.src]) (.fx _) trivial (sl_big (by omega)) (fun x _ => by simp)
  have g0 : ∀ g, getIx (.v m.d) (.v (.int 0)) g = some (.v (.int m.n)) := fun _ => rfl
  refine Ok.ret (w := .v (.tup [.int m.n, .tup (m.st.map .int), .tup (m.en.map .int), .tup (m.mv.map Mv.d)])) (h1 := h ++ [.lst (m.mv.map Mv.d)]) (by simp [c3, tup_obj gC, z4, g0]) ?_
  exact .eq (gc_v (.refl h) (by first | exact mc_no m | exact mc_no ⟨n + m.n, [0], m.en.map (n + ·), B⟩)) ⟨rfl, rfl⟩
theorem lafter_ok {u : List Nat} {c : Nat} {m : Mc} (hz : u.length ≤ 500) (hm : Sz2 m) : run F G (k + 1) 15 [.str (u ++ [c]), m.d] h = .ok (.v (afterM u c m).d) h := by
  apply ok_eq
  refine run_ok (fn := f15) rfl rfl ?_
  show Ok (sdns (run F G k) G f15.body [some (.str (u ++ [c])), some m.d, none, none, none, none, none, none, none] h) _
  unfold f15
  simp only []
  have tl : (u ++ [c]).length = u.length + 1 := by simp
  have z4 : 4 ≤ sizeLine := sl_big (by omega)
  have z1 : 1 ≤ sizeLine := sl_big (by omega)
  obtain ⟨n, hn⟩ : ∃ n : Int, n = ((u.length + 1 : Nat) : Int) := ⟨_, rfl⟩
  have el : ∀ g, bl1 .len (.v (.str (u ++ [c]))) g = some (.v (.int n)) := fun g => str_len (by omega) (by rw [tl, hn])
  have h1 := hm.st
  have h2 := hm.en
  have h3 := hm.mv
  refine Ok.nx (σ' := [some (.str (u ++ [c])), some m.d, some (.int n), none, none, none, none, none, none]) (h1 := h) (by simp [-DL.len_str, el]) ?_
  have nt : (n - 1).toNat = u.length := by omega
  have e1 := ranged (h := h) (C := run F G k) (σ := [some (.str (u ++ [c])), some m.d, some (.int n), none, none, none, none, none, none]) (j := 5) (it := 0) (t := u ++ [c]) (u := u) (n := n - 1) (eN := .bin .Sub (.var 2) (.int 1)) (by omega) (by omega) (by omega) (by rw [nt]; simp) nt.symm rfl (by simp) (by omega) (by simp)
  refine Ok.nx (σ' := [some (.str (u ++ [c])), some m.d, some (.int n), some (.obj h.length), none, none, none, none, none]) (h1 := h ++ [.lst ((tm u).map Mv.d)]) (by rw [sd_set, e1]; rfl) ?_
  refine Ok.nx (σ' := [some (.str (u ++ [c])), some m.d, some (.int n), some (.obj h.length), some (.tup (m.st.map .int)), none, none, none, none]) (h1 := h ++ [.lst ((tm u).map Mv.d)]) (by simp [Mc.d, ix1]) ?_
  refine Ok.ifT (h1 := h ++ [.lst ((tm u).map Mv.d)]) (by simp; omega) ?_
  have il : ∀ g, getIx (.v (.str (u ++ [c]))) (.v (.int (n - 1))) g = some (.v (.str [c])) := fun g => by
    rw [DL.ix_str, if_pos (sl_big (by omega)), atI_pos (by omega) (by rw [tl]; omega), nt]
    simp
  have c1 := lc_m2 (C := run F G k) (G := G) (j := 7) (it := .ix (.var 1) (.int 1)) (elt := .tup [(.bin .Sub (.var 2) (.int 1)), (.ix (.var 0) (.bin .Sub (.var 2) (.int 1))), (.bin .Add (.var 2) (.var 7)), (.int 0)]) (σ := [some (.str (u ++ [c])), some m.d, some (.int n), some (.obj h.length), some (.tup (m.st.map .int)), none, none, none, none]) (g0 := h ++ [.lst ((tm u).map Mv.d)]) (g := h ++ [.lst ((tm u).map Mv.d)]) (s := .fx (m.st.map .int)) (xs := m.st) (m := .int) (y := fun s => Mv.d (joinS n c s)) (by simp [Mc.d, ix1, W.src]) (.fx _) trivial (sl_big (by omega)) (fun x _ => by simp [-DL.ix_str, il, z4, Mv.d, joinS])
  have m1 : (m.st.map fun s => Mv.d (joinS n c s)) = (m.st.map (joinS n c)).map Mv.d := by rw [List.map_map]; rfl
  rw [m1] at c1
  have gA : (h ++ [O.lst ((tm u).map Mv.d)])[h.length]? = some (.lst ((tm u).map Mv.d)) := gt_new
  have x1 : DL.mt1 .extend (.v (.obj h.length)) (.l ((m.st.map (joinS n c)).map Mv.d)) (h ++ [O.lst ((tm u).map Mv.d)]) = .ok (.v .non) (h ++ [.lst ((tm u ++ m.st.map (joinS n c)).map Mv.d)]) := by
    rw [ext_obj gA, if_pos (by rw [List.length_map, List.length_map, tm_len, List.length_map]; exact sl_big (by omega)), set_loc rfl, List.map_append]
  refine Ok.nx (σ' := [some (.str (u ++ [c])), some m.d, some (.int n), some (.obj h.length), some (.tup (m.st.map .int)), none, none, none, none]) (h1 := h ++ [.lst ((tm u ++ m.st.map (joinS n c)).map Mv.d)]) (by rw [sd_ex, ev_extend, ev_var (d := .obj h.length) rfl, R.bind_ok, if_pos (isL_obj gA), c1, R.bind_ok, x1]; rfl) ?_
  have tA : (tm u ++ m.st.map (joinS n c)).length ≤ 700 := by rw [List.length_append, tm_len, List.length_map]; omega
  generalize hA : tm u ++ m.st.map (joinS n c) = A at tA
  refine Ok.nx (σ' := [some (.str (u ++ [c])), some m.d, some (.int n), some (.obj h.length), some (.tup [.int 0]), none, none, none, none]) (h1 := h ++ [.lst (A.map Mv.d)]) (by simp [z1]) ?_
  have c2 := lc_m2 (C := run F G k) (G := G) (j := 6) (it := .ix (.var 1) (.int 3)) (elt := .tup [(.bin .Add (.ix (.var 6) (.int 0)) (.var 2)), (.ix (.var 6) (.int 1)), (.bin .Add (.ix (.var 6) (.int 2)) (.var 2)), (.ix (.var 6) (.int 3))]) (σ := [some (.str (u ++ [c])), some m.d, some (.int n), some (.obj h.length), some (.tup [.int 0]), none, none, none, none]) (g0 := h ++ [.lst (A.map Mv.d)]) (g := h ++ [.lst (A.map Mv.d)]) (s := .fx (m.mv.map Mv.d)) (xs := m.mv) (m := Mv.d) (y := fun e => Mv.d (shift n e)) (by simp [Mc.d, ix3, W.src]) (.fx _) trivial (sl_big (by omega)) (fun x _ => by simp [Mv.d, mv0, mv1, mv2, mv3, z4, shift, Int.add_comm])
  have m2 : (m.mv.map fun e => Mv.d (shift n e)) = (m.mv.map (shift n)).map Mv.d := by rw [List.map_map]; rfl
  rw [m2] at c2
  have gB : (h ++ [O.lst (A.map Mv.d)])[h.length]? = some (.lst (A.map Mv.d)) := gt_new
  have x2 : DL.mt1 .extend (.v (.obj h.length)) (.l ((m.mv.map (shift n)).map Mv.d)) (h ++ [O.lst (A.map Mv.d)]) = .ok (.v .non) (h ++ [.lst ((A ++ m.mv.map (shift n)).map Mv.d)]) := by
    rw [ext_obj gB, if_pos (by rw [List.length_map, List.length_map, List.length_map]; exact sl_big (by omega)), set_loc rfl, List.map_append]
  refine Ok.nx (σ' := [some (.str (u ++ [c])), some m.d, some (.int n), some (.obj h.length), some (.tup [.int 0]), none, none, none, none]) (h1 := h ++ [.lst ((A ++ m.mv.map (shift n)).map Mv.d)]) (by rw [sd_ex, ev_extend, ev_var (d := .obj h.length) rfl, R.bind_ok, if_pos (isL_obj gB), c2, R.bind_ok, x2]; rfl) ?_
  generalize hB : A ++ m.mv.map (shift n) = B
  have gC : (h ++ [O.lst (B.map Mv.d)])[h.length]? = some (.lst (B.map Mv.d)) := gt_new
  have c3 := lc_m2 (C := run F G k) (G := G) (j := 8) (it := .ix (.var 1) (.int 2)) (elt := .bin .Add (.var 8) (.var 2)) (σ := [some (.str (u ++ [c])), some m.d, some (.int n), some (.obj h.length), some (.tup [.int 0]), none, none, none, none]) (g0 := h ++ [.lst (B.map Mv.d)]) (g := h ++ [.lst (B.map Mv.d)]) (s := .fx (m.en.map .int)) (xs := m.en) (m := .int) (y := fun s => .int (n + s)) (by simp [Mc.d, ix2, W.src]) (.fx _) trivial (sl_big (by omega)) (fun x _ => by simp [Int.add_comm])
  have m3 : (m.en.map fun s => D.int (n + s)) = (m.en.map (n + ·)).map .int := by rw [List.map_map]; rfl
  rw [m3] at c3
  have ed : afterM u c m = ⟨n + m.n, [0], m.en.map (n + ·), B⟩ := by unfold afterM; rw [← hB, ← hA, hn]
  rw [ed]
  have g0 : ∀ g, getIx (.v m.d) (.v (.int 0)) g = some (.v (.int m.n)) := fun _ => rfl
  refine Ok.ret (w := .v (.tup [.int (n + m.n), .tup [.int 0], .tup ((m.en.map (n + ·)).map .int), .tup (B.map Mv.d)])) (h1 := h ++ [.lst (B.map Mv.d)]) (by simp [-List.map_map, c3, tup_obj gC, z4, z1, g0]) ?_
  exact .eq (gc_v (.refl h) (by first | exact mc_no m | exact mc_no ⟨n + m.n, [0], m.en.map (n + ·), B⟩)) ⟨rfl, rfl⟩
theorem aft (t : List Nat) {m : Mc} (hz : t.length ≤ 500) (hm : Sz2 m) : ∃ r : Mc, (∀ k h, run F G (k + 2) 2 [.str t, m.d] h = .ok (.v r.d) h) ∧ (∀ k h, run F G (k + 1) 15 [.str t, m.d] h = .ok (.v r.d) h) ∧ r.st.length ≤ 200 ∧ r.en.length ≤ 200 ∧ r.mv.length ≤ 9000 := by
  have h1 := hm.st
  have h2 := hm.en
  have h3 := hm.mv
  rcases List.eq_nil_or_concat t with rfl | ⟨u, c, rfl⟩
  · exact ⟨m, fun k h => after_nil (k := k + 1) m, fun k h => lafter_nil hm, h1, h2, by omega⟩
  · rw [List.concat_eq_append] at hz ⊢
    rw [List.length_append] at hz
    refine ⟨afterM u c m, fun k h => after_ok (by omega) hm, fun k h => lafter_ok (by omega) hm, by simp [afterM], by simpa [afterM] using h2, ?_⟩
    show (tm u ++ _ ++ _).length ≤ 9000
    rw [List.length_append, List.length_append, tm_len, List.length_map, List.length_map]
    omega
end
end Wk26
namespace Wk26
open PySem PySem.Spec PyProof.Rows L2 DL PR
section
variable {C : DL.Cls} {σ : Sd} {h : Hd} {i : Nat} {a : Ex} {x y z : List Nat}
theorem repF_ok (ea : (dn C G a).v σ h = .ok (.v (.str x)) h) (hz : x.length + (x.length + 1) * z.length ≤ 16777216) : repF (dn C G a).v y z σ h = .ok (.v (.str (repS x y z))) h := by
  unfold repF
  rw [ea]
  simp only [R.bind_ok]
  rw [if_pos hz]
theorem put_ok {f : FV} {d : D} (e : f σ h = .ok (.v d) h) : sPut (.nm i) f σ h = .ok (.nx (σ.set i (some d))) h := by
  unfold sPut vSet
  rw [e]
  rfl
theorem rep_val (ea : (dn C G a).v σ h = .ok (.v (.str x)) h) (hz : x.length + (x.length + 1) * z.length ≤ 16777216) : sdn C G (.rep .val (.nm i) a y z) σ h = .ok (.nx (σ.set i (some (.str (repS x y z))))) h := put_ok (repF_ok ea hz)
theorem rep_len (ea : (dn C G a).v σ h = .ok (.v (.str x)) h) (hz : x.length + (x.length + 1) * z.length ≤ 16777216) (hl : (repS x y z).length ≤ 1000) : sdn C G (.rep .len (.nm i) a y z) σ h = .ok (.nx (σ.set i (some (.int (repS x y z).length)))) h := by
  refine put_ok ?_
  show (repF (dn C G a).v y z σ h).bind (fun x h => R.ofO (bl1 .len x h) h) = _
  rw [repF_ok ea hz, R.bind_ok, str_len hl rfl]
  rfl
theorem rep_call {f : Nat} {d : D} (ea : (dn C G a).v σ h = .ok (.v (.str x)) h) (hz : x.length + (x.length + 1) * z.length ≤ 16777216) (ec : C f [.str (repS x y z)] h = .ok (.v d) h) : sdn C G (.rep (.call f) (.nm i) a y z) σ h = .ok (.nx (σ.set i (some d))) h := by
  refine put_ok ?_
  show ((repF (dn C G a).v y z σ h).bind fun w h => (w.settle h).bind fun d h => (R.ok ([] : List D) h).bind fun ds h => .ok (d :: ds) h).bind (fun ds h => C f (ds ++ []) h) = _
  rw [repF_ok ea hz]
  exact ec
end
def strike (p : List Nat) : List Nat := p.filter (· != 42)
theorem strike_of (x : List Nat) : repS x [42] [] = strike x := by
  unfold repS strike
  exact PyProof.Rows.replace_strikes (mkS x) 42
theorem strike_len (p : List Nat) : (strike p).length ≤ p.length := List.length_filter_le _ _
theorem strike_no {p : List Nat} (h : ∀ c ∈ p, c ≠ 42) : strike p = p := List.filter_eq_self.mpr fun c hc => by simpa using h c hc
def spot (p : List Nat) (i : Nat) : Int := (strike (p.take i)).length
theorem spot_next {p : List Nat} {i c : Nat} (h : p[i]? = some c) : spot p (i + 1) = if c = 42 then spot p i else spot p i + 1 := by
  unfold spot strike
  rw [take_at h, List.filter_append, List.length_append]
  by_cases q : c = 42
  · subst q; simp
  · rw [if_neg q]
    have : ([c].filter (· != 42)) = [c] := by simp [q]
    rw [this]; simp
def gp (p : List Nat) : Nat → List Int
  | 0 => []
  | i + 1 => if p[i]? = some 42 ∧ spot p i ∉ gp p i then gp p i ++ [spot p i] else gp p i
def gm (p : List Nat) (i : Nat) : List Mv := (gp p i).flatMap fun s => sg s s 1
theorem gp_len (p : List Nat) : ∀ i, (gp p i).length ≤ i
  | 0 => Nat.le_refl _
  | i + 1 => by
    have := gp_len p i
    unfold gp
    split
    · rw [List.length_append, List.length_singleton]; omega
    · omega
theorem sg_len (o t q : Int) : (sg o t q).length = 40 := by unfold sg; rw [List.length_map]; rfl
theorem gm_len (p : List Nat) (i : Nat) : (gm p i).length ≤ 40 * i := by
  have h1 := gp_len p i
  have : ∀ l : List Int, (l.flatMap fun s => sg s s 1).length = 40 * l.length := by
    intro l
    induction l with
    | nil => rfl
    | cons x l ih => rw [List.flatMap_cons, List.length_append, sg_len, ih, List.length_cons]; omega
  unfold gm
  rw [this]
  omega
theorem gm_add {p : List Nat} {i : Nat} (h : p[i]? = some 42) (hn : spot p i ∉ gp p i) : gp p (i + 1) = gp p i ++ [spot p i] ∧ gm p (i + 1) = gm p i ++ sg (spot p i) (spot p i) 1 := by
  have e : gp p (i + 1) = gp p i ++ [spot p i] := by
    show (if p[i]? = some 42 ∧ spot p i ∉ gp p i then gp p i ++ [spot p i] else gp p i) = _
    rw [if_pos ⟨h, hn⟩]
  refine ⟨e, ?_⟩
  unfold gm
  rw [e, List.flatMap_append]
  simp
theorem gm_old {p : List Nat} {i : Nat} (h : ¬ (p[i]? = some 42 ∧ spot p i ∉ gp p i)) : gp p (i + 1) = gp p i ∧ gm p (i + 1) = gm p i := by
  have e : gp p (i + 1) = gp p i := by
    show (if p[i]? = some 42 ∧ spot p i ∉ gp p i then gp p i ++ [spot p i] else gp p i) = _
    rw [if_neg h]
  exact ⟨e, by unfold gm; rw [e]⟩
def patM (p : List Nat) : Mc := ⟨(strike p).length + 1, [0], [((strike p).length : Int)], sortD4 (tm (strike p) ++ gm p p.length)⟩
section
variable {k : Nat} {h : Hd}
theorem pat_ok (p : List Nat) (hz : p.length ≤ 200) : run F G (k + 2) 4 [.str p] h = .ok (.v (patM p).d) h := by
  apply ok_eq
  refine run_ok (fn := f4) rfl rfl ?_
  show Ok (sdns (run F G (k + 1)) G f4.body [some (.str p), none, none, none, none, none] h) _
  unfold f4
  simp only []
  have sl := strike_len p
  have z4 : 4 ≤ sizeLine := sl_big (by omega)
  have z1 : 1 ≤ sizeLine := sl_big (by omega)
  refine Ok.nx (σ' := [some (.str p), some (.str (strike p)), none, none, none, none]) (h1 := h) (by rw [rep_val (x := p) (by simp) (by simp; omega), strike_of]; rfl) ?_
  have e1 := tmoves_ok (k := k) (h := h) (strike p) (by omega)
  refine Ok.nx (σ' := [some (.str p), some (.str (strike p)), some (.obj h.length), none, none, none]) (h1 := h ++ [.lst ((tm (strike p)).map Mv.d)]) (by simp [e1]) ?_
  refine Ok.nx (σ' := [some (.str p), some (.str (strike p)), some (.obj h.length), some (.int 0), none, none]) (h1 := h ++ [.lst ((tm (strike p)).map Mv.d)]) (by simp) ?_
  refine Ok.nx (σ' := [some (.str p), some (.str (strike p)), some (.obj h.length), some (.int 0), some (.int (-1)), none]) (h1 := h ++ [.lst ((tm (strike p)).map Mv.d)]) (by simp) ?_
  have tl := tm_len (strike p)
  refine Ok.for_ (s := .fx (p.map fun c => .str [c])) (h1 := h ++ [.lst ((tm (strike p)).map Mv.d)]) (fun i σ g => ∃ (la : Int) (x5 : Option D), σ = [some (.str p), some (.str (strike p)), some (.obj h.length), some (.int (spot p i)), some (.int la), x5] ∧ g = h ++ [.lst ((tm (strike p) ++ gm p i).map Mv.d)] ∧ i ≤ p.length ∧ (∀ s ∈ gp p i, s ≤ la) ∧ la ≤ spot p i ∧ (la = -1 ∨ la ∈ gp p i))
    (by simp [W.src]) (.fx _) ⟨-1, none, rfl, by simp [gm, gp], by omega, by simp [gp], by simp [spot, strike], .inl rfl⟩ (fun _ _ _ _ => trivial) ?_ ?_
  · rintro i d σ g hd ⟨la, x5, rfl, rfl, hi, h1, h2, h3⟩
    rw [List.getElem?_map, Option.map_eq_some_iff] at hd
    obtain ⟨c, ec, rfl⟩ := hd
    have hi2 := (List.getElem?_eq_some_iff.mp ec).1
    have gl := gm_len p i
    have sn := spot_next ec
    have s0 : 0 ≤ spot p i := by unfold spot; omega
    refine ⟨[some (.str p), some (.str (strike p)), some (.obj h.length), some (.int (spot p i)), some (.int la), some (.str [c])], rfl, ?_⟩
    refine Ok.if_ (t := !decide (([c] : List Nat) = [42])) (h1 := h ++ [.lst ((tm (strike p) ++ gm p i).map Mv.d)]) (by simp) (fun q => ?_) (fun q => ?_)
    · have cn : c ≠ 42 := by
        intro z
        subst z
        simp at q
      obtain ⟨o1, o2⟩ := gm_old (p := p) (i := i) fun z => by rw [ec] at z; exact cn (Option.some.inj z.1)
      rw [if_neg cn] at sn
      refine Ok.nx (σ' := [some (.str p), some (.str (strike p)), some (.obj h.length), some (.int (spot p i + 1)), some (.int la), some (.str [c])]) (h1 := h ++ [.lst ((tm (strike p) ++ gm p i).map Mv.d)]) (by simp) (Ok.nil ⟨la, _, by rw [sn], by rw [o2], hi2, by rw [o1]; exact h1, by omega, by rw [o1]; exact h3⟩)
    · have cn : c = 42 := by
        have : ([c] : List Nat) = [42] := by simpa using q
        exact (List.cons.inj this).1
      subst cn
      rw [if_pos rfl] at sn
      refine Ok.if_ (t := decide (la < spot p i)) (h1 := h ++ [.lst ((tm (strike p) ++ gm p i).map Mv.d)]) (by simp) (fun q2 => ?_) (fun q2 => ?_)
      · have lt := of_decide_eq_true q2
        have new : spot p i ∉ gp p i := fun z => by have := h1 _ z; omega
        obtain ⟨a1, a2⟩ := gm_add ec new
        have es := smoves_ok (k := k) (h := h ++ [.lst ((tm (strike p) ++ gm p i).map Mv.d)]) (spot p i) (spot p i) 1
        have gA : (h ++ [O.lst ((tm (strike p) ++ gm p i).map Mv.d)])[h.length]? = some (.lst ((tm (strike p) ++ gm p i).map Mv.d)) := gt_new
        have x1 : DL.mt1 .extend (.v (.obj h.length)) (.l ((sg (spot p i) (spot p i) 1).map Mv.d)) (h ++ [O.lst ((tm (strike p) ++ gm p i).map Mv.d)]) = .ok (.v .non) (h ++ [.lst ((tm (strike p) ++ gm p (i + 1)).map Mv.d)]) := by
          rw [ext_obj gA, if_pos (by rw [List.length_map, List.length_map, List.length_append, sg_len]; exact sl_big (by omega)), set_loc rfl, a2, ← List.append_assoc, List.map_append (l₁ := tm (strike p) ++ gm p i)]
        refine Ok.nx (σ' := [some (.str p), some (.str (strike p)), some (.obj h.length), some (.int (spot p i)), some (.int la), some (.str [42])]) (h1 := h ++ [.lst ((tm (strike p) ++ gm p (i + 1)).map Mv.d)]) (by
          rw [sd_ex, ev_extend, ev_var (d := .obj h.length) rfl, R.bind_ok, if_pos (isL_obj gA)]
          simp [-List.map_append, -DL.ext_obj, es, x1]) ?_
        refine Ok.nx (σ' := [some (.str p), some (.str (strike p)), some (.obj h.length), some (.int (spot p i)), some (.int (spot p i)), some (.str [42])]) (h1 := h ++ [.lst ((tm (strike p) ++ gm p (i + 1)).map Mv.d)]) (by simp) (Ok.nil ⟨spot p i, _, by rw [sn], rfl, hi2, fun s hs => ?_, by omega, .inr (by rw [a1]; simp)⟩)
        rw [a1] at hs
        rcases List.mem_append.mp hs with z | z
        · have := h1 s z; omega
        · rw [List.mem_singleton.mp z]; omega
      · have ge := of_decide_eq_false q2
        have la0 : la = spot p i := by omega
        have old : spot p i ∈ gp p i := by
          rcases h3 with z | z
          · omega
          · rw [← la0]; exact z
        obtain ⟨o1, o2⟩ := gm_old (p := p) (i := i) fun z => z.2 old
        exact Ok.nil ⟨la, _, by rw [sn], by rw [o2], hi2, by rw [o1]; exact h1, by omega, by rw [o1]; exact h3⟩
  · rintro σ g ⟨la, x5, rfl, rfl, hi, h1, h2, h3⟩
    rw [List.length_map]
    have gl := gm_len p p.length
    generalize hA : tm (strike p) ++ gm p p.length = A
    have gA : (h ++ [O.lst (A.map Mv.d)])[h.length]? = some (.lst (A.map Mv.d)) := gt_new
    have es := layD.sorted_obj gA
    rw [sort_d] at es
    have el : ∀ g, bl1 .len (.v (.str (strike p))) g = some (.v (.int (strike p).length)) := fun g => str_len (by omega) rfl
    refine Ok.ret (w := .v (patM p).d) (h1 := h ++ [.lst (A.map Mv.d)]) (by simp [-DL.len_str, el, es, z4, z1, Mc.d, patM, hA]) ?_
    exact .eq (gc_v (.refl h) (mc_no _)) ⟨rfl, rfl⟩
theorem memF_ints (x : Int) : ∀ ns : List Int, memF (.int x) (ns.map D.int) = some (decide (x ∈ ns))
  | [] => rfl
  | n :: ns => by
    simp only [List.map_cons, memF, D.fl, memF_ints x ns]
    have : eqV (V.int n) (V.int x) = decide (x = n) := by
      by_cases q : x = n
      · subst q; simp [eqV]
      · simp [eqV, q, Ne.symm q]
    rw [this]
    simp
theorem in_ints {g : Hd} {n : Nat} {ns : List Int} {x : Int} (e : g[n]? = some (.lst (ns.map .int))) : inW (.v (.int x)) (.v (.obj n)) g = some (decide (x ∈ ns)) := by
  simp only [inW, e, D.fl]
  exact memF_ints x ns
abbrev GG (p : List Nat) (i : Nat) : Hd := [.lst ((tm (strike p) ++ gm p i).map Mv.d), .lst ((gp p i).map .int)]
theorem gaps_ok (p : List Nat) (hz : p.length ≤ 200) : run F G (k + 2) 17 [.str p] h = .ok (.v (patM p).d) h := by
  apply ok_eq
  refine run_ok (fn := f17) rfl rfl ?_
  show Ok (sdns (run F G (k + 1)) G f17.body [some (.str p), none, none, none, none, none, none, none] h) _
  unfold f17
  simp only []
  have sl := strike_len p
  have z4 : 4 ≤ sizeLine := sl_big (by omega)
  have z1 : 1 ≤ sizeLine := sl_big (by omega)
  have ej := ljust_ok (k := k) (h := h) (strike p) (by omega)
  refine Ok.nx (σ' := [some (.str p), some (justM (strike p)).d, none, none, none, none, none, none]) (h1 := h) (by rw [rep_call (x := p) (d := (justM (strike p)).d) (by simp) (by simp; omega) (by rw [strike_of]; exact ej)]; rfl) ?_
  have tl := tm_len (strike p)
  have g3 : ∀ g, getIx (.v (justM (strike p)).d) (.v (.int 3)) g = some (.v (.tup ((tm (strike p)).map Mv.d))) := fun _ => rfl
  have c1 := lc_m2 (C := run F G (k + 1)) (G := G) (j := 5) (it := .ix (.var 1) (.int 3)) (elt := .var 5) (σ := [some (.str p), some (justM (strike p)).d, none, none, none, none, none, none]) (g0 := h) (g := h) (s := .fx ((tm (strike p)).map Mv.d)) (xs := tm (strike p)) (m := Mv.d) (y := Mv.d) (by simp [g3, W.src]) (.fx _) trivial (sl_big (by omega)) (fun x _ => by simp)
  refine Ok.nx (σ' := [some (.str p), some (justM (strike p)).d, some (.obj h.length), none, none, none, none, none]) (h1 := h ++ [.lst ((tm (strike p)).map Mv.d)]) (by rw [sd_set, c1]; rfl) ?_
  obtain ⟨N, hN⟩ : ∃ N, N = h.length := ⟨_, rfl⟩
  rw [← hN]
  refine Ok.nx (σ' := [some (.str p), some (justM (strike p)).d, some (.obj N), some (.obj (N + 1)), none, none, none, none]) (h1 := h ++ GG p 0) (by simp [hN, gm, gp]) ?_
  obtain ⟨n, hn⟩ : ∃ n : Int, n = (p.length : Int) := ⟨_, rfl⟩
  have el : ∀ g, bl1 .len (.v (.str p)) g = some (.v (.int n)) := fun g => str_len (by omega) hn
  refine Ok.for_ (s := .fx (rgs 0 n.toNat)) (h1 := h ++ GG p 0) (fun i σ g => ∃ (x4 x6 : Option D), σ = [some (.str p), some (justM (strike p)).d, some (.obj N), some (.obj (N + 1)), x4, none, x6, none] ∧ g = h ++ GG p i) (by simp [-DL.len_str, el, rng0 (d := n) (by omega) (by omega)]) (.fx _) ⟨none, none, rfl, rfl⟩ (fun _ _ _ _ => trivial) ?_ ?_
  · rintro i d σ g hd ⟨x4, x6, rfl, rfl⟩
    obtain ⟨rfl, hi⟩ := rg0 hd
    have hip : i < p.length := by omega
    obtain ⟨c, ec⟩ : ∃ c, p[i]? = some c := ⟨_, List.getElem?_eq_getElem hip⟩
    obtain ⟨z, hzz⟩ : ∃ z : Int, z = (i : Int) := ⟨_, rfl⟩
    rw [← hzz]
    have ix : ∀ g, getIx (.v (.str p)) (.v (.int z)) g = some (.v (.str [c])) := fun g => by
      rw [DL.ix_str, if_pos (sl_big (by omega)), atI_pos (by omega) (by omega), show z.toNat = i from by omega, ec]; rfl
    have gl := gm_len p i
    have gpl := gp_len p i
    refine ⟨[some (.str p), some (justM (strike p)).d, some (.obj N), some (.obj (N + 1)), some (.int z), none, x6, none], rfl, ?_⟩
    refine Ok.if_ (t := decide (([c] : List Nat) = [42])) (h1 := h ++ GG p i) (by simp [-DL.ix_str, ix]) (fun q => ?_) (fun q => ?_)
    · have cn : c = 42 := by
        have : ([c] : List Nat) = [42] := by simpa using q
        exact (List.cons.inj this).1
      subst cn
      have ct : cutL p none (some z) = p.take i := by rw [hzz, cut_to]
      have es : ∀ g, getSl (.v (.str p)) none (some z) g = some (.v (.str (p.take i))) := fun g => by rw [str_sl (by omega), ct]
      have tk : (p.take i).length ≤ 200 := by rw [List.length_take]; omega
      have sl2 := strike_len (p.take i)
      have esp : (((repS (p.take i) [42] []).length : Nat) : Int) = spot p i := by rw [strike_of]; rfl
      refine Ok.nx (σ' := [some (.str p), some (justM (strike p)).d, some (.obj N), some (.obj (N + 1)), some (.int z), none, some (.int (spot p i)), none]) (h1 := h ++ GG p i) (by
        rw [rep_len (x := p.take i) (by simp [-DL.sl_str, es]) (by simp; omega) (by rw [strike_of]; omega), esp]; rfl) ?_
      have gD : (h ++ GG p i)[N + 1]? = some (.lst ((gp p i).map .int)) := get_loc1 hN.symm
      refine Ok.if_ (t := !decide (spot p i ∈ gp p i)) (h1 := h ++ GG p i) (by simp [c_notin (in_ints gD)]) (fun q2 => ?_) (fun q2 => ?_)
      · have new : spot p i ∉ gp p i := by simpa using q2
        obtain ⟨a1, a2⟩ := gm_add ec new
        have ap : DL.mt1 .append (.v (.obj (N + 1))) (.v (.int (spot p i))) (h ++ GG p i) = .ok (.v .non) (h ++ [.lst ((tm (strike p) ++ gm p i).map Mv.d), .lst ((gp p (i + 1)).map .int)]) := by
          rw [app_obj gD, if_pos (by rw [List.length_map, sizeLine_eq]; omega), set_loc1 hN.symm, a1, List.map_append (l₁ := gp p i)]; rfl
        refine Ok.nx (σ' := [some (.str p), some (justM (strike p)).d, some (.obj N), some (.obj (N + 1)), some (.int z), none, some (.int (spot p i)), none]) (h1 := h ++ [.lst ((tm (strike p) ++ gm p i).map Mv.d), .lst ((gp p (i + 1)).map .int)]) (by
          rw [sd_ex, ev_append, ev_var (d := .obj (N + 1)) rfl, R.bind_ok, if_pos (isL_obj gD), ev_var (d := .int (spot p i)) rfl, R.bind_ok, settle_v, R.bind_ok, ap]; rfl) ?_
        have c2 := lc_m2 (C := run F G (k + 1)) (G := G) (j := 7) (it := .call 7 []) (elt := .tup [(.var 6), (.var 7), (.var 6), (.int 1)]) (σ := [some (.str p), some (justM (strike p)).d, some (.obj N), some (.obj (N + 1)), some (.int z), none, some (.int (spot p i)), none]) (g0 := h ++ [.lst ((tm (strike p) ++ gm p i).map Mv.d), .lst ((gp p (i + 1)).map .int)]) (g := h ++ [.lst ((tm (strike p) ++ gm p i).map Mv.d), .lst ((gp p (i + 1)).map .int)]) (s := .fx (sgn.map fun c => .str [c])) (xs := sgn) (m := fun c => .str [c]) (y := fun c => Mv.d (Mv.mk (spot p i) [c] (spot p i) 1)) (by simp [signs, W.src]) (.fx _) trivial (sl_big (by decide)) (fun x _ => by simp [z4, Mv.d])
        have e : sgn.map (fun c => Mv.d (Mv.mk (spot p i) [c] (spot p i) 1)) = (sg (spot p i) (spot p i) 1).map Mv.d := by unfold sg; rw [List.map_map]; rfl
        rw [e] at c2
        have gA : (h ++ [O.lst ((tm (strike p) ++ gm p i).map Mv.d), .lst ((gp p (i + 1)).map .int)])[N]? = some (.lst ((tm (strike p) ++ gm p i).map Mv.d)) := get_loc hN.symm
        have x1 : DL.mt1 .extend (.v (.obj N)) (.l ((sg (spot p i) (spot p i) 1).map Mv.d)) (h ++ [O.lst ((tm (strike p) ++ gm p i).map Mv.d), .lst ((gp p (i + 1)).map .int)]) = .ok (.v .non) (h ++ GG p (i + 1)) := by
          rw [ext_obj gA, if_pos (by rw [List.length_map, List.length_map, List.length_append, sg_len]; exact sl_big (by omega)), set_loc hN.symm, ← List.map_append (l₁ := tm (strike p) ++ gm p i), List.append_assoc, ← a2]
        refine Ok.nx (σ' := [some (.str p), some (justM (strike p)).d, some (.obj N), some (.obj (N + 1)), some (.int z), none, some (.int (spot p i)), none]) (h1 := h ++ GG p (i + 1)) (by rw [sd_ex, ev_extend, ev_var (d := .obj N) rfl, R.bind_ok, if_pos (isL_obj gA), c2, R.bind_ok, x1]; rfl) (Ok.nil ⟨_, _, rfl, rfl⟩)
      · have old : spot p i ∈ gp p i := by simpa using q2
        obtain ⟨o1, o2⟩ := gm_old (p := p) (i := i) fun z => z.2 old
        refine Ok.nil ⟨_, _, rfl, ?_⟩
        show h ++ [O.lst ((tm (strike p) ++ gm p i).map Mv.d), .lst ((gp p i).map .int)] = h ++ [O.lst ((tm (strike p) ++ gm p (i + 1)).map Mv.d), .lst ((gp p (i + 1)).map .int)]
        rw [o1, o2]
    · have cn : c ≠ 42 := by
        intro z
        subst z
        simp at q
      obtain ⟨o1, o2⟩ := gm_old (p := p) (i := i) fun z => by rw [ec] at z; exact cn (Option.some.inj z.1)
      refine Ok.nil ⟨_, _, rfl, ?_⟩
      show h ++ [O.lst ((tm (strike p) ++ gm p i).map Mv.d), .lst ((gp p i).map .int)] = h ++ [O.lst ((tm (strike p) ++ gm p (i + 1)).map Mv.d), .lst ((gp p (i + 1)).map .int)]
      rw [o1, o2]
  · rintro σ g ⟨x4, x6, rfl, rfl⟩
    rw [ints_len, show n.toNat = p.length from by omega]
    have gA : (h ++ GG p p.length)[N]? = some (.lst ((tm (strike p) ++ gm p p.length).map Mv.d)) := get_loc hN.symm
    have es := layD.sorted_obj gA
    rw [sort_d] at es
    have g0 : ∀ g, getIx (.v (justM (strike p)).d) (.v (.int 0)) g = some (.v (.int ((strike p).length + 1))) := fun _ => rfl
    have g1 : ∀ g, getIx (.v (justM (strike p)).d) (.v (.int 1)) g = some (.v (.tup [.int 0])) := fun _ => rfl
    have g2 : ∀ g, getIx (.v (justM (strike p)).d) (.v (.int 2)) g = some (.v (.tup [.int (strike p).length])) := fun _ => rfl
    refine Ok.ret (w := .v (.tup [.int ((strike p).length + 1), .tup [.int 0], .tup [.int (strike p).length], .tup ((sortD4 (tm (strike p) ++ gm p p.length)).map Mv.d)])) (h1 := h ++ GG p p.length) (by
      simp [-List.map_append, es, g0, g1, g2, z4]) ?_
    exact .eq (gc_v (.refl h) (mc_no (patM p))) ⟨rfl, rfl⟩
end
theorem le_first {a b : Mv} (h : a.o < b.o) : leD a.d b.d = true := by
  unfold leD
  rw [pyE_of (py_d a), pyE_of (py_d b)]
  unfold pD
  have ne : PyData.eqv (.int b.o) (.int a.o) = false := by simp [PyData.eqv]; omega
  have al : PySem.W.alike (.int b.o) (.int a.o) = true := by simp [PySem.W.alike]
  show (!PyProof.Rows.lexLt itemOrd (PySem.W.keyToks (.tuple [.int b.o, .str (mkS b.l), .int b.t, .int b.p])) (PySem.W.keyToks (.tuple [.int a.o, .str (mkS a.l), .int a.t, .int a.p]))) = true
  rw [PySem.W.keyToks, PySem.W.keyToks, PySem.W.dataLt_all_no al ne, PySem.W.dataLt_int]
  simp; omega
theorem tm_sorted (t : List Nat) : sortD4 (tm t) = tm t := by
  unfold sortD4
  refine List.mergeSort_of_pairwise ?_
  rw [List.pairwise_iff_getElem]
  intro i j hi hj lt
  refine le_first ?_
  have at_ : ∀ (n : Nat) (hn : n < (tm t).length), (tm t)[n].o = (n : Int) := fun n hn => by
    have e : (tm t)[n] = Mv.mk (n : Nat) [t[n]'(by rw [← tm_len]; exact hn)] ((n : Nat) + 1) 0 := by
      have h1 := List.getElem?_eq_getElem hn
      rw [tm_at (List.getElem?_eq_getElem (by rw [← tm_len]; exact hn))] at h1
      exact (Option.some.inj h1).symm
    rw [e]
  rw [at_ i hi, at_ j hj]
  omega
theorem gp_no {p : List Nat} (h : ∀ c ∈ p, c ≠ 42) : ∀ i, gp p i = []
  | 0 => rfl
  | i + 1 => by
    have ih := gp_no h i
    show (if p[i]? = some 42 ∧ spot p i ∉ gp p i then gp p i ++ [spot p i] else gp p i) = []
    rw [if_neg fun z => h 42 (List.mem_of_getElem? z.1) rfl, ih]
theorem pat_plain {p : List Nat} (h : ∀ c ∈ p, c ≠ 42) : patM p = justM p := by
  unfold patM justM gm
  rw [gp_no h, strike_no h, List.flatMap_nil, List.append_nil, tm_sorted]
end Wk26
namespace Wk26
open PySem PySem.Spec PyProof.Rows L2 DL PR
theorem same26 {d : D} (hd : sm 3 d) (g : Hd) : run F G 39 18 [d, d] g = .ok (.v (.bl true)) g := same_ok (F := F) (G := G) (i := 18) rfl 3 d hd 35 g
theorem sz_any : Sz2 anyM := ⟨by show 1 ≤ 200; omega, by show 1 ≤ 200; omega, by show (sg 0 0 1).length ≤ 8100; rw [sg_len]; omega⟩
theorem Sz.two {m : Mc} (h : Sz m) : Sz2 m := ⟨by have := h.st; omega, by have := h.en; omega, h.mv⟩
theorem begun_ok {t : List Nat} {r : Mc} (e : ∀ k h, run F G (k + 2) 2 [.str t, anyM.d] h = .ok (.v r.d) h) (k : Nat) (h : Hd) : run F G (k + 3) 3 [.str t] h = .ok (.v r.d) h := by
  apply ok_eq
  refine run_ok (fn := f3) rfl rfl ?_
  show Ok (sdns (run F G (k + 2)) G f3.body [some (.str t)] h) _
  unfold f3
  simp only []
  have e1 := any_ok (k := k) (h := h)
  have e2 := e k h
  exact Ok.ret (w := .v r.d) (h1 := h) (by simp [e1, e2]) (.eq (gc_v0 (.refl h) (mc_no _)) ⟨rfl, rfl⟩)
theorem just_sm {t : List Nat} (hz : t.length ≤ 1000) : sm 3 (justM t).d := sm_mc (m := justM t) (by show 1 ≤ _; omega) (by show 1 ≤ _; omega) (by show (tm t).length ≤ _; rw [tm_len]; omega)
theorem pat_sm {p : List Nat} (hz : p.length ≤ 200) : sm 3 (patM p).d := sm_mc (m := patM p) (by show 1 ≤ _; omega) (by show 1 ≤ _; omega) (by
  show (sortD4 (tm (strike p) ++ gm p p.length)).length ≤ _
  have h1 := (sortD4_perm (tm (strike p) ++ gm p p.length)).length_eq
  have h2 := gm_len p p.length
  have h3 := strike_len p
  rw [h1, List.length_append, tm_len]; omega)
abbrev S9 (x0 x1 x2 x3 x4 x5 x6 x7 x8 x9 : Option D) : Sd := [x0, x1, x2, x3, x4, x5, x6, x7, x8, x9]
def Tr : Fl → Hd → Prop := DL.Fin [] fun w _ => w = .v (.bl true)
theorem tr_ret (g : Hd) : Tr (.rt (.v (.bl true))) g := .eq (gc_v (h := []) (h1 := []) (L := g) (.refl []) rfl) rfl
def tailS : List Sm := f19.body.drop 8
theorem tail_ok {s0 : Option D} {wi la : Bool} {t o p : List Nat} {m : Mc} {g : Hd} (ht : t.length ≤ 120) (ho : Tx 11 o) (hp : p.length ≤ 115) (hm : Sz m) :
    Ok (sdns (run F G 39) G tailS (S9 s0 (some (.obj 3)) (some (.bl wi)) (some (.bl la)) (some (.str t)) (some (.str o)) (some (.str p)) (some m.d) (some anyM.d) none) g) Tr := by
  have hol := ho.1
  obtain ⟨r1, a1, a2, a3, a4, a5⟩ := aft t (by omega) hm.two
  obtain ⟨r2, b1, b2, b3, b4, b5⟩ := aft t (by omega) sz_any
  obtain ⟨r3, c1, c2, c3, c4, c5⟩ := aft (o ++ [63]) (by simp; omega) hm.two
  have q1 : sm 3 r1.d := sm_mc (by omega) (by omega) (by omega)
  have q2 : sm 3 r2.d := sm_mc (by omega) (by omega) (by omega)
  have q3 : sm 3 r3.d := sm_mc (by omega) (by omega) (by omega)
  have qa : sm 3 anyM.d := sm_mc (m := anyM) (by show 1 ≤ _; omega) (by show 1 ≤ _; omega) (by show (sg 0 0 1).length ≤ _; rw [sg_len]; omega)
  have qm : sm 3 m.d := sm_mc (by have := hm.st; omega) (by have := hm.en; omega) (by have := hm.mv; omega)
  have jt : run F G 39 1 [.str t] g = .ok (.v (justM t).d) g := just_ok (k := 37) t (by omega)
  have lt : run F G 39 16 [.str t] g = .ok (.v (justM t).d) g := ljust_ok (k := 38) t (by omega)
  have st := same26 (just_sm (t := t) (by omega)) g
  have an : run F G 39 0 [] g = .ok (.v anyM.d) g := any_ok (k := 37)
  have sa := same26 qa g
  have bt : run F G 39 3 [.str t] g = .ok (.v r2.d) g := begun_ok b1 36 g
  have pp : run F G 39 4 [.str p] g = .ok (.v (patM p).d) g := pat_ok (k := 37) p (by omega)
  have pg : run F G 39 17 [.str p] g = .ok (.v (patM p).d) g := gaps_ok (k := 37) p (by omega)
  have ps := same26 (pat_sm (p := p) (by omega)) g
  have po : run F G 39 4 [.str o] g = .ok (.v (justM o).d) g := by
    have := pat_ok (k := 37) (h := g) o (by omega)
    rwa [pat_plain ho.2] at this
  have lo : run F G 39 16 [.str o] g = .ok (.v (justM o).d) g := ljust_ok (k := 38) o (by omega)
  have so := same26 (just_sm (t := o) (by omega)) g
  have an2 : run F G 39 2 [.str [], m.d] g = .ok (.v m.d) g := after_nil (k := 38) m
  have sm2 := same26 qm g
  have a1' : run F G 39 2 [.str t, m.d] g = .ok (.v r1.d) g := a1 37 g
  have a2' : run F G 39 15 [.str t, m.d] g = .ok (.v r1.d) g := a2 38 g
  have s1 := same26 q1 g
  have b2' : run F G 39 15 [.str t, anyM.d] g = .ok (.v r2.d) g := b2 38 g
  have s2 := same26 q2 g
  have c1' : run F G 39 2 [.str (o ++ [63]), m.d] g = .ok (.v r3.d) g := c1 37 g
  have c2' : run F G 39 15 [.str (o ++ [63]), m.d] g = .ok (.v r3.d) g := c2 38 g
  have s3 := same26 q3 g
  have bn : run F G 39 3 [.str []] g = .ok (.v anyM.d) g := begun_ok (fun k h => after_nil (k := k + 1) anyM) 36 g
  have jn : run F G 39 1 [.str []] g = .ok (.v (justM []).d) g := just_ok (k := 37) [] (by simp)
  have sn := same26 (just_sm (t := []) (by simp)) g
  have en : (justM []).d = .tup [.int 1, .tup [.int 0], .tup [.int 0], .tup []] := rfl
  rw [en] at jn sn
  have z4 : 4 ≤ sizeLine := sl_big (by omega)
  have z1 : 1 ≤ sizeLine := sl_big (by omega)
  have z0 : 0 ≤ sizeLine := Nat.zero_le _
  have ad : ∀ g, addW (.v (.str o)) (.v (.str [63])) g = some (.v (.str (o ++ [63]))) := fun g => by rw [DL.add_str, if_pos (sl_big (by simp; omega))]
  unfold tailS f19
  simp only [List.drop_succ_cons, List.drop_zero]
  refine Ok.ifF (h1 := g) (by simp [an, sa]) ?_
  refine Ok.ifF (h1 := g) (by simp [jt, lt, st]) ?_
  refine Ok.ifF (h1 := g) (by simp [a1', a2', s1]) ?_
  refine Ok.ifF (h1 := g) (by simp [bt, b2', s2]) ?_
  refine Ok.ifF (h1 := g) (by simp [pp, pg, ps]) ?_
  refine Ok.ifF (h1 := g) (by simp [po, lo, so]) ?_
  refine Ok.ifF (h1 := g) (by cases la <;> simp [an2, sm2]) ?_
  refine Ok.ifF (h1 := g) (by simp [-DL.add_str, ad, c1', c2', s3]) ?_
  refine Ok.ifF (h1 := g) (by simp [bn, sa, jn, sn, z4, z1]) ?_
  exact Ok.ret (w := .v (.bl true)) (h1 := g) (by simp [jt, lt, st]) (tr_ret g)
theorem law (ns : List Int) (hl : ns.length ≤ 63) : ∃ h, run F G 40 19 [.ro (ns.map .int)] [] = .ok (.v (.bl true)) h := by
  have main : Ok (run F G 40 19 [.ro (ns.map .int)] []) fun w _ => w = .v (.bl true) := by
    refine run_ok (fn := f19) rfl rfl ?_
    have eb : f19.body = .set (.nm 1) (.call 8 [(.var 0)]) :: .set (.nm 2) (.cmp .Eq (.call 9 [(.var 1), (.int 11)]) (.int 7)) :: .set (.nm 3) (.cmp .Eq (.call 9 [(.var 1), (.int 13)]) (.int 5)) :: .set (.nm 4) (.call 11 [(.var 1), (.var 2)]) :: .set (.nm 5) (.call 11 [(.var 1), (.bl false)]) :: .set (.nm 6) (.call 12 [(.var 1), (.var 2)]) :: .set (.nm 7) (.call 14 [(.var 1), (.var 3)]) ::
      .set (.nm 8) (.tup [(.int 1), (.tup [(.int 0)]), (.tup [(.int 0)]), (.b1 .tuple (.lc (.tup [(.int 0), (.var 9), (.int 0), (.int 1)]) (.nm 9) (.call 7 []) none [9]))]) :: tailS := rfl
    show Ok (sdns (run F G 39) G f19.body (S9 (some (.ro (ns.map .int))) none none none none none none none none none) []) Tr
    rw [eb]
    obtain ⟨g, e0, p⟩ := beg_ok (F := F) (G := G) (ib := 8) rfl 38 ns hl
    refine Ok.nx (σ' := S9 (some (.ro (ns.map .int))) (some (.obj 3)) none none none none none none none none) (h1 := g) (by simp [e0]) ?_
    obtain ⟨w1, g1, e1, s1, _, _⟩ := pk.at0 38 (m := 11) (by omega) (by omega) p
    refine Ok.nx (σ' := S9 (some (.ro (ns.map .int))) (some (.obj 3)) (some (.bl (decide (w1 = 7)))) none none none none none none none) (h1 := g1) (by simp [e1]) ?_
    obtain ⟨w2, g2, e2, s2, _, _⟩ := pk.at0 38 (m := 13) (by omega) (by omega) s1.dr
    refine Ok.nx (σ' := S9 (some (.ro (ns.map .int))) (some (.obj 3)) (some (.bl (decide (w1 = 7)))) (some (.bl (decide (w2 = 5)))) none none none none none none) (h1 := g2) (by simp [e2]) ?_
    generalize decide (w1 = 7) = wi
    generalize decide (w2 = 5) = la
    obtain ⟨t, g3, e3, s3, ht, _⟩ := text0 36 wi s2.dr
    refine Ok.nx (σ' := S9 (some (.ro (ns.map .int))) (some (.obj 3)) (some (.bl wi)) (some (.bl la)) (some (.str t)) none none none none none) (h1 := g3) (by simp [e3]) ?_
    obtain ⟨o, g4, e4, s4, ho⟩ := text0 36 false s3.dr
    refine Ok.nx (σ' := S9 (some (.ro (ns.map .int))) (some (.obj 3)) (some (.bl wi)) (some (.bl la)) (some (.str t)) (some (.str o)) none none none none) (h1 := g4) (by simp [e4]) ?_
    obtain ⟨w, g5, e5, s5, pa, rfl, hp⟩ := pattern_sp 35 wi g4 s4.dr
    refine Ok.nx (σ' := S9 (some (.ro (ns.map .int))) (some (.obj 3)) (some (.bl wi)) (some (.bl la)) (some (.str t)) (some (.str o)) (some (.str pa)) none none none) (h1 := g5) (by simp [e5]) ?_
    obtain ⟨w, g6, e6, s6, m, rfl, hm⟩ := machine_sp 36 la g5 s5.dr
    refine Ok.nx (σ' := S9 (some (.ro (ns.map .int))) (some (.obj 3)) (some (.bl wi)) (some (.bl la)) (some (.str t)) (some (.str o)) (some (.str pa)) (some m.d) none none) (h1 := g6) (by simp [e6]) ?_
    have z4 : 4 ≤ sizeLine := sl_big (by omega)
    have z1 : 1 ≤ sizeLine := sl_big (by omega)
    have lc := lc_m2 (C := run F G 39) (G := G) (j := 9) (it := .call 7 []) (elt := .tup [(.int 0), (.var 9), (.int 0), (.int 1)]) (σ := S9 (some (.ro (ns.map .int))) (some (.obj 3)) (some (.bl wi)) (some (.bl la)) (some (.str t)) (some (.str o)) (some (.str pa)) (some m.d) none none) (g0 := g6) (g := g6) (s := .fx (sgn.map fun c => .str [c])) (xs := sgn) (m := fun c => .str [c]) (y := fun c => Mv.d (Mv.mk 0 [c] 0 1)) (by simp [signs, W.src]) (.fx _) trivial (sl_big (by decide)) (fun x _ => by simp [z4, Mv.d])
    have e : sgn.map (fun c => Mv.d (Mv.mk 0 [c] 0 1)) = (sg 0 0 1).map Mv.d := by unfold sg; rw [List.map_map]; rfl
    rw [e] at lc
    refine Ok.nx (σ' := S9 (some (.ro (ns.map .int))) (some (.obj 3)) (some (.bl wi)) (some (.bl la)) (some (.str t)) (some (.str o)) (some (.str pa)) (some m.d) (some anyM.d) none) (h1 := g6) (by simp [lc, z4, z1]; rfl) ?_
    exact tail_ok (by cases wi <;> simp at ht <;> omega) (by simpa using ho) hp hm
  obtain ⟨w, h, e, rfl⟩ := main
  exact ⟨h, e⟩
end Wk26
open PySem PySem.W PyProof.Rows in
theorem PySem.Challenge.cw_wellbegun_k26_machines_made_holds : PySem.Challenge.rw_wellbegun_k26_machines_made.Holds := by
  w_on; o_law; k_head; (case hw => w_witness2)
  k_fill
  refine DL.law_walk (l := PySem.Challenge.rw_wellbegun_k26_machines_made) (F := Wk26.F) (G := Wk26.G) (k := 40) (f := 19) (x := "script") rfl rfl (fun w h Y => PySem.W.kIn_of Y) ⟨rfl, by decide, by decide⟩ ?F Wk26.law
  case F =>
    intro w mg fa h KX G hmg
    refine' Wk26.all_mk KX G hmg ?h0 ?l0 ?e0 ?k0 ?h1 ?l1 ?e1 ?k1 ?h2 ?l2 ?e2 ?k2 ?h3 ?l3 ?e3 ?k3 ?h4 ?l4 ?e4 ?k4 ?h5 ?l5 ?e5 ?k5 ?h6 ?l6 ?e6 ?k6 ?h7 ?l7 ?e7 ?k7 ?h8 ?l8 ?e8 ?k8 ?h9 ?l9 ?e9 ?k9 ?h10 ?l10 ?e10 ?k10 ?h11 ?l11 ?e11 ?k11 ?h12 ?l12 ?e12 ?k12 ?h13 ?l13 ?e13 ?k13 ?h14 ?l14 ?e14 ?k14 ?h15 ?l15 ?e15 ?k15 ?h16 ?l16 ?e16 ?k16 ?h17 ?l17 ?e17 ?k17 ?h18 ?l18 ?e18 ?k18 ?h19 ?l19 ?e19 ?k19 ?z0 ?z1 ?z2 ?z3 ?z4 ?z5 ?z6 ?z7 ?z8 ?z9 ?y0 ?yr0
    (case h0 => k_is)
    (case l0 => k_is)
    (case e0 => k_is)
    (case k0 => k_is)
    (case h1 => k_is)
    (case l1 => k_is)
    (case e1 => k_is)
    (case k1 => k_is)
    (case h2 => k_is)
    (case l2 => k_is)
    (case e2 => k_is)
    (case k2 => k_is)
    (case h3 => k_is)
    (case l3 => k_is)
    (case e3 => k_is)
    (case k3 => k_is)
    (case h4 => k_is)
    (case l4 => k_is)
    (case e4 => k_is)
    (case k4 => k_is)
    (case h5 => k_is)
    (case l5 => k_is)
    (case e5 => k_is)
    (case k5 => k_is)
    (case h6 => k_is)
    (case l6 => k_is)
    (case e6 => k_is)
    (case k6 => k_is)
    (case h7 => k_is)
    (case l7 => k_is)
    (case e7 => k_is)
    (case k7 => k_is)
    (case h8 => k_is)
    (case l8 => k_is)
    (case e8 => k_is)
    (case k8 => k_is)
    (case h9 => k_is)
    (case l9 => k_is)
    (case e9 => k_is)
    (case k9 => k_is)
    (case h10 => k_is)
    (case l10 => k_is)
    (case e10 => k_is)
    (case k10 => k_is)
    (case h11 => k_is)
    (case l11 => k_is)
    (case e11 => k_is)
    (case k11 => k_is)
    (case h12 => k_is)
    (case l12 => k_is)
    (case e12 => k_is)
    (case k12 => k_is)
    (case h13 => k_is)
    (case l13 => k_is)
    (case e13 => k_is)
    (case k13 => k_is)
    (case h14 => k_is)
    (case l14 => k_is)
    (case e14 => k_is)
    (case k14 => k_is)
    (case h15 => k_is)
    (case l15 => k_is)
    (case e15 => k_is)
    (case k15 => k_is)
    (case h16 => k_is)
    (case l16 => k_is)
    (case e16 => k_is)
    (case k16 => k_is)
    (case h17 => k_is)
    (case l17 => k_is)
    (case e17 => k_is)
    (case k17 => k_is)
    (case h18 => k_is)
    (case l18 => k_is)
    (case e18 => k_is)
    (case k18 => k_is)
    (case h19 => k_is)
    (case l19 => k_is)
    (case e19 => k_is)
    (case k19 => k_is)
    (case z0 => k_is)
    (case z1 => k_is)
    (case z2 => k_is)
    (case z3 => k_is)
    (case z4 => k_is)
    (case z5 => k_is)
    (case z6 => k_is)
    (case z7 => k_is)
    (case z8 => k_is)
    (case z9 => k_is)
    (case y0 => k_is)
    (case yr0 => exact ⟨_, rfl⟩)
