import PyProof.Rows.All
import HandS.ForMost
import HandS.Flow
import HandS.Style
import HandS.Deep
import HandS.Wide
import HandS.TupAny
import HandS.TupMul
import HandS.IsInst
import HandS.Conv
import HandS.Codes
import PyProof.StrOps2
import HandS.SortInts
import HandS.SetKeys
import HandS.Rev
import HandS.Zip
import HandS.Words
import HandS.Ends
import PySem.Challenge.RW_wellbegun_k32_book_rows
set_option Elab.async false
set_option linter.all false
set_option maxRecDepth 100000
set_option maxHeartbeats 4000000
namespace DL
open PySem PySem.Spec PyProof.Rows L2

inductive D where
  | non | bl (b : Bool) | int (i : Int) | str (s : List Nat) | tup (xs : List D) | obj (n : Nat) | ro (xs : List D)
  deriving Inhabited
inductive W where
  | v (d : D) | l (xs : List D)
  deriving Inhabited
abbrev DK := Int ⊕ List Nat
inductive O where
  | lst (xs : List D) | dK (kvs : List (DK × D)) | dT (kvs : List (List DK × D)) | lkK (kvs : List (DK × D)) | lkT (kvs : List (List DK × D))
  deriving Inhabited
abbrev Hd := List O
abbrev mkS (s : List Nat) : Str := ⟨s.toArray⟩
def DK.key : DK → Key
  | .inl i => .inl i
  | .inr s => .inr (mkS s)
theorem mkS_inj {a b : List Nat} (h : mkS a = mkS b) : a = b := by
  have := congrArg (fun x : Str => x.cps.toList) h
  simpa using this
theorem DK.key_inj {a b : DK} (h : a.key = b.key) : a = b := by
  cases a <;> cases b <;> simp only [DK.key, Sum.inl.injEq, Sum.inr.injEq, reduceCtorEq] at h
  · rw [h]
  · rw [mkS_inj h]
theorem mkS_len (s : List Nat) : (mkS s).length = s.length := by
  show s.toArray.size = s.length
  simp
theorem mkS_of (x : Str) : mkS x.cps.toList = x := by
  cases x; simp [mkS]

variable (K : PySem.W.Frag)
def IsT (H : Hp) (a : Addr) (vs : List V) : Prop := SqT K H a vs
def IsRo (H : Hp) (a : Addr) (vs : List V) : Prop :=
  (∃ o, H a = some (.frz o (.lst vs))) ∨
    ∃ (o : Obj) (its : Array Value) (n : Nat), K.lookup a = some o ∧ o.cls = .type "list" ∧ o.dict = none ∧ o.data = .seq its n ∧ its.size ≤ sizeLine ∧ Vals vs its.toList
theorem IsRo.sq {K : PySem.W.Frag} {H : Hp} {a : Addr} {vs : List V} (h : IsRo K H a vs) : SqL K H a vs := by
  rcases h with h | h
  · exact .inl (.inr h)
  · exact .inr h
mutual
def RelD (α : List Addr) (H : Hp) : D → V → Prop
  | .non, v => v = .non
  | .bl b, v => v = .bl b
  | .int i, v => v = .int i
  | .str s, v => v = .str (mkS s)
  | .tup xs, v => ∃ a vs, v = .ref a ∧ H a = some (.tup vs) ∧ RelDs α H xs vs
  | .obj n, v => ∃ a, α[n]? = some a ∧ v = .ref a
  | .ro xs, v => ∃ a vs, v = .ref a ∧ IsRo K H a vs ∧ RelDs α H xs vs
def RelDs (α : List Addr) (H : Hp) : List D → List V → Prop
  | [], vs => vs = []
  | d :: ds, vs => ∃ v vr, vs = v :: vr ∧ RelD α H d v ∧ RelDs α H ds vr
end
def RelKK (α : List Addr) (H : Hp) : List (DK × D) → List (Key × V) → Prop
  | [], l => l = []
  | (k, d) :: r, l => ∃ v lr, l = (k.key, v) :: lr ∧ RelD K α H d v ∧ RelKK α H r lr
def RelKT (α : List Addr) (H : Hp) : List (List DK × D) → List (List Key × V) → Prop
  | [], l => l = []
  | (k, d) :: r, l => ∃ v lr, l = (k.map DK.key, v) :: lr ∧ RelD K α H d v ∧ RelKT α H r lr
def RelO (α : List Addr) (H : Hp) (a : Addr) : O → Prop
  | .lst xs => ∃ vs, H a = some (.lst vs) ∧ RelDs K α H xs vs
  | .dK kvs => ∃ l, H a = some (.dK l) ∧ RelKK K α H kvs l
  | .dT kvs => ∃ l, H a = some (.dT l) ∧ RelKT K α H kvs l
  | .lkK kvs => ∃ o l, H a = some (.frz o (.dK l)) ∧ RelKK K α H kvs l
  | .lkT kvs => ∃ o l, H a = some (.frz o (.dT l)) ∧ RelKT K α H kvs l
structure Rl (α : List Addr) (hd : Hd) (H : Hp) : Prop where
  len : α.length = hd.length
  nd : α.Nodup
  ob : ∀ (n : Nat) (o : O) (a : Addr), hd[n]? = some o → α[n]? = some a → RelO K α H a o
structure Gr (α : List Addr) (H : Hp) (α' : List Addr) (H' : Hp) : Prop where
  pre : ∃ β, α' = α ++ β ∧ ∀ a ∈ β, H a = none ∧ a ∉ α
  fr : ∀ a o, H a = some o → a ∉ α → H' a = some o
  fz : ∀ a o u, H a = some (.frz o u) → H' a = some (.frz o u)
def noFz : HO → Bool
  | .frz _ _ => false
  | _ => true

variable {K}
variable {α α' α'' : List Addr} {H H' H'' : Hp} {hd hd' : Hd} {a p : Addr}
theorem Gr.refl (α : List Addr) (H : Hp) : Gr α H α H := ⟨⟨[], by simp, by simp⟩, fun _ _ h _ => h, fun _ _ _ h => h⟩
theorem Gr.trans (g : Gr α H α' H') (g' : Gr α' H' α'' H'') : Gr α H α'' H'' := by
  obtain ⟨β, rfl, hβ⟩ := g.pre
  obtain ⟨γ, rfl, hγ⟩ := g'.pre
  refine ⟨⟨β ++ γ, by simp, fun a ha => ?_⟩, fun a o h n => ?_, fun a o u h => g'.fz a o u (g.fz a o u h)⟩
  · rcases List.mem_append.mp ha with h | h
    · exact hβ a h
    · obtain ⟨h1, h2⟩ := hγ a h
      have h3 : a ∉ α := fun z => h2 (List.mem_append_left _ z)
      refine ⟨?_, h3⟩
      cases e : H a with
      | none => rfl
      | some o =>
        rw [g.fr a o e h3] at h1
        cases h1
  · refine g'.fr a o (g.fr a o h n) fun hm => ?_
    rcases List.mem_append.mp hm with z | z
    · exact n z
    · rw [(hβ a z).1] at h; cases h
theorem Gr.get (g : Gr α H α' H') {n : Nat} (h : α[n]? = some a) : α'[n]? = some a := by
  obtain ⟨β, rfl, _⟩ := g.pre
  rw [List.getElem?_append_left (List.getElem?_eq_some_iff.mp h).1]
  exact h
theorem Gr.notin (g : Gr α H α' H') {o : HO} (h : H a = some o) (n : a ∉ α) : a ∉ α' := by
  obtain ⟨β, rfl, hβ⟩ := g.pre
  intro z
  rcases List.mem_append.mp z with z | z
  · exact n z
  · rw [(hβ a z).1] at h; cases h
theorem Rl.at (R : Rl K α hd H) (h : a ∈ α) : ∃ (n : Nat) (o : O), hd[n]? = some o ∧ α[n]? = some a ∧ RelO K α H a o := by
  obtain ⟨n, hn, e⟩ := List.getElem_of_mem h
  have h2 : n < hd.length := by rw [← R.len]; exact hn
  have e1 : α[n]? = some a := by rw [List.getElem?_eq_getElem hn, e]
  exact ⟨n, hd[n], List.getElem?_eq_getElem h2, e1, R.ob n _ a (List.getElem?_eq_getElem h2) e1⟩
def MutH : HO → Prop
  | .lst _ => True
  | .dK _ => True
  | .dT _ => True
  | .frz _ (.dK _) => True
  | .frz _ (.dT _) => True
  | _ => False
theorem RelO.mut {o : O} (h : RelO K α H a o) : ∃ u, H a = some u ∧ MutH u := by
  cases o with
  | lst xs => obtain ⟨vs, e, _⟩ := h; exact ⟨_, e, trivial⟩
  | dK kvs => obtain ⟨vs, e, _⟩ := h; exact ⟨_, e, trivial⟩
  | dT kvs => obtain ⟨vs, e, _⟩ := h; exact ⟨_, e, trivial⟩
  | lkK kvs => obtain ⟨o, vs, e, _⟩ := h; exact ⟨_, e, trivial⟩
  | lkT kvs => obtain ⟨o, vs, e, _⟩ := h; exact ⟨_, e, trivial⟩
theorem Rl.out (R : Rl K α hd H) {u : HO} (h : H a = some u) (n : ¬ MutH u) : a ∉ α := fun z => by
  obtain ⟨_, o, _, _, r⟩ := R.at z
  obtain ⟨v, e, m⟩ := r.mut
  rw [h] at e
  cases e
  exact n m
theorem sqT_gr (R : Rl K α hd H) (g : Gr α H α' H') {vs : List V} (h : H a = some (.tup vs)) : H' a = some (.tup vs) := g.fr a _ h (R.out h fun z => z)
theorem ro_gr (R : Rl K α hd H) (g : Gr α H α' H') {vs : List V} (h : IsRo K H a vs) : IsRo K H' a vs := by
  rcases h with ⟨o, h⟩ | h
  · exact .inl ⟨o, g.fr a _ h (R.out h fun z => z)⟩
  · exact .inr h
mutual
theorem RelD.mono (hp : ∀ (n : Nat) a, α[n]? = some a → α'[n]? = some a) (ht : ∀ a vs, H a = some (.tup vs) → H' a = some (.tup vs)) (hr : ∀ a vs, IsRo K H a vs → IsRo K H' a vs) : ∀ (d : D) (v : V), RelD K α H d v → RelD K α' H' d v
  | .non, v, h => h
  | .bl b, v, h => h
  | .int i, v, h => h
  | .str s, v, h => h
  | .tup xs, v, h => by
    obtain ⟨a, vs, e, q, hx⟩ := h
    exact ⟨a, vs, e, ht _ _ q, RelDs.mono hp ht hr xs vs hx⟩
  | .obj n, v, h => by
    obtain ⟨a, e, ev⟩ := h
    exact ⟨a, hp _ _ e, ev⟩
  | .ro xs, v, h => by
    obtain ⟨a, vs, e, q, hx⟩ := h
    exact ⟨a, vs, e, hr _ _ q, RelDs.mono hp ht hr xs vs hx⟩
theorem RelDs.mono (hp : ∀ (n : Nat) a, α[n]? = some a → α'[n]? = some a) (ht : ∀ a vs, H a = some (.tup vs) → H' a = some (.tup vs)) (hr : ∀ a vs, IsRo K H a vs → IsRo K H' a vs) : ∀ (ds : List D) (vs : List V), RelDs K α H ds vs → RelDs K α' H' ds vs
  | [], vs, h => h
  | d :: ds, vs, h => by
    obtain ⟨v, vr, e, h1, h2⟩ := h
    exact ⟨v, vr, e, RelD.mono hp ht hr d v h1, RelDs.mono hp ht hr ds vr h2⟩
end
theorem RelKK.mono (hp : ∀ (n : Nat) a, α[n]? = some a → α'[n]? = some a) (ht : ∀ a vs, H a = some (.tup vs) → H' a = some (.tup vs)) (hr : ∀ a vs, IsRo K H a vs → IsRo K H' a vs) : ∀ (l : List (DK × D)) (l' : List (Key × V)), RelKK K α H l l' → RelKK K α' H' l l'
  | [], _, h => h
  | (k, d) :: r, _, h => by
    obtain ⟨v, lr, e, h1, h2⟩ := h
    exact ⟨v, lr, e, RelD.mono hp ht hr d v h1, RelKK.mono hp ht hr r lr h2⟩
theorem RelKT.mono (hp : ∀ (n : Nat) a, α[n]? = some a → α'[n]? = some a) (ht : ∀ a vs, H a = some (.tup vs) → H' a = some (.tup vs)) (hr : ∀ a vs, IsRo K H a vs → IsRo K H' a vs) : ∀ (l : List (List DK × D)) (l' : List (List Key × V)), RelKT K α H l l' → RelKT K α' H' l l'
  | [], _, h => h
  | (k, d) :: r, _, h => by
    obtain ⟨v, lr, e, h1, h2⟩ := h
    exact ⟨v, lr, e, RelD.mono hp ht hr d v h1, RelKT.mono hp ht hr r lr h2⟩
theorem RelO.mono (hp : ∀ (n : Nat) a, α[n]? = some a → α'[n]? = some a) (ht : ∀ a vs, H a = some (.tup vs) → H' a = some (.tup vs)) (hr : ∀ a vs, IsRo K H a vs → IsRo K H' a vs) {o : O} (same : H' a = H a) (h : RelO K α H a o) : RelO K α' H' a o := by
  cases o with
  | lst xs => obtain ⟨vs, e, r⟩ := h; exact ⟨vs, same.trans e, RelDs.mono hp ht hr _ _ r⟩
  | dK kvs => obtain ⟨vs, e, r⟩ := h; exact ⟨vs, same.trans e, RelKK.mono hp ht hr _ _ r⟩
  | dT kvs => obtain ⟨vs, e, r⟩ := h; exact ⟨vs, same.trans e, RelKT.mono hp ht hr _ _ r⟩
  | lkK kvs => obtain ⟨o, vs, e, r⟩ := h; exact ⟨o, vs, same.trans e, RelKK.mono hp ht hr _ _ r⟩
  | lkT kvs => obtain ⟨o, vs, e, r⟩ := h; exact ⟨o, vs, same.trans e, RelKT.mono hp ht hr _ _ r⟩
theorem RelD.gr (R : Rl K α hd H) (g : Gr α H α' H') {d : D} {v : V} (h : RelD K α H d v) : RelD K α' H' d v := RelD.mono (fun _ _ e => g.get e) (fun _ _ q => sqT_gr R g q) (fun _ _ q => ro_gr R g q) d v h
theorem RelDs.gr (R : Rl K α hd H) (g : Gr α H α' H') {d : List D} {v : List V} (h : RelDs K α H d v) : RelDs K α' H' d v := RelDs.mono (fun _ _ e => g.get e) (fun _ _ q => sqT_gr R g q) (fun _ _ q => ro_gr R g q) d v h
theorem RelKK.gr (R : Rl K α hd H) (g : Gr α H α' H') {d : List (DK × D)} {v : List (Key × V)} (h : RelKK K α H d v) : RelKK K α' H' d v := RelKK.mono (fun _ _ e => g.get e) (fun _ _ q => sqT_gr R g q) (fun _ _ q => ro_gr R g q) d v h
theorem RelKT.gr (R : Rl K α hd H) (g : Gr α H α' H') {d : List (List DK × D)} {v : List (List Key × V)} (h : RelKT K α H d v) : RelKT K α' H' d v := RelKT.mono (fun _ _ e => g.get e) (fun _ _ q => sqT_gr R g q) (fun _ _ q => ro_gr R g q) d v h
theorem RelO.gr (R : Rl K α hd H) (g : Gr α H α' H') {o : O} (same : H' a = H a) (h : RelO K α H a o) : RelO K α' H' a o := RelO.mono (fun _ _ e => g.get e) (fun _ _ q => sqT_gr R g q) (fun _ _ q => ro_gr R g q) same h
def RelW (K : PySem.W.Frag) (α : List Addr) (H : Hp) : W → V → Prop
  | .v d, v => RelD K α H d v
  | .l xs, v => ∃ a vs, v = .ref a ∧ H a = some (.lst vs) ∧ a ∉ α ∧ RelDs K α H xs vs
theorem RelW.gr (R : Rl K α hd H) (g : Gr α H α' H') {d : W} {v : V} (h : RelW K α H d v) : RelW K α' H' d v := by
  cases d with
  | v d => exact RelD.gr R g h
  | l xs =>
    obtain ⟨a, vs, e, ht, hn, hx⟩ := h
    exact ⟨a, vs, e, g.fr a _ ht hn, g.notin ht hn, RelDs.gr R g hx⟩
def NewW (H : Hp) : W → V → Prop
  | .v _, _ => True
  | .l _, v => ∀ a, v = .ref a → H a = none
theorem Rl.ext (R : Rl K α hd H) (g : Gr α H α H') (same : ∀ a ∈ α, H' a = H a) : Rl K α hd H' :=
  ⟨R.len, R.nd, fun n o a h1 h2 => (R.ob n o a h1 h2).gr R g (same a (List.mem_of_getElem? h2))⟩
theorem Gr.upd (R : Rl K α hd H) (hp : H p = none) (o : HO) : Gr α H α (upd H p o) :=
  ⟨⟨[], by simp, by simp⟩, fun a u h _ => by rw [upd_ne (ne_of_none h hp)]; exact h, fun a _ u h => by rw [upd_ne (ne_of_none h hp)]; exact h⟩
theorem Rl.none_out (R : Rl K α hd H) (hp : H p = none) : p ∉ α := fun z => by
  obtain ⟨_, o, _, _, r⟩ := R.at z
  obtain ⟨v, e, _⟩ := r.mut
  rw [hp] at e
  cases e
theorem Rl.upd (R : Rl K α hd H) (hp : H p = none) (o : HO) : Rl K α hd (upd H p o) :=
  R.ext (Gr.upd R hp o) fun a ha => upd_ne fun e => R.none_out hp (e ▸ ha)
theorem pre_get {n : Nat} (h : α[n]? = some a) : (α ++ [p])[n]? = some a := by
  rw [List.getElem?_append_left (List.getElem?_eq_some_iff.mp h).1]
  exact h
theorem Rl.join (R : Rl K α hd H) (hn : p ∉ α) {o : O} (h : RelO K α H p o) : Rl K (α ++ [p]) (hd ++ [o]) H := by
  have mono : ∀ {b : Addr} {u : O}, RelO K α H b u → RelO K (α ++ [p]) H b u := fun r => r.mono (fun _ _ e => pre_get e) (fun _ _ q => q) (fun _ _ q => q) rfl
  refine ⟨by simp [R.len], ?_, fun n u b h1 h2 => ?_⟩
  · rw [List.nodup_append]
    exact ⟨R.nd, by simp, fun x hx y hy => by
      have : y = p := by simpa using hy
      rintro rfl
      exact hn (this ▸ hx)⟩
  · by_cases hlt : n < hd.length
    · rw [List.getElem?_append_left hlt] at h1
      rw [List.getElem?_append_left (by rw [R.len]; exact hlt)] at h2
      exact mono (R.ob n u b h1 h2)
    · have hle : hd.length ≤ n := Nat.le_of_not_lt hlt
      rw [List.getElem?_append_right hle] at h1
      rw [List.getElem?_append_right (by rw [R.len]; exact hle)] at h2
      rw [R.len] at h2
      have hz : n - hd.length = 0 := by
        cases e : n - hd.length with
        | zero => rfl
        | succ k => rw [e] at h1; simp at h1
      rw [hz] at h1 h2
      simp only [List.getElem?_cons_zero, Option.some.injEq] at h1 h2
      subst h1 h2
      exact mono h
theorem Rl.new (R : Rl K α hd H) (hp : H p = none) {o : O} {u : HO} (h : RelO K α (L2.upd H p u) p o) : Rl K (α ++ [p]) (hd ++ [o]) (L2.upd H p u) := (R.upd hp u).join (R.none_out hp) h
theorem Gr.new (R : Rl K α hd H) (hp : H p = none) (u : HO) : Gr α H (α ++ [p]) (L2.upd H p u) :=
  ⟨⟨[p], rfl, fun a ha => by
    have : a = p := by simpa using ha
    subst this
    exact ⟨hp, R.none_out hp⟩⟩, fun a v h _ => by rw [upd_ne (ne_of_none h hp)]; exact h, fun a _ u h => by rw [upd_ne (ne_of_none h hp)]; exact h⟩
theorem Gr.join (g : Gr α H α' H') (hp : H p = none) (hn : p ∉ α') : Gr α H (α' ++ [p]) H' := by
  obtain ⟨β, rfl, hβ⟩ := g.pre
  refine ⟨⟨β ++ [p], by simp, fun a ha => ?_⟩, g.fr, g.fz⟩
  rcases List.mem_append.mp ha with z | z
  · exact hβ a z
  · have : a = p := by simpa using z
    subst this
    exact ⟨hp, fun z => hn (List.mem_append_left _ z)⟩
theorem Gr.set {n : Nat} (hp : α[n]? = some p) {u0 : HO} (h0 : H p = some u0) (hf : noFz u0 = true) (u : HO) : Gr α H α (L2.upd H p u) :=
  ⟨⟨[], by simp, by simp⟩, fun a v h hn => by
    rw [upd_ne fun e => by subst e; exact hn (List.mem_of_getElem? hp)]
    exact h, fun a o w h => by
    rw [upd_ne fun e => by subst e; rw [h0] at h; cases h; cases hf]
    exact h⟩
theorem Rl.set (R : Rl K α hd H) {n : Nat} (hp : α[n]? = some p) {u0 : HO} (h0 : H p = some u0) (hf : noFz u0 = true) {o : O} {u : HO} (h : RelO K α (L2.upd H p u) p o) : Rl K α (hd.set n o) (L2.upd H p u) := by
  refine ⟨by rw [List.length_set]; exact R.len, R.nd, fun m w b h1 h2 => ?_⟩
  by_cases hm : m = n
  · subst hm
    rw [hp] at h2; cases h2
    have hl : m < hd.length := by rw [← R.len]; exact (List.getElem?_eq_some_iff.mp hp).1
    rw [List.getElem?_set_self hl] at h1
    cases h1
    exact h
  · rw [List.getElem?_set_ne (Ne.symm hm)] at h1
    have hb : b ≠ p := fun e => by
      subst e
      obtain ⟨l1, e1⟩ := List.getElem?_eq_some_iff.mp h2
      obtain ⟨l2, e2⟩ := List.getElem?_eq_some_iff.mp hp
      exact hm ((List.getElem_inj R.nd).mp (e1.trans e2.symm))
    exact (R.ob m w b h1 h2).gr R (Gr.set hp h0 hf u) (upd_ne hb)
theorem Rl.obj (R : Rl K α hd H) {n : Nat} {o : O} (h : hd[n]? = some o) : ∃ a, α[n]? = some a ∧ RelO K α H a o := by
  have hl : n < α.length := by rw [R.len]; exact (List.getElem?_eq_some_iff.mp h).1
  exact ⟨α[n], List.getElem?_eq_getElem hl, R.ob n o _ h (List.getElem?_eq_getElem hl)⟩
theorem cut_get {β : List Addr} {n : Nat} {b : Addr} (h0 : α[n]? = some b) (h : (α ++ β)[n]? = some a) : α[n]? = some a := by
  rw [List.getElem?_append_left (List.getElem?_eq_some_iff.mp h0).1] at h
  exact h
mutual
theorem RelD.cut {β : List Addr} : ∀ (d : D) (v0 v : V), RelD K α H d v0 → RelD K (α ++ β) H' d v → RelD K α H' d v
  | .non, v0, v, _, h => h
  | .bl b, v0, v, _, h => h
  | .int i, v0, v, _, h => h
  | .str s, v0, v, _, h => h
  | .tup xs, v0, v, h0, h => by
    obtain ⟨a, vs, e, q, hx⟩ := h
    obtain ⟨a0, vs0, e0, q0, hx0⟩ := h0
    exact ⟨a, vs, e, q, RelDs.cut xs vs0 vs hx0 hx⟩
  | .obj n, v0, v, h0, h => by
    obtain ⟨a, e, ev⟩ := h
    obtain ⟨a0, e0, ev0⟩ := h0
    exact ⟨a, cut_get e0 e, ev⟩
  | .ro xs, v0, v, h0, h => by
    obtain ⟨a, vs, e, q, hx⟩ := h
    obtain ⟨a0, vs0, e0, q0, hx0⟩ := h0
    exact ⟨a, vs, e, q, RelDs.cut xs vs0 vs hx0 hx⟩
theorem RelDs.cut {β : List Addr} : ∀ (ds : List D) (vs0 vs : List V), RelDs K α H ds vs0 → RelDs K (α ++ β) H' ds vs → RelDs K α H' ds vs
  | [], _, vs, _, h => h
  | d :: ds, vs0, vs, h0, h => by
    obtain ⟨v, vr, e, h1, h2⟩ := h
    obtain ⟨v0, vr0, e0, h10, h20⟩ := h0
    exact ⟨v, vr, e, RelD.cut d v0 v h10 h1, RelDs.cut ds vr0 vr h20 h2⟩
end
theorem RelKK.cut {β : List Addr} : ∀ (l : List (DK × D)) (l0 l' : List (Key × V)), RelKK K α H l l0 → RelKK K (α ++ β) H' l l' → RelKK K α H' l l'
  | [], _, _, _, h => h
  | (k, d) :: r, _, _, h0, h => by
    obtain ⟨v, lr, e, h1, h2⟩ := h
    obtain ⟨v0, lr0, e0, h10, h20⟩ := h0
    exact ⟨v, lr, e, RelD.cut d v0 v h10 h1, RelKK.cut r lr0 lr h20 h2⟩
theorem RelKT.cut {β : List Addr} : ∀ (l : List (List DK × D)) (l0 l' : List (List Key × V)), RelKT K α H l l0 → RelKT K (α ++ β) H' l l' → RelKT K α H' l l'
  | [], _, _, _, h => h
  | (k, d) :: r, _, _, h0, h => by
    obtain ⟨v, lr, e, h1, h2⟩ := h
    obtain ⟨v0, lr0, e0, h10, h20⟩ := h0
    exact ⟨v, lr, e, RelD.cut d v0 v h10 h1, RelKT.cut r lr0 lr h20 h2⟩
theorem RelO.cut {β : List Addr} {b : Addr} {o : O} (h0 : RelO K α H b o) (h : RelO K (α ++ β) H' a o) : RelO K α H' a o := by
  cases o with
  | lst xs => obtain ⟨vs, e, r⟩ := h; obtain ⟨vs0, e0, r0⟩ := h0; exact ⟨vs, e, RelDs.cut _ _ _ r0 r⟩
  | dK kvs => obtain ⟨vs, e, r⟩ := h; obtain ⟨vs0, e0, r0⟩ := h0; exact ⟨vs, e, RelKK.cut _ _ _ r0 r⟩
  | dT kvs => obtain ⟨vs, e, r⟩ := h; obtain ⟨vs0, e0, r0⟩ := h0; exact ⟨vs, e, RelKT.cut _ _ _ r0 r⟩
  | lkK kvs => obtain ⟨o, vs, e, r⟩ := h; obtain ⟨_, vs0, e0, r0⟩ := h0; exact ⟨o, vs, e, RelKK.cut _ _ _ r0 r⟩
  | lkT kvs => obtain ⟨o, vs, e, r⟩ := h; obtain ⟨_, vs0, e0, r0⟩ := h0; exact ⟨o, vs, e, RelKT.cut _ _ _ r0 r⟩
theorem Rl.take (R : Rl K α hd H) {β : List Addr} (R' : Rl K (α ++ β) hd' H') (e : hd'.take hd.length = hd) : Rl K α hd H' := by
  refine ⟨R.len, R.nd, fun n o a h1 h2 => ?_⟩
  refine (R.ob n o a h1 h2).cut (R'.ob n o a ?_ ?_)
  · rw [← e] at h1
    have hn : n < hd.length := by
      have := (List.getElem?_eq_some_iff.mp h2).1
      rw [R.len] at this
      exact this
    rw [List.getElem?_take_of_lt hn] at h1
    exact h1
  · exact List.getElem?_append_left (List.getElem?_eq_some_iff.mp h2).1 ▸ h2
mutual
def D.noObj : D → Bool
  | .tup xs => D.noObjs xs
  | .ro xs => D.noObjs xs
  | .obj _ => false
  | _ => true
def D.noObjs : List D → Bool
  | [] => true
  | d :: ds => d.noObj && D.noObjs ds
end
mutual
theorem RelD.any : ∀ (d : D) (v : V), d.noObj = true → RelD K α H d v → RelD K α' H d v
  | .non, v, _, h => h
  | .bl b, v, _, h => h
  | .int i, v, _, h => h
  | .str s, v, _, h => h
  | .tup xs, v, hn, h => by
    obtain ⟨a, vs, e, q, hx⟩ := h
    exact ⟨a, vs, e, q, RelDs.any xs vs hn hx⟩
  | .obj n, v, hn, h => by cases hn
  | .ro xs, v, hn, h => by
    obtain ⟨a, vs, e, q, hx⟩ := h
    exact ⟨a, vs, e, q, RelDs.any xs vs hn hx⟩
theorem RelDs.any : ∀ (ds : List D) (vs : List V), D.noObjs ds = true → RelDs K α H ds vs → RelDs K α' H ds vs
  | [], vs, _, h => h
  | d :: ds, vs, hn, h => by
    obtain ⟨v, vr, e, h1, h2⟩ := h
    have hn' : (d.noObj && D.noObjs ds) = true := hn
    rw [Bool.and_eq_true] at hn'
    exact ⟨v, vr, e, RelD.any d v hn'.1 h1, RelDs.any ds vr hn'.2 h2⟩
end
end DL
namespace DL
open PySem PySem.Spec PyProof.Rows L2

inductive R (A : Type) where
  | ok (a : A) (h : Hd) | ex (c : Nat) (fs : List D) (h : Hd) | no
namespace R
def bind {A B : Type} (r : R A) (f : A → Hd → R B) : R B := match r with
  | ok a h => f a h
  | ex c fs h => ex c fs h
  | no => no
@[simp] theorem bind_ok {A B : Type} (a : A) (h : Hd) (f : A → Hd → R B) : (ok a h).bind f = f a h := rfl
@[simp] theorem bind_ex {A B : Type} (c : Nat) (fs : List D) (h : Hd) (f : A → Hd → R B) : (ex c fs h : R A).bind f = ex c fs h := rfl
@[simp] theorem bind_no {A B : Type} (f : A → Hd → R B) : (no : R A).bind f = no := rfl
def ofO {A : Type} (o : Option A) (h : Hd) : R A := match o with
  | some a => ok a h
  | none => no
@[simp] theorem ofO_some {A : Type} (a : A) (h : Hd) : ofO (some a) h = ok a h := rfl
@[simp] theorem ofO_none {A : Type} (h : Hd) : (ofO none h : R A) = no := rfl
end R
abbrev Sd := List (Option D)
abbrev FV := Sd → Hd → R W
abbrev FD := Sd → Hd → R D
abbrev FL := Sd → Hd → R (List D)
abbrev FB := Sd → Hd → R Bool

def D.items (h : Hd) : D → Option (List D)
  | .obj n => match h[n]? with
    | some (.lst xs) => some xs
    | _ => none
  | .ro xs => some xs
  | _ => none
def W.items (h : Hd) : W → Option (List D)
  | .l xs => some xs
  | .v d => d.items h
def W.lst (h : Hd) : W → Option (List D)
  | .l xs => some xs
  | .v (.obj n) => match h[n]? with
    | some (.lst xs) => some xs
    | _ => none
  | _ => none
def W.seq (h : Hd) : W → Option (List D)
  | .l xs => some xs
  | .v (.tup xs) => some xs
  | .v d => d.items h
def W.settle (w : W) (h : Hd) : R D := match w with
  | .v d => .ok d h
  | .l xs => .ok (.obj h.length) (h ++ [.lst xs])
@[simp] theorem settle_v (d : D) (h : Hd) : (W.v d).settle h = .ok d h := rfl
@[simp] theorem settle_l (xs : List D) (h : Hd) : (W.l xs).settle h = .ok (.obj h.length) (h ++ [.lst xs]) := rfl
def D.fl : D → Option V
  | .non => some .non
  | .bl b => some (.bl b)
  | .int i => some (.int i)
  | .str s => some (.str (mkS s))
  | _ => none
def D.key? : D → Option DK
  | .int i => some (.inl i)
  | .str s => some (.inr s)
  | _ => none
def D.keys? : List D → Option (List DK)
  | [] => some []
  | d :: ds => match d.key?, D.keys? ds with
    | some k, some ks => some (k :: ks)
    | _, _ => none
mutual
def D.py : D → Option PyData
  | .non => some .none
  | .bl b => some (.bool b)
  | .int i => some (.int i)
  | .str s => some (.str (mkS s))
  | .tup xs => (D.pys xs).map .tuple
  | .ro xs => (D.pys xs).map .list
  | .obj _ => none
def D.pys : List D → Option (List PyData)
  | [] => some []
  | d :: ds => match d.py, D.pys ds with
    | some p, some ps => some (p :: ps)
    | _, _ => none
end
def W.py (h : Hd) : W → Option PyData
  | .l xs => (D.pys xs).map .list
  | .v (.obj n) => match h[n]? with
    | some (.lst xs) => (D.pys xs).map .list
    | _ => none
  | .v d => d.py
def W.truth (h : Hd) : W → Option Bool
  | .l xs => some !xs.isEmpty
  | .v .non => some false
  | .v (.bl b) => some b
  | .v (.int i) => some (i != 0)
  | .v (.str s) => if s.length ≤ sizeLine then some (!s.isEmpty) else none
  | .v (.tup xs) => some !xs.isEmpty
  | .v (.ro xs) => some !xs.isEmpty
  | .v (.obj n) => match h[n]? with
    | some (.lst xs) => some !xs.isEmpty
    | some (.dK kvs) => some !kvs.isEmpty
    | _ => none

def wide (i : Int) : Bool := decide (-(2 ^ 64) < i) && decide (i < 2 ^ 64)
def addW (x y : W) (h : Hd) : Option W :=
  match x, y with
  | .v (.int i), .v (.int j) => some (.v (.int (i + j)))
  | .v (.str s), .v (.str t) => if s.length + t.length ≤ sizeLine then some (.v (.str (s ++ t))) else none
  | .v (.tup s), .v (.tup t) => if s.length + t.length ≤ sizeLine then some (.v (.tup (s ++ t))) else none
  | x, y => match x.lst h, y.lst h with
    | some s, some t => if s.length + t.length ≤ sizeLine then some (.l (s ++ t)) else none
    | _, _ => none
def mulW (x y : W) (h : Hd) : Option W :=
  match x, y with
  | .v (.int i), .v (.int j) => if wide i || wide j then some (.v (.int (i * j))) else none
  | .v (.tup xs), .v (.int k) => if -(2 ^ 63) ≤ k ∧ k ≤ 1000 ∧ xs.length ≤ 1000 then some (.v (.tup (List.replicate k.toNat xs).flatten)) else none
  | .v (.str xs), .v (.int k) => if -(2 ^ 63) ≤ k ∧ k ≤ 4096 ∧ xs.length ≤ 4096 then some (.v (.str (List.replicate k.toNat xs).flatten)) else none
  | x, .v (.int k) => match x.lst h with
    | some xs => if -(2 ^ 63) ≤ k ∧ k < 2 ^ 63 ∧ xs.length * k.toNat ≤ sizeLine then some (.l (List.replicate k.toNat xs).flatten) else none
    | none => none
  | _, _ => none
def intOp (op : Operator) (i j : Int) : Option Int :=
  match op with
  | .Sub => some (i - j)
  | .FloorDiv => if 0 < j ∧ j < 2 ^ 64 then some (i / j) else none
  | .Mod => if 0 < j then some (i % j) else none
  | .Pow => if 0 ≤ j ∧ j ≤ 1000000 ∧ i.natAbs < 2 ^ 64 then some (i ^ j.toNat) else none
  | .RShift => if 0 ≤ j then some (i / 2 ^ j.toNat) else none
  | .LShift => if 0 ≤ j ∧ j ≤ 1000000 ∧ i.natAbs < 2 ^ 64 then some (i * 2 ^ j.toNat) else none
  | .BitXor => some (Builtin.bitXor i j)
  | .BitAnd => some (Builtin.bitAnd i j)
  | .BitOr => some (Builtin.bitOr i j)
  | _ => none
def binop (op : Operator) (x y : W) (h : Hd) : Option W :=
  match op with
  | .Add => addW x y h
  | .Mult => mulW x y h
  | op => match x, y with
    | .v (.int i), .v (.int j) => (intOp op i j).map fun k => .v (.int k)
    | _, _ => none
def unop (op : UnaryOp) (x : W) : Option W := match op, x with
  | .USub, .v (.int i) => some (.v (.int (-i)))
  | _, _ => none
def eqW (x y : W) (h : Hd) : Option Bool :=
  match x, y with
  | .v (.int i), .v (.int j) => some (decide (i = j))
  | .v (.str s), .v (.str t) => some (decide (s = t))
  | .v (.bl a), .v (.bl b) => some (decide (a = b))
  | x, y => match x.py h, y.py h with
    | some p, some q => if p.canLay0 = true ∧ q.canLay0 = true ∧ p.depth ≤ 128 then some (PyData.eqv p q) else none
    | _, _ => none
def memF (x : V) : List D → Option Bool
  | [] => some false
  | d :: ds => match d.fl, memF x ds with
    | some y, some b => some (eqV y x || b)
    | _, _ => none
def valK {κ : Type} [DecidableEq κ] (kvs : List (κ × D)) (k : κ) : Option D := (kvs.find? fun kv => decide (kv.1 = k)).map (·.2)
def putK {κ : Type} [DecidableEq κ] (kvs : List (κ × D)) (k : κ) (v : D) : List (κ × D) :=
  if (kvs.any fun kv => decide (kv.1 = k)) then kvs.map (fun kv => if kv.1 = k then (kv.1, v) else kv) else kvs ++ [(k, v)]
def O.look (o : O) (d : D) : Option (Option D) := match o with
  | .dK kvs => (d.key?).map fun k => valK kvs k
  | .lkK kvs => (d.key?).map fun k => valK kvs k
  | .dT kvs => match d with
    | .tup ds => (D.keys? ds).map fun k => valK kvs k
    | _ => none
  | .lkT kvs => match d with
    | .tup ds => (D.keys? ds).map fun k => valK kvs k
    | _ => none
  | .lst _ => none
def inW (x y : W) (h : Hd) : Option Bool :=
  match x, y with
  | .v (.str s), .v (.str t) => match s with
    | [c] => some (decide (c ∈ t))
    | _ => some (!(Builtin.Str.occurrences (mkS t) (mkS s) 0 t.length 1).isEmpty)
  | .v d, .v (.obj n) => match h[n]? with
    | some (.lst xs) => match d.fl with
      | some x => memF x xs
      | none => none
    | some o => (o.look d).map (·.isSome)
    | none => none
  | .v d, y => match d.fl, y.seq h with
    | some x, some xs => memF x xs
    | _, _ => none
  | _, _ => none
def ordW (f : Int → Int → Bool) (g : List Nat → List Nat → Bool) (x y : W) : Option Bool := match x, y with
  | .v (.int i), .v (.int j) => some (f i j)
  | .v (.str s), .v (.str t) => some (g s t)
  | _, _ => none
def D.isN : D → Bool
  | .non => true
  | _ => false
def cmpW (op : CmpOp) (x y : W) (h : Hd) : Option Bool :=
  match op with
  | .Eq => eqW x y h
  | .NotEq => (eqW x y h).map (!·)
  | .Lt => ordW (fun i j => decide (i < j)) (fun s t => decide (s < t)) x y
  | .LtE => ordW (fun i j => decide (i ≤ j)) (fun s t => !decide (t < s)) x y
  | .Gt => ordW (fun i j => decide (j < i)) (fun s t => decide (t < s)) x y
  | .GtE => ordW (fun i j => decide (j ≤ i)) (fun s t => !decide (s < t)) x y
  | .Is => match x, y with
    | .v d, .v .non => some d.isN
    | .v (.bl a), .v (.bl b) => some (decide (a = b))
    | .l _, .v .non => some false
    | _, _ => none
  | .IsNot => match x, y with
    | .v d, .v .non => some (!d.isN)
    | .v (.bl a), .v (.bl b) => some (!decide (a = b))
    | .l _, .v .non => some true
    | _, _ => none
  | .In => inW x y h
  | .NotIn => (inW x y h).map (!·)

def getIx (x y : W) (h : Hd) : Option W :=
  match x, y with
  | .v (.str s), .v (.int i) => if s.length ≤ sizeLine then (atI s i).map fun c => .v (.str [c]) else none
  | .v (.tup xs), .v (.int i) => (atI xs i).map .v
  | .v (.obj n), .v d => match h[n]? with
    | some (.lst xs) => match d with
      | .int i => (atI xs i).map .v
      | _ => none
    | some o => match o.look d with
      | some (some v) => some (.v v)
      | _ => none
    | none => none
  | x, .v (.int i) => match x.items h with
    | some xs => (atI xs i).map .v
    | none => none
  | _, _ => none
def cutL {α : Type} (xs : List α) (lo hi : Option Int) : List α := (xs.drop (HT.sIx xs.length 0 lo)).take (HT.sIx xs.length xs.length hi - HT.sIx xs.length 0 lo)
def getSl (x : W) (lo hi : Option Int) (h : Hd) : Option W :=
  match x with
  | .v (.str s) => if s.length ≤ sizeLine then some (.v (.str (cutL s lo hi))) else none
  | .v (.tup xs) => some (.v (.tup (cutL xs lo hi)))
  | x => (x.items h).map fun xs => .l (cutL xs lo hi)
def revSl (x : W) (h : Hd) : Option W := (x.items h).map fun xs => .l xs.reverse

inductive B1 where
  | len | abs | int | str | tuple | list | sum | sorted | bool | ord | chr | any | all
  deriving DecidableEq
def intsOf : List D → Option (List Int)
  | [] => some []
  | .int i :: r => (intsOf r).map (i :: ·)
  | _ :: _ => none
def strsOf : List D → Option (List (List Nat))
  | [] => some []
  | .str s :: r => (strsOf r).map (s :: ·)
  | _ :: _ => none
def blsOf : List D → Option (List Bool)
  | [] => some []
  | .bl s :: r => (blsOf r).map (s :: ·)
  | _ :: _ => none
def ltDs : List D → List D → Bool
  | [], [] => false
  | [], _ :: _ => true
  | _ :: _, [] => false
  | .int i :: xs, .int j :: ys => if i = j then ltDs xs ys else decide (i < j)
  | .str s :: xs, .str t :: ys => if s = t then ltDs xs ys else decide (s < t)
  | _ :: _, _ :: _ => false
def ltD : D → D → Bool
  | .int i, .int j => decide (i < j)
  | .str s, .str t => decide (s < t)
  | .tup xs, .tup ys => ltDs xs ys
  | _, _ => false
def shapeDs : List D → Option (List Bool)
  | [] => some []
  | .int _ :: r => (shapeDs r).map (true :: ·)
  | .str _ :: r => (shapeDs r).map (false :: ·)
  | _ :: _ => none
def shapeD : D → Option (Option (List Bool))
  | .int _ => some (some [])
  | .str _ => some none
  | .tup xs => if xs = [] then none else (shapeDs xs).map fun s => some (true :: s)
  | _ => none
def insD (x : D) : List D → List D
  | [] => [x]
  | y :: ys => if ltD x y then x :: y :: ys else y :: insD x ys
def sortD (xs : List D) : List D := xs.foldl (fun acc x => insD x acc) []
def oneShape (xs : List D) : Bool := match xs with
  | [] => true
  | x :: r => match shapeD x with
    | none => false
    | some s => r.all fun y => decide (shapeD y = some s)
def sortI (ns : List Int) : List Int := ns.mergeSort fun a b => decide (a ≤ b)
def sortS (ns : List (List Nat)) : List (List Nat) := ns.mergeSort fun a b => !decide (b < a)
def bl1 (b : B1) (x : W) (h : Hd) : Option W :=
  match b with
  | .len => match x with
    | .v (.str s) => if s.length ≤ sizeLine then some (.v (.int s.length)) else none
    | .v (.obj n) => match h[n]? with
      | some (.lst xs) => some (.v (.int xs.length))
      | some (.dK kvs) => some (.v (.int kvs.length))
      | _ => none
    | x => (x.seq h).map fun xs => .v (.int xs.length)
  | .abs => match x with
    | .v (.int i) => some (.v (.int i.natAbs))
    | _ => none
  | .int => match x with
    | .v (.int i) => some (.v (.int i))
    | _ => none
  | .str => match x with
    | .v (.int i) => if i.natAbs.log2 < 1920 then some (.v (.str (Str.ofString (toString i)).cps.toList)) else none
    | _ => none
  | .tuple => (x.seq h).map fun xs => .v (.tup xs)
  | .list => (x.seq h).map fun xs => .l xs
  | .sum => match x.items h with
    | some xs => (intsOf xs).map fun ns => .v (.int ns.sum)
    | none => none
  | .sorted => match x.items h with
    | some xs => match intsOf xs with
      | some ns => some (.l ((sortI ns).map .int))
      | none => match strsOf xs with
        | some ss => if ss.length < 64 then some (.l ((sortS ss).map .str)) else none
        | none => none
    | none => none
  | .any => match x.items h with
    | some xs => (blsOf xs).map fun ns => .v (.bl (ns.any id))
    | none => none
  | .all => match x.items h with
    | some xs => (blsOf xs).map fun ns => .v (.bl (ns.all id))
    | none => none
  | _ => none
inductive B2 where
  | max | min
  deriving DecidableEq
def bl2 (b : B2) (x y : W) : Option W :=
  match b, x, y with
  | .max, .v (.int i), .v (.int j) => some (.v (.int (if j > i then j else i)))
  | .min, .v (.int i), .v (.int j) => some (.v (.int (if j < i then j else i)))
  | _, _, _ => none
inductive Ty where
  | int | str | tuple | list | bool | dict
  deriving DecidableEq
def Ty.nm : Ty → String
  | .int => "int" | .str => "str" | .tuple => "tuple" | .list => "list" | .bool => "bool" | .dict => "dict"
def isTy (t : Ty) (x : W) (h : Hd) : Option Bool :=
  match x with
  | .l _ => some (t == .list)
  | .v .non => some false
  | .v (.bl _) => some (t == .bool || t == .int)
  | .v (.int _) => some (t == .int)
  | .v (.str _) => some (t == .str)
  | .v (.tup _) => some (t == .tuple)
  | .v (.ro _) => some (t == .list)
  | .v (.obj n) => match h[n]? with
    | some (.lst _) => some (t == .list)
    | some (.dK _) => some (t == .dict)
    | some (.dT _) => some (t == .dict)
    | _ => none

inductive M0 where
  | pop | reverse | clear
  deriving DecidableEq
inductive M1 where
  | append | extend | pop | get | join | count | index
  deriving DecidableEq
inductive M2 where
  | get | setdefault | replace
  deriving DecidableEq
def mt0 (m : M0) (o : W) (h : Hd) : R W :=
  match m, o with
  | .pop, .v (.obj n) => match h[n]? with
    | some (.lst xs) => match xs[xs.length - 1]? with
      | some y => .ok (.v y) (h.set n (.lst xs.dropLast))
      | none => .no
    | _ => .no
  | .reverse, .v (.obj n) => match h[n]? with
    | some (.lst xs) => .ok (.v .non) (h.set n (.lst xs.reverse))
    | _ => .no
  | .clear, .v (.obj n) => match h[n]? with
    | some (.lst _) => .ok (.v .non) (h.set n (.lst []))
    | _ => .no
  | _, _ => .no
def joinD (sep : List Nat) : List (List Nat) → List Nat
  | [] => []
  | [x] => x
  | x :: y :: r => x ++ sep ++ joinD sep (y :: r)
def cntW (x : W) (xs : List D) (h : Hd) : Option Int := match D.pys xs, x.py h with
  | some ps, some p => if PyData.canLayAll0 ps = true ∧ p.canLay0 = true ∧ p.depth ≤ 128 then some ((ps.countP fun z => PyData.eqv z p : Nat) : Int) else none
  | _, _ => none
def idxW (x : W) (xs : List D) (h : Hd) : Option Int := match D.pys xs, x.py h with
  | some ps, some p => if PyData.canLayAll0 ps = true ∧ p.canLay0 = true ∧ p.depth ≤ 128 ∧ (ps.any fun z => PyData.eqv z p) = true then some ((ps.findIdx fun z => PyData.eqv z p : Nat) : Int) else none
  | _, _ => none
def mt1 (m : M1) (o : W) (x : W) (h : Hd) : R W :=
  match m, o with
  | .append, .v (.obj n) => match h[n]? with
    | some (.lst xs) => match x with
      | .v d => if xs.length < sizeLine then .ok (.v .non) (h.set n (.lst (xs ++ [d]))) else .no
      | .l _ => .no
    | _ => .no
  | .extend, .v (.obj n) => match h[n]? with
    | some (.lst xs) => match x.lst h with
      | some ys => if xs.length + ys.length ≤ sizeLine then .ok (.v .non) (h.set n (.lst (xs ++ ys))) else .no
      | none => .no
    | _ => .no
  | .pop, .v (.obj n) => match h[n]? with
    | some (.lst xs) => match x with
      | .v (.int i) => if -(2 ^ 63) ≤ i ∧ i < 2 ^ 63 then (match seqIndex? i xs.length with
        | some k => match xs[k]? with
          | some y => .ok (.v y) (h.set n (.lst (xs.eraseIdx k)))
          | none => .no
        | none => .no) else .no
      | _ => .no
    | _ => .no
  | .get, .v (.obj n) => match h[n]?, x with
    | some o, .v d => match o.look d with
      | some r => .ok (.v (r.getD .non)) h
      | none => .no
    | _, _ => .no
  | .count, .v (.obj n) => match h[n]? with
    | some (.lst xs) => R.ofO ((cntW x xs h).map fun i => .v (.int i)) h
    | _ => .no
  | .index, .v (.obj n) => match h[n]? with
    | some (.lst xs) => R.ofO ((idxW x xs h).map fun i => .v (.int i)) h
    | _ => .no
  | .join, .v (.str sep) => match x.seq h with
    | some xs => match strsOf xs with
      | some ys => if (ys.map (·.length)).sum + ys.length * sep.length ≤ 16777216 then .ok (.v (.str (joinD sep ys))) h else .no
      | none => .no
    | none => .no
  | _, _ => .no
end DL
namespace DL
open PySem PySem.Spec PyProof.Rows L2

variable {K : PySem.W.Frag}
variable {α α' α'' α1 : List Addr} {H H' H'' H1 : Hp} {hd hd' hd1 : Hd} {a p : Addr}
structure RelS (K : PySem.W.Frag) (α : List Addr) (H : Hp) (σd : Sd) (σ : L2.St) : Prop where
  len : σd.length = σ.length
  ix : ∀ (i : Nat) (d : D), σd[i]? = some (some d) → ∃ v, σ[i]? = some (some v) ∧ RelD K α H d v
theorem RelS.gr {σd : Sd} {σ : L2.St} (S : RelS K α H σd σ) (R : Rl K α hd H) (g : Gr α H α' H') : RelS K α' H' σd σ :=
  ⟨S.len, fun i d e => let ⟨v, h1, h2⟩ := S.ix i d e; ⟨v, h1, h2.gr R g⟩⟩
theorem RelS.set {σd : Sd} {σ : L2.St} (S : RelS K α H σd σ) {d : D} {v : V} (h : RelD K α H d v) (i : Nat) : RelS K α H (σd.set i (some d)) (σ.set i (some v)) := by
  refine ⟨by simp [S.len], fun j e he => ?_⟩
  by_cases hj : j = i
  · subst hj
    by_cases hl : j < σd.length
    · rw [List.getElem?_set_self hl] at he
      cases he
      exact ⟨v, List.getElem?_set_self (by rw [← S.len]; exact hl), h⟩
    · rw [List.getElem?_eq_none (by simpa using hl)] at he
      cases he
  · rw [List.getElem?_set_ne (Ne.symm hj)] at he
    rw [List.getElem?_set_ne (Ne.symm hj)]
    exact S.ix j e he
theorem Gr.none (g : Gr α H α' H') (R' : Rl K α' hd' H') (h : H' a = none) : H a = none := by
  cases e : H a with
  | none => rfl
  | some o =>
    by_cases hm : a ∈ α
    · obtain ⟨β, rfl, _⟩ := g.pre
      exact absurd h (by
        obtain ⟨_, o', _, _, r⟩ := R'.at (List.mem_append_left β hm)
        obtain ⟨u, e', _⟩ := r.mut
        rw [e']
        exact fun z => nomatch z)
    · rw [g.fr a o e hm] at h
      cases h

def PoW (K : PySem.W.Frag) (α : List Addr) (H : Hp) (r : R W) (Q : V → Hp → Prop) : Prop := match r with
  | .ok w hd' => ∀ α' H' v, Gr α H α' H' → Rl K α' hd' H' → RelW K α' H' w v → NewW H w v → Q v H'
  | _ => False
def PoD (K : PySem.W.Frag) (α : List Addr) (H : Hp) (r : R D) (Q : V → Hp → Prop) : Prop := match r with
  | .ok w hd' => ∀ α' H' v, Gr α H α' H' → Rl K α' hd' H' → RelD K α' H' w v → Q v H'
  | _ => False
def PoL (K : PySem.W.Frag) (α : List Addr) (H : Hp) (r : R (List D)) (Q : List V → Hp → Prop) : Prop := match r with
  | .ok w hd' => ∀ α' H' v, Gr α H α' H' → Rl K α' hd' H' → RelDs K α' H' w v → Q v H'
  | _ => False
def PoB (K : PySem.W.Frag) (α : List Addr) (H : Hp) (r : R Bool) (Q : Bool → Hp → Prop) : Prop := match r with
  | .ok b hd' => ∀ α' H', Gr α H α' H' → Rl K α' hd' H' → Q b H'
  | _ => False
theorem NewW.back (g : Gr α H α1 H1) (R1 : Rl K α1 hd1 H1) {w : W} {v : V} (n : NewW H1 w v) : NewW H w v := by
  cases w with
  | v d => trivial
  | l xs => exact fun a e => g.none R1 (n a e)
theorem PoW.from {r : R W} {Q : V → Hp → Prop} (g : Gr α H α1 H1) (R1 : Rl K α1 hd1 H1) (h : PoW K α H r Q) : PoW K α1 H1 r Q := by
  cases r with
  | ok w hd' => exact fun α' H' v g' R' rw n => h α' H' v (g.trans g') R' rw (n.back g R1)
  | ex => exact h
  | no => exact h
theorem PoD.from {r : R D} {Q : V → Hp → Prop} (g : Gr α H α1 H1) (h : PoD K α H r Q) : PoD K α1 H1 r Q := by
  cases r with
  | ok w hd' => exact fun α' H' v g' R' rw => h α' H' v (g.trans g') R' rw
  | ex => exact h
  | no => exact h
theorem PoL.from {r : R (List D)} {Q : List V → Hp → Prop} (g : Gr α H α1 H1) (h : PoL K α H r Q) : PoL K α1 H1 r Q := by
  cases r with
  | ok w hd' => exact fun α' H' v g' R' rw => h α' H' v (g.trans g') R' rw
  | ex => exact h
  | no => exact h
theorem PoB.from {r : R Bool} {Q : Bool → Hp → Prop} (g : Gr α H α1 H1) (h : PoB K α H r Q) : PoB K α1 H1 r Q := by
  cases r with
  | ok w hd' => exact fun α' H' g' R' => h α' H' (g.trans g') R'
  | ex => exact h
  | no => exact h
theorem PoW.settled {w : W} {v : V} {Q : V → Hp → Prop} (g : Gr α H α' H') (R' : Rl K α' hd' H') (rw : RelW K α' H' w v) (n : NewW H w v)
    (h : PoD K α H (w.settle hd') Q) : Q v H' := by
  cases w with
  | v d => exact h α' H' v g R' rw
  | l xs =>
    obtain ⟨a, vs, e, ha, hn, hx⟩ := rw
    subst e
    refine h (α' ++ [a]) H' _ (g.join (n a rfl) hn) (R'.join hn ⟨vs, ha, hx⟩) ⟨a, ?_, rfl⟩
    rw [← R'.len]
    simp
def TV (K : PySem.W.Frag) (f : FV) : TE := fun σ H Q => ∃ α σd hd, Rl K α hd H ∧ RelS K α H σd σ ∧ PoW K α H (f σd hd) Q
def TD (K : PySem.W.Frag) (f : FD) : TE := fun σ H Q => ∃ α σd hd, Rl K α hd H ∧ RelS K α H σd σ ∧ PoD K α H (f σd hd) Q
def TL (K : PySem.W.Frag) (f : FL) : TA := fun σ H Q => ∃ α σd hd, Rl K α hd H ∧ RelS K α H σd σ ∧ PoL K α H (f σd hd) Q
def TB (K : PySem.W.Frag) (f : FB) : TT := fun σ H Q => ∃ α σd hd, Rl K α hd H ∧ RelS K α H σd σ ∧ PoB K α H (f σd hd) Q
theorem TV.seq {B : Type} {f : FV} {k : W → Hd → R B} {σd : Sd} {σ : L2.St} {C : V → Hp → Prop} (R : Rl K α hd H) (S : RelS K α H σd σ)
    (ok : ∃ b h, (f σd hd).bind k = .ok b h)
    (cont : ∀ x hd1 α1 H1 v1, (f σd hd).bind k = k x hd1 → Gr α H α1 H1 → Rl K α1 hd1 H1 → RelS K α1 H1 σd σ → RelW K α1 H1 x v1 → NewW H x v1 → C v1 H1) : TV K f σ H C := by
  refine ⟨α, σd, hd, R, S, ?_⟩
  cases e : f σd hd with
  | ok x hd1 => exact fun α1 H1 v1 g R1 r n => cont x hd1 α1 H1 v1 (by rw [e]; rfl) g R1 (S.gr R g) r n
  | ex c fs h => rw [e] at ok; obtain ⟨_, _, z⟩ := ok; cases z
  | no => rw [e] at ok; obtain ⟨_, _, z⟩ := ok; cases z
theorem PoW.ok {r : R W} {Q : V → Hp → Prop} (h : PoW K α H r Q) : ∃ b h, r = .ok b h := by
  cases r with
  | ok b h' => exact ⟨b, h', rfl⟩
  | _ => exact h.elim
theorem PoD.ok {r : R D} {Q : V → Hp → Prop} (h : PoD K α H r Q) : ∃ b h, r = .ok b h := by
  cases r with
  | ok b h' => exact ⟨b, h', rfl⟩
  | _ => exact h.elim
theorem PoL.ok {r : R (List D)} {Q : List V → Hp → Prop} (h : PoL K α H r Q) : ∃ b h, r = .ok b h := by
  cases r with
  | ok b h' => exact ⟨b, h', rfl⟩
  | _ => exact h.elim
theorem PoB.ok {r : R Bool} {Q : Bool → Hp → Prop} (h : PoB K α H r Q) : ∃ b h, r = .ok b h := by
  cases r with
  | ok b h' => exact ⟨b, h', rfl⟩
  | _ => exact h.elim
theorem TB.seq {B : Type} {f : FB} {k : Bool → Hd → R B} {σd : Sd} {σ : L2.St} {C : Bool → Hp → Prop} (R : Rl K α hd H) (S : RelS K α H σd σ)
    (ok : ∃ b h, (f σd hd).bind k = .ok b h)
    (cont : ∀ x hd1 α1 H1, (f σd hd).bind k = k x hd1 → Gr α H α1 H1 → Rl K α1 hd1 H1 → RelS K α1 H1 σd σ → C x H1) : TB K f σ H C := by
  refine ⟨α, σd, hd, R, S, ?_⟩
  cases e : f σd hd with
  | ok x hd1 => exact fun α1 H1 g R1 => cont x hd1 α1 H1 (by rw [e]; rfl) g R1 (S.gr R g)
  | ex c fs h => rw [e] at ok; obtain ⟨_, _, z⟩ := ok; cases z
  | no => rw [e] at ok; obtain ⟨_, _, z⟩ := ok; cases z
theorem TL.seq {B : Type} {f : FL} {k : List D → Hd → R B} {σd : Sd} {σ : L2.St} {C : List V → Hp → Prop} (R : Rl K α hd H) (S : RelS K α H σd σ)
    (ok : ∃ b h, (f σd hd).bind k = .ok b h)
    (cont : ∀ x hd1 α1 H1 v1, (f σd hd).bind k = k x hd1 → Gr α H α1 H1 → Rl K α1 hd1 H1 → RelS K α1 H1 σd σ → RelDs K α1 H1 x v1 → C v1 H1) : TL K f σ H C := by
  refine ⟨α, σd, hd, R, S, ?_⟩
  cases e : f σd hd with
  | ok x hd1 => exact fun α1 H1 v1 g R1 r => cont x hd1 α1 H1 v1 (by rw [e]; rfl) g R1 (S.gr R g) r
  | ex c fs h => rw [e] at ok; obtain ⟨_, _, z⟩ := ok; cases z
  | no => rw [e] at ok; obtain ⟨_, _, z⟩ := ok; cases z

theorem RelDs.length : ∀ {ds : List D} {vs : List V}, RelDs K α H ds vs → vs.length = ds.length
  | [], vs, h => by
    have e : vs = [] := h
    rw [e]; rfl
  | d :: ds, vs, h => by
    obtain ⟨v, vr, e, _, h2⟩ := h
    rw [e, List.length_cons, List.length_cons, RelDs.length h2]
theorem RelDs.get : ∀ {ds : List D} {vs : List V} {i : Nat} {d : D}, RelDs K α H ds vs → ds[i]? = some d → ∃ v, vs[i]? = some v ∧ RelD K α H d v
  | [], _, _, _, _, e => by simp at e
  | d :: ds, vs, 0, x, h, e => by
    obtain ⟨v, vr, rfl, h1, h2⟩ := h
    simp only [List.getElem?_cons_zero, Option.some.injEq] at e
    subst e
    exact ⟨v, rfl, h1⟩
  | d :: ds, vs, i + 1, x, h, e => by
    obtain ⟨v, vr, rfl, h1, h2⟩ := h
    simp only [List.getElem?_cons_succ] at e ⊢
    exact RelDs.get h2 e
theorem RelDs.append : ∀ {ds es : List D} {vs ws : List V}, RelDs K α H ds vs → RelDs K α H es ws → RelDs K α H (ds ++ es) (vs ++ ws)
  | [], es, vs, ws, h, h' => by
    have e : vs = [] := h
    rw [e]; exact h'
  | d :: ds, es, vs, ws, h, h' => by
    obtain ⟨v, vr, rfl, h1, h2⟩ := h
    exact ⟨v, vr ++ ws, rfl, h1, RelDs.append h2 h'⟩
theorem RelDs.take : ∀ {ds : List D} {vs : List V} (n : Nat), RelDs K α H ds vs → RelDs K α H (ds.take n) (vs.take n)
  | [], vs, n, h => by
    have e : vs = [] := h
    rw [e]; simp [RelDs]
  | d :: ds, vs, 0, h => by simp [RelDs]
  | d :: ds, vs, n + 1, h => by
    obtain ⟨v, vr, rfl, h1, h2⟩ := h
    exact ⟨v, vr.take n, rfl, h1, RelDs.take n h2⟩
theorem RelDs.drop : ∀ {ds : List D} {vs : List V} (n : Nat), RelDs K α H ds vs → RelDs K α H (ds.drop n) (vs.drop n)
  | [], vs, n, h => by
    have e : vs = [] := h
    rw [e]; simp [RelDs]
  | d :: ds, vs, 0, h => h
  | d :: ds, vs, n + 1, h => by
    obtain ⟨v, vr, rfl, h1, h2⟩ := h
    exact RelDs.drop n h2
theorem RelDs.reverse : ∀ {ds : List D} {vs : List V}, RelDs K α H ds vs → RelDs K α H ds.reverse vs.reverse
  | [], vs, h => by
    have e : vs = [] := h
    rw [e]; simp [RelDs]
  | d :: ds, vs, h => by
    obtain ⟨v, vr, rfl, h1, h2⟩ := h
    rw [List.reverse_cons, List.reverse_cons]
    exact (RelDs.reverse h2).append ⟨v, [], rfl, h1, rfl⟩
theorem RelDs.set {d : D} {v : V} (hr : RelD K α H d v) : ∀ {ds : List D} {vs : List V} (i : Nat), RelDs K α H ds vs → RelDs K α H (ds.set i d) (vs.set i v)
  | [], vs, i, h => by
    have e : vs = [] := h
    rw [e]; simp [RelDs]
  | d' :: ds, vs, 0, h => by
    obtain ⟨v', vr, rfl, h1, h2⟩ := h
    exact ⟨v, vr, rfl, hr, h2⟩
  | d' :: ds, vs, i + 1, h => by
    obtain ⟨v', vr, rfl, h1, h2⟩ := h
    exact ⟨v', vr.set i v, rfl, h1, RelDs.set hr i h2⟩
theorem RelDs.erase : ∀ {ds : List D} {vs : List V} (i : Nat), RelDs K α H ds vs → RelDs K α H (ds.eraseIdx i) (vs.eraseIdx i)
  | [], vs, i, h => by
    have e : vs = [] := h
    rw [e]; simp [RelDs]
  | d' :: ds, vs, 0, h => by
    obtain ⟨v', vr, rfl, h1, h2⟩ := h
    exact h2
  | d' :: ds, vs, i + 1, h => by
    obtain ⟨v', vr, rfl, h1, h2⟩ := h
    exact ⟨v', vr.eraseIdx i, rfl, h1, RelDs.erase i h2⟩
theorem RelDs.dropLast {ds : List D} {vs : List V} (h : RelDs K α H ds vs) : RelDs K α H ds.dropLast vs.dropLast := by
  rw [List.dropLast_eq_take, List.dropLast_eq_take, h.length]
  exact h.take _
theorem RelDs.rep {ds : List D} {vs : List V} (h : RelDs K α H ds vs) : ∀ k : Nat, RelDs K α H (List.replicate k ds).flatten (List.replicate k vs).flatten
  | 0 => by simp [RelDs]
  | k + 1 => by
    rw [List.replicate_succ, List.replicate_succ, List.flatten_cons, List.flatten_cons]
    exact h.append (RelDs.rep h k)
theorem RelDs.isEmpty {ds : List D} {vs : List V} (h : RelDs K α H ds vs) : vs.isEmpty = ds.isEmpty := by
  cases ds with
  | nil =>
    have e : vs = [] := h
    rw [e]; rfl
  | cons d ds =>
    obtain ⟨v, vr, rfl, h1, h2⟩ := h
    rfl
theorem items_at {x : W} {v : V} {xs : List D} (R : Rl K α hd H) (r : RelW K α H x v) (h : x.items hd = some xs) : ∃ a vs, v = .ref a ∧ SqL K H a vs ∧ RelDs K α H xs vs := by
  cases x with
  | l ys =>
    obtain ⟨a, vs, e, ha, _, hx⟩ := r
    simp only [W.items, Option.some.injEq] at h
    subst h
    exact ⟨a, vs, e, SqL.of ha, hx⟩
  | v d =>
    cases d with
    | obj n =>
      simp only [W.items, D.items] at h
      obtain ⟨a, e, ev⟩ := r
      split at h
      · rename_i ys ho
        cases h
        obtain ⟨vs, e2, hx⟩ := R.ob n _ a ho e
        exact ⟨a, vs, ev, SqL.of e2, hx⟩
      · cases h
    | ro ys =>
      simp only [W.items, D.items, Option.some.injEq] at h
      subst h
      obtain ⟨a, vs, e, hr, hx⟩ := r
      exact ⟨a, vs, e, hr.sq, hx⟩
    | _ => simp [W.items, D.items] at h
theorem lst_at {x : W} {v : V} {xs : List D} (R : Rl K α hd H) (r : RelW K α H x v) (h : x.lst hd = some xs) : ∃ a vs, v = .ref a ∧ H a = some (.lst vs) ∧ RelDs K α H xs vs := by
  cases x with
  | l ys =>
    obtain ⟨a, vs, e, ha, _, hx⟩ := r
    simp only [W.lst, Option.some.injEq] at h
    subst h
    exact ⟨a, vs, e, ha, hx⟩
  | v d =>
    cases d with
    | obj n =>
      simp only [W.lst] at h
      obtain ⟨a, e, ev⟩ := r
      split at h
      · rename_i ys ho
        cases h
        obtain ⟨vs, e2, hx⟩ := R.ob n _ a ho e
        exact ⟨a, vs, ev, e2, hx⟩
      · cases h
    | _ => simp [W.lst] at h
theorem seq_at {x : W} {v : V} {xs : List D} (R : Rl K α hd H) (r : RelW K α H x v) (h : x.seq hd = some xs) : ∃ a vs, v = .ref a ∧ (SqL K H a vs ∨ SqT K H a vs) ∧ RelDs K α H xs vs := by
  cases x with
  | l ys =>
    obtain ⟨a, vs, e, h1, h2⟩ := items_at R r (xs := xs) (by simpa [W.items, W.seq] using h)
    exact ⟨a, vs, e, .inl h1, h2⟩
  | v d =>
    cases d with
    | tup ys =>
      simp only [W.seq, Option.some.injEq] at h
      subst h
      obtain ⟨a, vs, e, ht, hx⟩ := r
      exact ⟨a, vs, e, .inr (SqT.of ht), hx⟩
    | obj n =>
      obtain ⟨a, vs, e, h1, h2⟩ := items_at R r (xs := xs) h
      exact ⟨a, vs, e, .inl h1, h2⟩
    | ro ys =>
      obtain ⟨a, vs, e, h1, h2⟩ := items_at R r (xs := xs) h
      exact ⟨a, vs, e, .inl h1, h2⟩
    | _ => simp [W.seq, D.items] at h
theorem PoW.newL {xs : List D} {vs : List V} {Q : V → Hp → Prop} (R : Rl K α hd H) (hx : RelDs K α H xs vs) (h : PoW K α H (.ok (.l xs) hd) Q) (hp : H p = none) : Q (.ref p) (upd H p (.lst vs)) :=
  h α _ _ (Gr.upd R hp _) (R.upd hp _) ⟨p, vs, rfl, upd_same, R.none_out hp, hx.gr R (Gr.upd R hp _)⟩ fun a e => by
    cases e
    exact hp
theorem PoW.newT {xs : List D} {vs : List V} {Q : V → Hp → Prop} (R : Rl K α hd H) (hx : RelDs K α H xs vs) (h : PoW K α H (.ok (.v (.tup xs)) hd) Q) (hp : H p = none) : Q (.ref p) (upd H p (.tup vs)) :=
  h α _ _ (Gr.upd R hp _) (R.upd hp _) ⟨p, vs, rfl, upd_same, hx.gr R (Gr.upd R hp _)⟩ trivial
theorem PoW.old {d : D} {v : V} {Q : V → Hp → Prop} (R : Rl K α hd H) (r : RelD K α H d v) (h : PoW K α H (.ok (.v d) hd) Q) : Q v H :=
  h α H v (Gr.refl α H) R r trivial
end DL
namespace DL
open PySem PySem.Spec PyProof.Rows L2

variable {K : PySem.W.Frag}
variable {α α' α'' α1 : List Addr} {H H' H'' H1 : Hp} {hd hd' hd1 : Hd} {a p : Addr}
variable {X : Cx}
def rB (K : PySem.W.Frag) (f : W → W → Hd → Option W) : R2 := fun x y H Q => ∃ α hd wx wy, Rl K α hd H ∧ RelW K α H wx x ∧ RelW K α H wy y ∧ PoW K α H (R.ofO (f wx wy hd) hd) Q
theorem mkS_app (s t : List Nat) : mkS s ++ mkS t = mkS (s ++ t) := by
  exact @SX.S_cat s t
theorem add_lists {x y : W} {v u : V} {Q : V → Hp → Prop} (R : Rl K α hd H) (rx : RelW K α H x v) (ry : RelW K α H y u)
    (h : PoW K α H (DL.R.ofO (match x.lst hd, y.lst hd with
      | some s, some t => if s.length + t.length ≤ sizeLine then some (.l (s ++ t)) else none
      | _, _ => none) hd) Q) : rCat v u H Q := by
  split at h
  · rename_i s t hs ht
    split at h
    · rename_i hz
      obtain ⟨a, vs, e1, h1, hx1⟩ := lst_at R rx hs
      obtain ⟨b, ws, e2, h2, hx2⟩ := lst_at R ry ht
      exact ⟨a, b, vs, ws, e1, e2, h1, h2, by rw [hx1.length, hx2.length]; exact hz, fun p hp => h.newL R (hx1.append hx2) hp⟩
    · exact h.elim
  · exact h.elim
theorem op_addW : OpR X (binaryOp .Add) (rB X.K addW) := by
  intro pins s σ H x y v u Q I rx ry h
  obtain ⟨α, hd, wx, wy, R, rwx, rwy, h⟩ := h
  have go : rCat x y H Q → wpAny (model X.prog X.w) X.A (binaryOp .Add v u) (EP X pins σ Q) X.xe s := fun q => op_cat pins s σ H x y v u Q I rx ry q
  cases wx with
  | l xs => exact go (add_lists (y := wy) R rwx rwy (by cases wy with | l ys => exact h | v d => cases d <;> exact h))
  | v dx =>
    cases wy with
    | l ys => exact go (add_lists R rwx rwy (by cases dx <;> exact h))
    | v dy =>
      cases dx with
      | int i =>
        cases dy with
        | int j =>
          cases (show x = V.int i from rwx)
          cases (show y = V.int j from rwy)
          exact op_add pins s σ H _ _ v u Q I rx ry ⟨i, j, rfl, rfl, h.old (d := .int (i + j)) R rfl⟩
        | _ => exact go (add_lists R rwx rwy h)
      | str i =>
        cases dy with
        | str j =>
          cases (show x = V.str (mkS i) from rwx)
          cases (show y = V.str (mkS j) from rwy)
          simp only [addW] at h
          split at h
          · rename_i hz
            refine op_add_str pins s σ H _ _ v u Q I rx ry ⟨_, _, rfl, rfl, by rw [mkS_len, mkS_len]; exact hz, ?_⟩
            rw [mkS_app]
            exact h.old (d := .str (i ++ j)) R rfl
          · exact h.elim
        | _ => exact go (add_lists R rwx rwy h)
      | tup i =>
        cases dy with
        | tup j =>
          obtain ⟨a, vs, rfl, ha, hx⟩ := rwx
          obtain ⟨b, ws, rfl, hb, hy⟩ := rwy
          simp only [addW] at h
          split at h
          · rename_i hz
            refine op_catA pins s σ H _ _ v u Q I rx ry ⟨a, b, vs, ws, rfl, rfl, SqT.of ha, SqT.of hb, by rw [hx.length, hy.length]; exact hz, fun e => ?_, fun e e' => ?_, fun _ _ p hp => h.newT R (hx.append hy) hp⟩
            · have e0 : i = [] := by
                have := hx.length
                rw [e] at this
                exact List.length_eq_zero_iff.mp this.symm
              subst e0
              exact h.old (d := .tup j) R ⟨b, ws, rfl, hb, hy⟩
            · have e0 : j = [] := by
                have := hy.length
                rw [e'] at this
                exact List.length_eq_zero_iff.mp this.symm
              subst e0
              rw [List.append_nil] at h
              exact h.old (d := .tup i) R ⟨a, vs, rfl, ha, hx⟩
          · exact h.elim
        | _ => exact go (add_lists R rwx rwy h)
      | _ => exact go (add_lists R rwx rwy h)
theorem rep_list {x : W} {v : V} {k : Int} {Q : V → Hp → Prop} (R : Rl K α hd H) (rx : RelW K α H x v)
    (h : PoW K α H (DL.R.ofO (match x.lst hd with
      | some xs => if -(2 ^ 63) ≤ k ∧ k < 2 ^ 63 ∧ xs.length * k.toNat ≤ sizeLine then some (.l (List.replicate k.toNat xs).flatten) else none
      | none => none) hd) Q) : rRep v (.int k) H Q := by
  split at h
  · rename_i xs hs
    split at h
    · rename_i hz
      obtain ⟨a, vs, e1, h1, hx1⟩ := lst_at R rx hs
      exact ⟨a, k, vs, e1, rfl, h1, hz.1, hz.2.1, by rw [hx1.length]; exact hz.2.2, fun p hp => h.newL R (hx1.rep _) hp⟩
    · exact h.elim
  · exact h.elim
theorem tup_same (l : Addr) (its : Array Value) (n : Nat) (dd : Option Addr) (sl : Array (Option Value)) (k : Int) (u : Tok) (b0 : (decide (k < -(2 ^ 63)) || decide (k ≥ 2 ^ 63)) = false) (b1 : (its.isEmpty || k == 1) = true) :
    Meets (Builtin.«tuple.__mul__» ⟨[.ref l, .int k u], []⟩) fun _ R s => s.heap.get? l = some { cls := .type "tuple", dict := dd, data := .seq its n, slots := sl } ∧ R (.ok (.ret (.ref l))) s :=
  .of_wp fun prog w A R s h => by
    obtain ⟨hp, g, d, tk, os⟩ := s
    obtain ⟨hl, h⟩ := h
    have f1 := AutoSeq1.idx_int
    wp_walk using AutoSeq1.wpAny_loadPart' hl
    repeat (first
      | (refine wpAny_ite_false (decide_eq_false (by rw [b0]; simp)) ?_; wp_walk using AutoSeq1.wpAny_loadPart' hl)
      | (refine wpAny_ite_true (decide_eq_true b1) ?_; wp_walk using AutoSeq1.wpAny_loadPart' hl))
    exact ⟨_, rfl, h⟩
theorem tup_none (l : Addr) (its : Array Value) (n : Nat) (dd : Option Addr) (sl : Array (Option Value)) (k : Int) (u : Tok) (b0 : (decide (k < -(2 ^ 63)) || decide (k ≥ 2 ^ 63)) = false) (b1 : (its.isEmpty || k == 1) = false) (b2 : (decide (k ≤ 0) || its.isEmpty) = true) :
    Meets (Builtin.«tuple.__mul__» ⟨[.ref l, .int k u], []⟩) fun _ R s => s.heap.get? l = some { cls := .type "tuple", dict := dd, data := .seq its n, slots := sl } ∧
      R (.ok (.ret (Value.ref s.heap.objs.size))) { s with heap := s.heap.push { cls := Value.type "tuple", data := Data.seq #[] }, toks := s.toks } :=
  .of_wp fun prog w A R s h => by
    obtain ⟨hp, g, d, tk, os⟩ := s
    obtain ⟨hl, h⟩ := h
    have f1 := AutoSeq1.idx_int
    wp_walk using AutoSeq1.wpAny_loadPart' hl
    repeat (first
      | (refine wpAny_ite_false (decide_eq_false (by rw [b0]; simp)) ?_; wp_walk using AutoSeq1.wpAny_loadPart' hl)
      | (refine wpAny_ite_false (decide_eq_false (by rw [b1]; simp)) ?_; wp_walk using AutoSeq1.wpAny_loadPart' hl)
      | (refine wpAny_ite_true (decide_eq_true b2) ?_; wp_walk using AutoSeq1.wpAny_loadPart' hl))
    exact ⟨_, rfl, h⟩
theorem mul_tup {xs : List D} {k : Int} {a : Addr} {vs : List V} {pins : List (Addr × Obj)} {s : Shared} {σ : L2.St} {u : Value} {Q : VK} (I : Inv X pins σ H s) (R : Rl X.K α hd H) (ha : H a = some (.tup vs)) (hx : RelDs X.K α H xs vs) (ru : RelV (.int k) u)
    (hz : -(2 ^ 63) ≤ k ∧ k ≤ 1000 ∧ xs.length ≤ 1000) (q : PoW X.K α H (.ok (.v (.tup (List.replicate k.toNat xs).flatten)) hd) Q) : wpAny (model X.prog X.w) X.A (binaryOp .Mult (.ref a) u) (EP X pins σ Q) X.xe s := by
  have hl := hx.length
  by_cases big : vs ≠ [] ∧ 2 ≤ k
  · exact op_repT pins s σ H (.ref a) (.int k) _ u Q I (show L2.RelV (.ref a) (Value.ref a) from rfl) ru ⟨a, k, vs, rfl, rfl, SqT.of ha, big.1, big.2, hz.2.1, by rw [hl]; exact hz.2.2, fun p hp => q.newT R (hx.rep _) hp⟩
  · obtain ⟨t, rfl⟩ := ru
    obtain ⟨its, r, ⟨⟨cls, dd, data, sl⟩, ho, hc, n, hd'⟩, hs⟩ := I.tuple (SqT.of ha)
    simp only at hc hd'
    subst hc hd'
    have hil : its.length = vs.length := r.length.symm
    have b0 : (decide (k < -(2 ^ 63)) || decide (k ≥ 2 ^ 63)) = false := by
      rw [decide_eq_false (by omega), decide_eq_false (by omega)]
      rfl
    have go : ∀ {Rr : Result → Shared → Prop}, codeAny (model X.prog X.w) X.A (.builtin "tuple.__mul__" ⟨[.ref a, .int k t], []⟩) Rr s → True := fun _ => trivial
    have run : wpAny (model X.prog X.w) X.A (call (.builtin "tuple.__mul__") [.ref a, .int k t]) (EP X pins σ Q) X.xe s := by
      rcases Bool.eq_false_or_eq_true (its.toArray.isEmpty || k == 1) with b1 | b1
      · refine call_meets F.slot_tuple_mul ⟨_, ho, rfl⟩ F.entry_tuple_mul (F.args_tuple_mul_2 _ _) (tup_same a its.toArray n dd sl k t b0 b1) ⟨ho, ?_⟩
        have e : (List.replicate k.toNat xs).flatten = xs := by
          rw [Bool.or_eq_true] at b1
          rcases b1 with b1 | b1
          · have : its = [] := by simpa using b1
            rw [this] at hil
            have : xs = [] := List.eq_nil_of_length_eq_zero (by rw [← hl, ← hil]; rfl)
            rw [this]
            simp
          · rw [eq_of_beq b1]
            simp
        rw [e] at q
        exact ⟨.ref a, H, I, rfl, q.old (d := .tup xs) R ⟨a, vs, rfl, ha, hx⟩⟩
      · rw [Bool.or_eq_false_iff] at b1
        have k0 : k ≤ 0 := by
          have n1 : k ≠ 1 := by simpa using b1.2
          have ne : vs ≠ [] := fun z => by
            rw [z] at hil
            have : its = [] := List.eq_nil_of_length_eq_zero hil
            rw [this] at b1
            cases b1.1
          have : ¬ 2 ≤ k := fun z => big ⟨ne, z⟩
          omega
        refine call_meets F.slot_tuple_mul ⟨_, ho, rfl⟩ F.entry_tuple_mul (F.args_tuple_mul_2 _ _) (tup_none a its.toArray n dd sl k t b0 (by rw [b1.1, b1.2]; rfl) (by rw [decide_eq_true k0]; rfl)) ⟨ho, ?_⟩
        have e : (List.replicate k.toNat xs).flatten = [] := by
          rw [Int.toNat_of_nonpos k0]
          rfl
        rw [e] at q
        refine ⟨.ref s.heap.objs.size, _, I.laid (t' := s.toks) (o := .tup []) (fun b ob q => Heap.get?_push_of_some _ q) (Nat.le_refl _) ?_, rfl, q.newT R (show RelDs X.K α H [] [] from rfl) (I.hok.fresh (Nat.le_refl _))⟩
        exact ⟨Nat.zero_le _, [], .nil, IsTup.new _ _⟩
    exact wpAny_binaryOp_repeat_ref (T := "tuple") (U := "int") (by decide) ⟨_, ho, rfl⟩ (fun s' => typeIs_int s' k t) noFill_tuple_mul F.fills_int_mul F.slot_int_rmul repeat_tuple F.slot_int_index.lookup
      (call_meets F.slot_int_rmul (typeIs_int s k t) F.entry_int_rmul (F.args_int_rmul_2 _ _) (int_rmul_tuple k t a its.toArray n dd sl) ⟨ho, rfl, ⟨_, ho, rfl⟩, run⟩)
theorem rep_cps (xs : List Nat) : ∀ (m : Nat) (acc : List Nat), (List.replicate m xs.toArray).foldl (fun a b => a ++ b) acc.toArray = (acc ++ (List.replicate m xs).flatten).toArray
  | 0, acc => by simp
  | m + 1, acc => by
    rw [List.replicate_succ, List.foldl_cons, List.append_toArray, rep_cps xs m (acc ++ xs), List.replicate_succ, List.flatten_cons, List.append_assoc]
theorem mul_strD {xs : List Nat} {k : Int} {pins : List (Addr × Obj)} {s : Shared} {σ : L2.St} {v u : Value} {Q : VK} (I : Inv X pins σ H s) (R : Rl X.K α hd H) (rv : RelV (.str (mkS xs)) v) (ru : RelV (.int k) u)
    (hz : -(2 ^ 63) ≤ k ∧ k ≤ 4096 ∧ xs.length ≤ 4096) (q : PoW X.K α H (.ok (.v (.str (List.replicate k.toNat xs).flatten)) hd) Q) : wpAny (model X.prog X.w) X.A (binaryOp .Mult v u) (EP X pins σ Q) X.xe s := by
  obtain ⟨t, rfl⟩ := rv
  obtain ⟨t', rfl⟩ := ru
  have q := q.old (d := .str (List.replicate k.toNat xs).flatten) R rfl
  have hl : (mkS xs).length = xs.length := mkS_len xs
  have small : (mkS xs).length * k.toNat ≤ 4096 * 4096 := by
    rw [hl]
    exact Nat.mul_le_mul hz.2.2 (by omega)
  refine PySem.P.mul_str (by
    rw [decide_eq_false (by omega), decide_eq_false (by omega)]
    rfl) (fun h1 _ h3 => ?_) (fun h1 _ => ?_) ?_
  · have e1 : (1024 : Int) * 1024 ≤ (2 ^ 63 - 1) / k := by
      apply Int.le_ediv_of_mul_le (by omega)
      have : (1024 : Int) * 1024 * k ≤ 1024 * 1024 * 4096 := Int.mul_le_mul_of_nonneg_left (by omega) (by omega)
      omega
    rw [hl] at h3
    omega
  · unfold Builtin.Str.tooLong
    rw [sizeLine_eq]
    exact decide_eq_false (by omega)
  · by_cases h1 : k < 1
    · rw [if_pos h1]
      have e : (List.replicate k.toNat xs).flatten = [] := by
        rw [Int.toNat_of_nonpos (by omega)]
        rfl
      rw [e] at q
      exact ⟨by decide, .str (mkS []), H, I.tok _, ⟨_, rfl⟩, q⟩
    · rw [if_neg h1]
      by_cases h2 : (k == 1 || (mkS xs).length == 0) = true
      · rw [if_pos h2]
        have e : (List.replicate k.toNat xs).flatten = xs := by
          rw [Bool.or_eq_true] at h2
          rcases h2 with h2 | h2
          · rw [eq_of_beq h2]
            simp
          · rw [hl] at h2
            have : xs = [] := List.eq_nil_of_length_eq_zero (eq_of_beq h2)
            rw [this]
            simp
        rw [e] at q
        exact ⟨.str (mkS xs), H, I, ⟨_, rfl⟩, q⟩
      · rw [if_neg h2]
        have e : (⟨(List.replicate k.toNat (mkS xs).cps).foldl (· ++ ·) #[]⟩ : Str) = mkS (List.replicate k.toNat xs).flatten := by
          exact congrArg Str.mk (rep_cps xs k.toNat [])
        rw [e]
        exact ⟨by rw [mkS_len, List.length_flatten, List.map_replicate, List.sum_replicate_nat, sizeLine_eq]; rw [hl] at small; rw [Nat.mul_comm] at small; omega, .str _, H, I.tok _, ⟨_, rfl⟩, q⟩
theorem op_mulW' : OpR X (binaryOp .Mult) (rB X.K mulW) := by
  intro pins s σ H x y v u Q I rx ry h
  obtain ⟨α, hd, wx, wy, R, rwx, rwy, h⟩ := h
  cases wy with
  | l ys => cases wx with
    | l xs => exact h.elim
    | v d => cases d <;> exact h.elim
  | v dy =>
    cases dy with
    | int k =>
      cases (show y = V.int k from rwy)
      cases wx with
      | l xs => exact op_rep pins s σ H x _ v u Q I rx ry (rep_list R rwx h)
      | v dx =>
        cases dx with
        | int i =>
          cases (show x = V.int i from rwx)
          simp only [mulW] at h
          split at h
          · rename_i hz
            refine op_mul pins s σ H _ _ v u Q I rx ry ⟨i, k, rfl, rfl, ?_, h.old (d := .int (i * k)) R rfl⟩
            simp only [wide, Bool.or_eq_true, Bool.and_eq_true, decide_eq_true_eq] at hz
            exact hz
          · exact h.elim
        | tup xs =>
          obtain ⟨a, vs, rfl, ha, hx⟩ := rwx
          cases rx
          simp only [mulW] at h
          split at h
          · rename_i hz
            exact mul_tup I R ha hx ry hz h
          · exact h.elim
        | str xs =>
          cases (show x = V.str (mkS xs) from rwx)
          simp only [mulW] at h
          split at h
          · rename_i hz
            exact mul_strD I R rx ry hz h
          · exact h.elim
        | _ => exact op_rep pins s σ H x _ v u Q I rx ry (rep_list R rwx h)
    | _ => cases wx with
      | l xs => exact h.elim
      | v d => cases d <;> exact h.elim
theorem op_intW {op : Operator} {f : Value → Value → Sem Value} (rule : ∀ i j k, intOp op i j = some k → ∀ (pins : List (Addr × Obj)) (s : Shared) (σ : L2.St) (H : Hp) (v u : Value) (Q : VK), Inv X pins σ H s → RelV (.int i) v → RelV (.int j) u → Q (.int k) H →
      wpAny (model X.prog X.w) X.A (f v u) (EP X pins σ Q) X.xe s) : OpR X f (rB X.K fun x y _ => match x, y with
    | .v (.int i), .v (.int j) => (intOp op i j).map fun k => .v (.int k)
    | _, _ => none) := by
  intro pins s σ H x y v u Q I rx ry h
  obtain ⟨α, hd, wx, wy, R, rwx, rwy, h⟩ := h
  cases wx with
  | l xs => exact h.elim
  | v dx =>
    cases wy with
    | l ys => cases dx <;> exact h.elim
    | v dy =>
      cases dx with
      | int i =>
        cases dy with
        | int j =>
          cases (show x = V.int i from rwx)
          cases (show y = V.int j from rwy)
          simp only at h
          cases e : intOp op i j with
          | none => rw [e] at h; exact h.elim
          | some k =>
            rw [e] at h
            exact rule i j k e pins s σ H v u Q I rx ry (h.old (d := .int k) R rfl)
        | _ => exact h.elim
      | _ => exact h.elim
theorem pow64 {j : Int} (h : 0 < j) (h2 : j < 2 ^ 64) : CDivW 0 j := wide_div (b := 64) h (by omega) (by decide) (by decide)
theorem op_bin (op : Operator) : OpR X (binaryOp op) (rB X.K (binop op)) := by
  cases op with
  | Add => exact op_addW
  | Mult => exact op_mulW'
  | Sub =>
    refine op_intW (op := .Sub) fun i j k e pins s σ H v u Q I rx ry q => ?_
    cases e
    exact op_sub pins s σ H _ _ v u Q I rx ry ⟨i, j, rfl, rfl, q⟩
  | FloorDiv =>
    refine op_intW (op := .FloorDiv) fun i j k e pins s σ H v u Q I rx ry q => ?_
    simp only [intOp] at e
    split at e
    · rename_i hz
      cases e
      exact op_fdivW pins s σ H _ _ v u Q I rx ry ⟨i, j, rfl, rfl, pow64 hz.1 hz.2, q⟩
    · cases e
  | Mod =>
    refine op_intW (op := .Mod) fun i j k e pins s σ H v u Q I rx ry q => ?_
    simp only [intOp] at e
    split at e
    · rename_i hz
      cases e
      exact op_mod pins s σ H _ _ v u Q I rx ry ⟨i, j, rfl, rfl, hz, q⟩
    · cases e
  | Pow =>
    refine op_intW (op := .Pow) fun i j k e pins s σ H v u Q I rx ry q => ?_
    simp only [intOp] at e
    split at e
    · rename_i hz
      cases e
      exact op_pow pins s σ H _ _ v u Q I rx ry ⟨i, j, rfl, rfl, hz, q⟩
    · cases e
  | RShift =>
    refine op_intW (op := .RShift) fun i j k e pins s σ H v u Q I rx ry q => ?_
    simp only [intOp] at e
    split at e
    · rename_i hz
      cases e
      exact op_shr pins s σ H _ _ v u Q I rx ry ⟨i, j, rfl, rfl, hz, q⟩
    · cases e
  | LShift =>
    refine op_intW (op := .LShift) fun i j k e pins s σ H v u Q I rx ry q => ?_
    simp only [intOp] at e
    split at e
    · rename_i hz
      cases e
      exact op_shl pins s σ H _ _ v u Q I rx ry ⟨i, j, rfl, rfl, hz, q⟩
    · cases e
  | BitXor =>
    refine op_intW (op := .BitXor) fun i j k e pins s σ H v u Q I rx ry q => ?_
    cases e
    exact op_xor pins s σ H _ _ v u Q I rx ry ⟨i, j, rfl, rfl, q⟩
  | BitAnd =>
    refine op_intW (op := .BitAnd) fun i j k e pins s σ H v u Q I rx ry q => ?_
    cases e
    exact op_and pins s σ H _ _ v u Q I rx ry ⟨i, j, rfl, rfl, q⟩
  | BitOr =>
    refine op_intW (op := .BitOr) fun i j k e pins s σ H v u Q I rx ry q => ?_
    cases e
    exact op_or pins s σ H _ _ v u Q I rx ry ⟨i, j, rfl, rfl, q⟩
  | MatMult => exact op_intW (op := .MatMult) fun i j k e => nomatch e
  | Div => exact op_intW (op := .Div) fun i j k e => nomatch e
def rU1 (K : PySem.W.Frag) (f : W → Option W) : V → Hp → VK → Prop := fun x H Q => ∃ α hd wx, Rl K α hd H ∧ RelW K α H wx x ∧ PoW K α H (R.ofO (f wx) hd) Q
theorem un_neg' : UnR X (unaryOp .USub) (rU1 X.K (unop .USub)) := by
  intro pins s σ H x v Q I rx h
  obtain ⟨α, hd, wx, R, rwx, h⟩ := h
  cases wx with
  | l xs => exact h.elim
  | v dx =>
    cases dx with
    | int i =>
      cases (show x = V.int i from rwx)
      exact un_neg pins s σ H _ v Q I rx ⟨i, rfl, h.old (d := .int (-i)) R rfl⟩
    | _ => exact h.elim
end DL
namespace DL
open PySem PySem.Spec PyProof.Rows L2

variable {K : PySem.W.Frag}
variable {α α' α'' α1 : List Addr} {H H' H'' H1 : Hp} {hd hd' hd1 : Hd} {a p : Addr}
variable {X : Cx}
theorem key_at {d : D} {k : DK} {v : V} (h : d.key? = some k) (r : RelD K α H d v) : v = kV k.key := by
  cases d with
  | int i => cases h; exact r
  | str i => cases h; exact r
  | _ => cases h
theorem keys_at : ∀ {ds : List D} {ks : List DK} {vs : List V}, D.keys? ds = some ks → RelDs K α H ds vs → vs = (ks.map DK.key).map kV
  | [], ks, vs, h, r => by
    cases h
    exact r
  | d :: ds, ks, vs, h, r => by
    obtain ⟨v, vr, rfl, h1, h2⟩ := r
    simp only [D.keys?] at h
    split at h
    · rename_i k ks' e1 e2
      cases h
      rw [key_at e1 h1, keys_at e2 h2]
      rfl
    · cases h
def RelOpt (K : PySem.W.Frag) (α : List Addr) (H : Hp) (d : Option D) (v : Option V) : Prop :=
  match d with
  | none => v = none
  | some d => ∃ x, v = some x ∧ RelD K α H d x
theorem val_at : ∀ {kvs : List (DK × D)} {l : List (Key × V)} (k : DK), RelKK K α H kvs l → RelOpt K α H (valK kvs k) (valV l k.key)
  | [], l, k, r => by
    have e : l = [] := r
    subst e
    rfl
  | (k', d) :: kvs, l, k, r => by
    obtain ⟨v, lr, rfl, h1, h2⟩ := r
    by_cases e : k' = k
    · subst e
      rw [valV_pos rfl, show valK ((k', d) :: kvs) k' = some d by simp [valK]]
      exact ⟨v, rfl, h1⟩
    · rw [valV_neg (fun z => e (DK.key_inj z)), show valK ((k', d) :: kvs) k = valK kvs k by simp [valK, List.find?_cons, e]]
      exact val_at k h2
theorem keyL_inj {a b : List DK} (h : a.map DK.key = b.map DK.key) : a = b :=
  (List.map_inj_right (fun _ _ e => DK.key_inj e)).mp h
theorem valT_at : ∀ {kvs : List (List DK × D)} {l : List (List Key × V)} (k : List DK), RelKT K α H kvs l → RelOpt K α H (valK kvs k) (valV l (k.map DK.key))
  | [], l, k, r => by
    have e : l = [] := r
    subst e
    rfl
  | (k', d) :: kvs, l, k, r => by
    obtain ⟨v, lr, rfl, h1, h2⟩ := r
    by_cases e : k' = k
    · subst e
      rw [valV_pos rfl, show valK ((k', d) :: kvs) k' = some d by simp [valK]]
      exact ⟨v, rfl, h1⟩
    · rw [valV_neg (fun z => e (keyL_inj z)), show valK ((k', d) :: kvs) k = valK kvs k by simp [valK, List.find?_cons, e]]
      exact valT_at k h2
theorem look_at {o : O} {d : D} {r : Option D} {v : V} (h : o.look d = some r) (ro : RelO K α H a o) (rd : RelD K α H d v) : ∃ u, DGet H a v u ∧ RelOpt K α H r u := by
  cases o with
  | lst xs => cases h
  | dK kvs =>
    obtain ⟨l, e, rk⟩ := ro
    simp only [O.look] at h
    cases ek : d.key? with
    | none => rw [ek] at h; cases h
    | some k =>
      rw [ek] at h
      cases h
      rw [key_at ek rd]
      exact ⟨_, .inl ⟨l, k.key, .inl e, rfl, rfl⟩, val_at k rk⟩
  | lkK kvs =>
    obtain ⟨_, l, e, rk⟩ := ro
    simp only [O.look] at h
    cases ek : d.key? with
    | none => rw [ek] at h; cases h
    | some k =>
      rw [ek] at h
      cases h
      rw [key_at ek rd]
      exact ⟨_, .inl ⟨l, k.key, .inr ⟨_, e⟩, rfl, rfl⟩, val_at k rk⟩
  | dT kvs =>
    obtain ⟨l, e, rk⟩ := ro
    simp only [O.look] at h
    cases d with
    | tup ds =>
      cases ek : D.keys? ds with
      | none => simp [ek] at h
      | some k =>
        simp only [ek, Option.map_some, Option.some.injEq] at h
        subst h
        obtain ⟨b, vs, rfl, hb, hx⟩ := rd
        rw [keys_at ek hx] at hb
        exact ⟨_, .inr ⟨l, k.map DK.key, b, .inl e, rfl, hb, rfl⟩, valT_at k rk⟩
    | _ => cases h
  | lkT kvs =>
    obtain ⟨_, l, e, rk⟩ := ro
    simp only [O.look] at h
    cases d with
    | tup ds =>
      cases ek : D.keys? ds with
      | none => simp [ek] at h
      | some k =>
        simp only [ek, Option.map_some, Option.some.injEq] at h
        subst h
        obtain ⟨b, vs, rfl, hb, hx⟩ := rd
        rw [keys_at ek hx] at hb
        exact ⟨_, .inr ⟨l, k.map DK.key, b, .inr ⟨_, e⟩, rfl, hb, rfl⟩, valT_at k rk⟩
    | _ => cases h
theorem RelOpt.some_iff {d : Option D} {v : Option V} (h : RelOpt K α H d v) : v.isSome = d.isSome := by
  cases d with
  | none =>
    have e : v = none := h
    rw [e]; rfl
  | some d =>
    obtain ⟨x, rfl, _⟩ := h
    rfl
theorem fl_at {d : D} {x v : V} (h : d.fl = some x) (r : RelD K α H d v) : v = x := by
  cases d with
  | non => cases h; exact r
  | bl b => cases h; exact r
  | int i => cases h; exact r
  | str i => cases h; exact r
  | _ => cases h
theorem fl_flat {d : D} {x : V} (h : d.fl = some x) : flatV x = true := by
  cases d with
  | non => cases h; rfl
  | bl b => cases h; rfl
  | int i => cases h; rfl
  | str i => cases h; rfl
  | _ => cases h
theorem memF_at {x : V} : ∀ {ds : List D} {vs : List V} {b : Bool}, memF x ds = some b → RelDs K α H ds vs → vs.all flatV = true ∧ inV x vs = b
  | [], vs, b, h, r => by
    have e : vs = [] := r
    subst e
    cases h
    exact ⟨rfl, rfl⟩
  | d :: ds, vs, b, h, r => by
    obtain ⟨v, vr, rfl, h1, h2⟩ := r
    simp only [memF] at h
    split at h
    · rename_i y b' e1 e2
      cases h
      obtain ⟨q1, q2⟩ := memF_at e2 h2
      rw [fl_at e1 h1]
      refine ⟨by rw [List.all_cons, fl_flat e1, q1]; rfl, ?_⟩
      show (eqV y x || inV x vr) = (eqV y x || b')
      rw [q2]
    · cases h
mutual
theorem py_at : ∀ {d : D} {v : V} {q : PyData}, d.py = some q → RelD K α H d v → Dp K H v q
  | .non, v, q, h, r => by cases h; cases (show v = V.non from r); exact .non
  | .bl b, v, q, h, r => by cases h; cases (show v = V.bl b from r); exact .bl b
  | .int i, v, q, h, r => by cases h; cases (show v = V.int i from r); exact .int i
  | .str i, v, q, h, r => by cases h; cases (show v = V.str (mkS i) from r); exact .str _
  | .obj n, v, q, h, r => by cases h
  | .tup xs, v, q, h, r => by
    obtain ⟨a, vs, rfl, ha, hx⟩ := r
    simp only [D.py] at h
    cases e : D.pys xs with
    | none => rw [e] at h; cases h
    | some ps =>
      rw [e] at h
      cases h
      exact .tup (SqT.of ha) (pys_at e hx)
  | .ro xs, v, q, h, r => by
    obtain ⟨a, vs, rfl, ha, hx⟩ := r
    simp only [D.py] at h
    cases e : D.pys xs with
    | none => rw [e] at h; cases h
    | some ps =>
      rw [e] at h
      cases h
      exact .lst ha.sq (pys_at e hx)
theorem pys_at : ∀ {ds : List D} {vs : List V} {qs : List PyData}, D.pys ds = some qs → RelDs K α H ds vs → DpAll K H vs qs
  | [], vs, qs, h, r => by
    have e : vs = [] := r
    subst e
    cases h
    exact .nil
  | d :: ds, vs, qs, h, r => by
    obtain ⟨v, vr, rfl, h1, h2⟩ := r
    simp only [D.pys] at h
    split at h
    · rename_i p ps e1 e2
      cases h
      exact .cons (py_at e1 h1) (pys_at e2 h2)
    · cases h
end
theorem wpy_at {w : W} {v : V} {q : PyData} (R : Rl K α hd H) (h : w.py hd = some q) (r : RelW K α H w v) : Dp K H v q := by
  have lists : ∀ {xs : List D} {a : Addr} {vs : List V}, (D.pys xs).map PyData.list = some q → H a = some (.lst vs) → RelDs K α H xs vs → Dp K H (.ref a) q := by
    intro xs a vs h ha hx
    cases e : D.pys xs with
    | none => rw [e] at h; cases h
    | some ps =>
      rw [e] at h
      cases h
      exact .lst (SqL.of ha) (pys_at e hx)
  cases w with
  | l xs =>
    obtain ⟨a, vs, rfl, ha, hn, hx⟩ := r
    exact lists h ha hx
  | v d =>
    cases d with
    | obj n =>
      obtain ⟨a, e, rfl⟩ := r
      simp only [W.py] at h
      split at h
      · rename_i xs ho
        obtain ⟨vs, e2, hx⟩ := R.ob n _ a ho e
        exact lists h e2 hx
      · cases h
    | _ => exact py_at (α := α) h r

abbrev Deep (X : Cx) : Prop := X.A.units + 200 < cLine
theorem canEq {da db : PyData} {A : Around} (h : A.units + 200 < cLine) (d : da.depth ≤ 128) : A.units + min da.depth db.depth < cLine := by
  have : min da.depth db.depth ≤ da.depth := Nat.min_le_left _ _
  omega
theorem eqW_cases {wx wy : W} {x y : V} {b : Bool} (R : Rl K α hd H) (rx : RelW K α H wx x) (ry : RelW K α H wy y) (h : eqW wx wy hd = some b) :
    (scal x y = true ∧ decide (x = y) = b) ∨ ∃ q r, Dp K H x q ∧ Dp K H y r ∧ q.canLay0 = true ∧ r.canLay0 = true ∧ q.depth ≤ 128 ∧ PyData.eqv q r = b := by
  have data : ∀ {wx wy : W}, RelW K α H wx x → RelW K α H wy y → (match wx.py hd, wy.py hd with
    | some p, some q => if p.canLay0 = true ∧ q.canLay0 = true ∧ p.depth ≤ 128 then some (PyData.eqv p q) else none
    | _, _ => none) = some b → ∃ q r, Dp K H x q ∧ Dp K H y r ∧ q.canLay0 = true ∧ r.canLay0 = true ∧ q.depth ≤ 128 ∧ PyData.eqv q r = b := by
    intro wx wy rx ry h
    split at h
    · rename_i q r e1 e2
      split at h
      · rename_i c
        cases h
        exact ⟨q, r, wpy_at R e1 rx, wpy_at R e2 ry, c.1, c.2.1, c.2.2, rfl⟩
      · cases h
    · cases h
  cases wx with
  | l xs => exact .inr (data rx ry (by cases wy with | l ys => exact h | v d => cases d <;> exact h))
  | v dx =>
    cases wy with
    | l ys => exact .inr (data rx ry (by cases dx <;> exact h))
    | v dy =>
      cases dx with
      | int i =>
        cases dy with
        | int j =>
          cases (show x = V.int i from rx)
          cases (show y = V.int j from ry)
          cases h
          exact .inl ⟨rfl, by simp⟩
        | _ => exact .inr (data rx ry h)
      | str i =>
        cases dy with
        | str j =>
          cases (show x = V.str (mkS i) from rx)
          cases (show y = V.str (mkS j) from ry)
          cases h
          exact .inl ⟨rfl, by simp⟩
        | _ => exact .inr (data rx ry h)
      | bl i =>
        cases dy with
        | bl j =>
          cases (show x = V.bl i from rx)
          cases (show y = V.bl j from ry)
          cases h
          exact .inl ⟨rfl, by simp⟩
        | _ => exact .inr (data rx ry h)
      | _ => exact .inr (data rx ry h)
def rC (K : PySem.W.Frag) (op : CmpOp) : R2 := fun x y H Q => ∃ α hd wx wy, Rl K α hd H ∧ RelW K α H wx x ∧ RelW K α H wy y ∧ PoB K α H (R.ofO (cmpW op wx wy hd) hd) fun b H' => Q (.bl b) H'
theorem PoB.old {b : Bool} {Q : Bool → Hp → Prop} (R : Rl K α hd H) (h : PoB K α H (.ok b hd) Q) : Q b H := h α H (Gr.refl α H) R
theorem ofO_B {o : Option Bool} {Q : Bool → Hp → Prop} (R : Rl K α hd H) (h : PoB K α H (DL.R.ofO o hd) Q) : ∃ b, o = some b ∧ Q b H := by
  cases o with
  | none => exact h.elim
  | some b => exact ⟨b, rfl, h.old R⟩
theorem op_eqW (hu : Deep X) : OpR X (compareOp .Eq) (rC X.K .Eq) := by
  intro pins s σ H x y v u Q I rx ry h
  obtain ⟨α, hd, wx, wy, R, rwx, rwy, h⟩ := h
  obtain ⟨b, e, q⟩ := ofO_B R h
  rcases eqW_cases R rwx rwy e with ⟨h1, h2⟩ | ⟨d, r, h1, h2, h3, h4, h5, h6⟩
  · exact op_eq pins s σ H x y v u Q I rx ry ⟨h1, by rw [h2]; exact q⟩
  · obtain ⟨as, ra⟩ := Dp.reads I d x v h1 rx
    obtain ⟨bs, rb⟩ := Dp.reads I r y u h2 ry
    exact SeqAt.compareEq_reads ra rb h3 h4 (canEq hu h5) ⟨.bl _, H, I, rfl, by rw [h6]; exact q⟩
theorem op_neW (hu : Deep X) : OpR X (compareOp .NotEq) (rC X.K .NotEq) := by
  intro pins s σ H x y v u Q I rx ry h
  obtain ⟨α, hd, wx, wy, R, rwx, rwy, h⟩ := h
  obtain ⟨b, e, q⟩ := ofO_B R h
  simp only [cmpW, Option.map_eq_some_iff] at e
  obtain ⟨b', e, rfl⟩ := e
  rcases eqW_cases R rwx rwy e with ⟨h1, h2⟩ | ⟨d, r, h1, h2, h3, h4, h5, h6⟩
  · exact op_ne pins s σ H x y v u Q I rx ry ⟨h1, by rw [h2]; exact q⟩
  · obtain ⟨as, ra⟩ := Dp.reads I d x v h1 rx
    obtain ⟨bs, rb⟩ := Dp.reads I r y u h2 ry
    exact SeqAt.compareNe_reads ra rb h3 h4 (canEq hu h5) ⟨.bl _, H, I, rfl, by rw [h6]; exact q⟩
theorem ord_cases {wx wy : W} {x y : V} {b : Bool} {f : Int → Int → Bool} {g : List Nat → List Nat → Bool} (rx : RelW K α H wx x) (ry : RelW K α H wy y)
    (h : ordW f g wx wy = some b) : (∃ i j, x = .int i ∧ y = .int j ∧ f i j = b) ∨ ∃ s t, x = .str (mkS s) ∧ y = .str (mkS t) ∧ g s t = b := by
  cases wx with
  | l xs => cases h
  | v dx =>
    cases wy with
    | l ys => cases dx <;> cases h
    | v dy =>
      cases dx with
      | int i =>
        cases dy with
        | int j => cases h; exact .inl ⟨i, j, rx, ry, rfl⟩
        | _ => cases h
      | str i =>
        cases dy with
        | str j => cases h; exact .inr ⟨i, j, rx, ry, rfl⟩
        | _ => cases h
      | _ => cases h
theorem op_ltW : OpR X (compareOp .Lt) (rC X.K .Lt) := by
  intro pins s σ H x y v u Q I rx ry h
  obtain ⟨α, hd, wx, wy, R, rwx, rwy, h⟩ := h
  obtain ⟨b, e, q⟩ := ofO_B R h
  rcases ord_cases (f := fun i j => decide (i < j)) (g := fun s t => decide (s < t)) rwx rwy e with ⟨i, j, rfl, rfl, rfl⟩ | ⟨i, j, rfl, rfl, rfl⟩
  · exact op_lt pins s σ H _ _ v u Q I rx ry ⟨i, j, rfl, rfl, q⟩
  · exact op_lt_str pins s σ H _ _ v u Q I rx ry ⟨_, _, rfl, rfl, q⟩
theorem op_leW : OpR X (compareOp .LtE) (rC X.K .LtE) := by
  intro pins s σ H x y v u Q I rx ry h
  obtain ⟨α, hd, wx, wy, R, rwx, rwy, h⟩ := h
  obtain ⟨b, e, q⟩ := ofO_B R h
  rcases ord_cases (f := fun i j => decide (i ≤ j)) (g := fun s t => !decide (t < s)) rwx rwy e with ⟨i, j, rfl, rfl, rfl⟩ | ⟨i, j, rfl, rfl, rfl⟩
  · exact op_le pins s σ H _ _ v u Q I rx ry ⟨i, j, rfl, rfl, q⟩
  · exact op_le_str pins s σ H _ _ v u Q I rx ry ⟨_, _, rfl, rfl, q⟩
theorem op_gtW : OpR X (compareOp .Gt) (rC X.K .Gt) := by
  intro pins s σ H x y v u Q I rx ry h
  obtain ⟨α, hd, wx, wy, R, rwx, rwy, h⟩ := h
  obtain ⟨b, e, q⟩ := ofO_B R h
  rcases ord_cases (f := fun i j => decide (j < i)) (g := fun s t => decide (t < s)) rwx rwy e with ⟨i, j, rfl, rfl, rfl⟩ | ⟨i, j, rfl, rfl, rfl⟩
  · exact op_gt pins s σ H _ _ v u Q I rx ry ⟨i, j, rfl, rfl, q⟩
  · exact op_gt_str pins s σ H _ _ v u Q I rx ry ⟨_, _, rfl, rfl, q⟩
theorem op_geW : OpR X (compareOp .GtE) (rC X.K .GtE) := by
  intro pins s σ H x y v u Q I rx ry h
  obtain ⟨α, hd, wx, wy, R, rwx, rwy, h⟩ := h
  obtain ⟨b, e, q⟩ := ofO_B R h
  rcases ord_cases (f := fun i j => decide (j ≤ i)) (g := fun s t => !decide (s < t)) rwx rwy e with ⟨i, j, rfl, rfl, rfl⟩ | ⟨i, j, rfl, rfl, rfl⟩
  · exact op_ge pins s σ H _ _ v u Q I rx ry ⟨i, j, rfl, rfl, q⟩
  · exact op_ge_str pins s σ H _ _ v u Q I rx ry ⟨_, _, rfl, rfl, q⟩
theorem non_at {d : D} {v : V} (r : RelD K α H d v) : decide (v = .non) = d.isN := by
  cases d with
  | non => rw [show v = V.non from r]; rfl
  | bl b => rw [show v = V.bl b from r]; rfl
  | int b => rw [show v = V.int b from r]; rfl
  | str b => rw [show v = V.str (mkS b) from r]; rfl
  | tup xs => obtain ⟨a, vs, rfl, _⟩ := r; rfl
  | ro xs => obtain ⟨a, vs, rfl, _⟩ := r; rfl
  | obj xs => obtain ⟨a, _, rfl⟩ := r; rfl
theorem is_cases {wx wy : W} {x y : V} {b : Bool} (R : Rl K α hd H) (rx : RelW K α H wx x) (ry : RelW K α H wy y) (h : cmpW .Is wx wy hd = some b) :
    (y = .non ∧ decide (x = .non) = b) ∨ ∃ c e : Bool, x = .bl c ∧ y = .bl e ∧ decide (c = e) = b := by
  cases wx with
  | l xs =>
    obtain ⟨a, vs, rfl, _⟩ := rx
    cases wy with
    | l ys => cases h
    | v dy => cases dy with
      | non => cases h; exact .inl ⟨ry, rfl⟩
      | _ => cases h
  | v dx =>
    cases wy with
    | l ys => cases dx <;> cases h
    | v dy =>
      cases dy with
      | non =>
        have e : some dx.isN = some b := by cases dx <;> exact h
        cases e
        exact .inl ⟨ry, non_at rx⟩
      | bl j =>
        cases dx with
        | bl i => cases h; exact .inr ⟨i, j, rx, ry, rfl⟩
        | _ => cases h
      | _ => cases dx <;> cases h
theorem op_isW : OpR X (compareOp .Is) (rC X.K .Is) := by
  intro pins s σ H x y v u Q I rx ry h
  obtain ⟨α, hd, wx, wy, R, rwx, rwy, h⟩ := h
  obtain ⟨b, e, q⟩ := ofO_B R h
  rcases is_cases R rwx rwy e with ⟨rfl, rfl⟩ | ⟨i, j, rfl, rfl, rfl⟩
  · exact op_isN pins s σ H _ _ v u Q I rx ry ⟨rfl, q⟩
  · exact op_isBl pins s σ H _ _ v u Q I rx ry ⟨_, _, rfl, rfl, q⟩
theorem isnot_of {wx wy : W} {b : Bool} (h : cmpW .IsNot wx wy hd = some b) : cmpW .Is wx wy hd = some (!b) := by
  cases wx with
  | l xs =>
    cases wy with
    | l ys => cases h
    | v dy => cases dy <;> cases h <;> rfl
  | v dx =>
    cases wy with
    | l ys => cases dx <;> cases h
    | v dy => cases dx <;> cases dy <;> cases h <;> first | rfl | (simp [cmpW, D.isN])
theorem op_isnotW : OpR X (compareOp .IsNot) (rC X.K .IsNot) := by
  intro pins s σ H x y v u Q I rx ry h
  obtain ⟨α, hd, wx, wy, R, rwx, rwy, h⟩ := h
  obtain ⟨b, e, q⟩ := ofO_B R h
  have nb : ∀ {c : Bool}, c = !b → b = !c := fun {c} e => by rw [e, Bool.not_not]
  rcases is_cases R rwx rwy (isnot_of e) with ⟨rfl, e2⟩ | ⟨i, j, rfl, rfl, e2⟩
  · exact op_notN pins s σ H _ _ v u Q I rx ry ⟨rfl, by rw [← nb e2]; exact q⟩
  · exact op_notBl pins s σ H _ _ v u Q I rx ry ⟨_, _, rfl, rfl, by rw [← nb e2]; exact q⟩
theorem in_cases {wx wy : W} {x y : V} {b : Bool} (R : Rl K α hd H) (rx : RelW K α H wx x) (ry : RelW K α H wy y) (h : inW wx wy hd = some b) :
    (∃ c t, x = .str (mkS [c]) ∧ y = .str (mkS t) ∧ decide (c ∈ t) = b) ∨ (∃ s t, x = .str (mkS s) ∧ y = .str (mkS t) ∧ (!(Builtin.Str.occurrences (mkS t) (mkS s) 0 (mkS t).length 1).isEmpty) = b) ∨
    (∃ a vs, y = .ref a ∧ (SqL K H a vs ∨ SqT K H a vs) ∧ flatV x = true ∧ vs.all flatV = true ∧ inV x vs = b) ∨ ∃ a u, y = .ref a ∧ DGet H a x u ∧ u.isSome = b := by
  cases wx with
  | l xs => cases h
  | v d =>
    have flat : ∀ {wy : W}, RelW K α H wy y → (match d.fl, wy.seq hd with
      | some x, some xs => memF x xs
      | _, _ => none) = some b → ∃ a vs, y = .ref a ∧ (SqL K H a vs ∨ SqT K H a vs) ∧ flatV x = true ∧ vs.all flatV = true ∧ inV x vs = b := by
      intro wy ry h
      split at h
      · rename_i x' xs e1 e2
        obtain ⟨a, vs, e, hq, hx⟩ := seq_at R ry e2
        obtain ⟨q1, q2⟩ := memF_at h hx
        rw [fl_at e1 rx]
        exact ⟨a, vs, e, hq, fl_flat e1, q1, q2⟩
      · cases h
    have objs : ∀ {n : Nat}, RelW K α H (.v (.obj n)) y → (match hd[n]? with
      | some (.lst xs) => match d.fl with
        | some x => memF x xs
        | none => none
      | some o => (o.look d).map (·.isSome)
      | none => none) = some b → (∃ a vs, y = .ref a ∧ (SqL K H a vs ∨ SqT K H a vs) ∧ flatV x = true ∧ vs.all flatV = true ∧ inV x vs = b) ∨ ∃ a u, y = .ref a ∧ DGet H a x u ∧ u.isSome = b := by
      intro n ry h
      obtain ⟨a, e, rfl⟩ := ry
      split at h
      · rename_i xs ho
        obtain ⟨vs, e2, hx⟩ := R.ob n _ a ho e
        split at h
        · rename_i x' e1
          obtain ⟨q1, q2⟩ := memF_at h hx
          rw [fl_at e1 rx]
          exact .inl ⟨a, vs, rfl, .inl (SqL.of e2), fl_flat e1, q1, q2⟩
        · cases h
      · rename_i o nl ho
        simp only [Option.map_eq_some_iff] at h
        obtain ⟨r, e1, rfl⟩ := h
        obtain ⟨u, g, ru⟩ := look_at e1 (R.ob n _ a ho e) rx
        exact .inr ⟨a, u, rfl, g, ru.some_iff⟩
      · cases h
    cases wy with
    | l ys => exact .inr (.inr (.inl (flat (wy := .l ys) ry (by cases d <;> exact h))))
    | v dy =>
      cases dy with
      | str t =>
        cases d with
        | str s =>
          have e1 : x = V.str (mkS s) := rx
          have e2 : y = V.str (mkS t) := ry
          simp only [inW] at h
          split at h
          · rename_i c
            cases h
            exact .inl ⟨c, t, e1, e2, rfl⟩
          · cases h
            refine .inr (.inl ⟨s, t, e1, e2, ?_⟩)
            rw [mkS_len]
        | _ => exact .inr (.inr (.inl (flat (wy := .v (.str t)) ry h)))
      | obj n => exact .inr (.inr (objs ry (by cases d <;> exact h)))
      | _ => exact .inr (.inr (.inl (flat (wy := .v _) ry (by cases d <;> exact h))))
theorem deep1 (hu : Deep X) : X.A.units + 1 < cLine := Nat.lt_of_le_of_lt (Nat.add_le_add_left (by decide) _) hu
theorem op_inW (hu : Deep X) : OpR X (compareOp .In) (rC X.K .In) := by
  intro pins s σ H x y v u Q I rx ry h
  obtain ⟨α, hd, wx, wy, R, rwx, rwy, h⟩ := h
  obtain ⟨b, e, q⟩ := ofO_B R h
  rcases in_cases R rwx rwy e with ⟨c, t, rfl, rfl, rfl⟩ | ⟨c, t, rfl, rfl, rfl⟩ | ⟨a, vs, rfl, h1, h2, h3, rfl⟩ | ⟨a, o, rfl, g, rfl⟩
  · exact op_in_sign pins s σ H _ _ v u Q I rx ry ⟨c, mkS t, rfl, rfl, q⟩
  · exact op_in_str pins s σ H _ _ v u Q I rx ry ⟨_, _, rfl, rfl, q⟩
  · exact op_in_seq pins s σ H _ _ v u Q I rx ry ⟨a, vs, rfl, h1, h2, h3, q⟩
  · cases ry
    exact d_in (deep1 hu) I g rx fun s' I' => ⟨.bl _, H, I', rfl, q⟩
theorem op_notinW (hu : Deep X) : OpR X (compareOp .NotIn) (rC X.K .NotIn) := by
  intro pins s σ H x y v u Q I rx ry h
  obtain ⟨α, hd, wx, wy, R, rwx, rwy, h⟩ := h
  obtain ⟨b, e, q⟩ := ofO_B R h
  simp only [cmpW, Option.map_eq_some_iff] at e
  obtain ⟨b', e, rfl⟩ := e
  rcases in_cases R rwx rwy e with ⟨c, t, rfl, rfl, rfl⟩ | ⟨c, t, rfl, rfl, rfl⟩ | ⟨a, vs, rfl, h1, h2, h3, rfl⟩ | ⟨a, o, rfl, g, rfl⟩
  · exact op_notIn_sign pins s σ H _ _ v u Q I rx ry ⟨c, mkS t, rfl, rfl, q⟩
  · exact op_notIn_str pins s σ H _ _ v u Q I rx ry ⟨_, _, rfl, rfl, q⟩
  · exact op_notIn_seq pins s σ H _ _ v u Q I rx ry ⟨a, vs, rfl, h1, h2, h3, q⟩
  · cases ry
    exact d_notIn (deep1 hu) I g rx fun s' I' => ⟨.bl _, H, I', rfl, q⟩
theorem op_cmpW (hu : Deep X) (op : CmpOp) : OpR X (compareOp op) (rC X.K op) := by
  cases op with
  | Eq => exact op_eqW hu
  | NotEq => exact op_neW hu
  | Lt => exact op_ltW
  | LtE => exact op_leW
  | Gt => exact op_gtW
  | GtE => exact op_geW
  | Is => exact op_isW
  | IsNot => exact op_isnotW
  | In => exact op_inW hu
  | NotIn => exact op_notinW hu
end DL
namespace DL
open PySem PySem.Spec PyProof.Rows L2

variable {K : PySem.W.Frag}
variable {α α' α'' α1 : List Addr} {H H' H'' H1 : Hp} {hd hd' hd1 : Hd} {a p : Addr}
variable {X : Cx}
theorem ofO_W {o : Option W} {Q : V → Hp → Prop} (h : PoW K α H (DL.R.ofO o hd) Q) : ∃ w, o = some w ∧ PoW K α H (.ok w hd) Q := by
  cases o with
  | none => exact h.elim
  | some w => exact ⟨w, rfl, h⟩
theorem atI_map {f : D → W} {xs : List D} {vs : List V} {i : Int} {w : W} (hx : RelDs K α H xs vs) (h : (atI xs i).map f = some w) : ∃ d v, w = f d ∧ atI vs i = some v ∧ RelD K α H d v := by
  obtain ⟨d, e, rfl⟩ := Option.map_eq_some_iff.mp h
  unfold atI at e ⊢
  rw [hx.length]
  cases ej : ixN xs.length i with
  | none => rw [ej] at e; cases e
  | some j =>
    rw [ej] at e
    obtain ⟨v, e2, r⟩ := hx.get e
    exact ⟨d, v, rfl, e2, r⟩
theorem getIx_cases {wx wy w : W} {x y : V} (R : Rl K α hd H) (rx : RelW K α H wx x) (ry : RelW K α H wy y) (h : getIx wx wy hd = some w) :
    (∃ s i c, x = .str (mkS s) ∧ y = .int i ∧ s.length ≤ sizeLine ∧ atI s i = some c ∧ w = .v (.str [c])) ∨
    (∃ a vs i v d, x = .ref a ∧ y = .int i ∧ (SqL K H a vs ∨ SqT K H a vs) ∧ atI vs i = some v ∧ w = .v d ∧ RelD K α H d v) ∨
    ∃ a v d, x = .ref a ∧ DGet H a y (some v) ∧ w = .v d ∧ RelD K α H d v := by
  have lists : ∀ {wx : W} {i : Int}, RelW K α H wx x → y = .int i → (match wx.items hd with
    | some xs => (atI xs i).map W.v
    | none => none) = some w → ∃ a vs i v d, x = .ref a ∧ y = .int i ∧ (SqL K H a vs ∨ SqT K H a vs) ∧ atI vs i = some v ∧ w = .v d ∧ RelD K α H d v := by
    intro wx i rx ey h
    split at h
    · rename_i xs e
      obtain ⟨a, vs, e1, hq, hx⟩ := items_at R rx e
      obtain ⟨d, v, e2, e3, r⟩ := atI_map hx h
      exact ⟨a, vs, i, v, d, e1, ey, .inl hq, e3, e2, r⟩
    · cases h
  cases wx with
  | l xs =>
    cases wy with
    | l ys => cases h
    | v dy => cases dy with
      | int i => exact .inr (.inl (lists rx ry h))
      | _ => cases h
  | v dx =>
    cases dx with
    | str s =>
      cases wy with
      | l ys => cases h
      | v dy => cases dy with
        | int i =>
          simp only [getIx] at h
          split at h
          · rename_i hz
            obtain ⟨c, e, rfl⟩ := Option.map_eq_some_iff.mp h
            exact .inl ⟨s, i, c, rx, ry, hz, e, rfl⟩
          · cases h
        | _ => cases h
    | tup xs =>
      cases wy with
      | l ys => cases h
      | v dy => cases dy with
        | int i =>
          obtain ⟨a, vs, e1, ha, hx⟩ := rx
          obtain ⟨d, v, e2, e3, r⟩ := atI_map hx h
          exact .inr (.inl ⟨a, vs, i, v, d, e1, ry, .inr (SqT.of ha), e3, e2, r⟩)
        | _ => cases h
    | obj n =>
      cases wy with
      | l ys => cases h
      | v dy =>
        simp only [getIx] at h
        obtain ⟨a, e, ex⟩ := rx
        split at h
        · rename_i xs ho
          obtain ⟨vs, e2, hx⟩ := R.ob n _ a ho e
          cases dy with
          | int i =>
            obtain ⟨d, v, e3, e4, r⟩ := atI_map hx h
            exact .inr (.inl ⟨a, vs, i, v, d, ex, ry, .inl (SqL.of e2), e4, e3, r⟩)
          | _ => cases h
        · rename_i o nl ho
          split at h
          · rename_i d e1
            cases h
            obtain ⟨u, g, ru⟩ := look_at e1 (R.ob n _ a ho e) ry
            obtain ⟨v, rfl, rd⟩ := ru
            exact .inr (.inr ⟨a, v, d, ex, g, rfl, rd⟩)
          · cases h
        · cases h
    | ro xs =>
      cases wy with
      | l ys => cases h
      | v dy => cases dy with
        | int i => exact .inr (.inl (lists rx ry h))
        | _ => cases h
    | _ =>
      cases wy with
      | l ys => cases h
      | v dy => cases dy <;> cases h
theorem ix_dict (hu : Deep X) : IxR X fun x y H Q => ∃ a v, x = .ref a ∧ DGet H a y (some v) ∧ Q v H := by
  intro value slice pins s σ H x y v u Q I rx ry h hs
  obtain ⟨a, z, rfl, g, q⟩ := h
  cases rx
  have hT := dict_typeIs I g
  unfold subscriptTail
  refine wpAny_bind ?_
  rw [getitemInPython_of_ne hT.not_modules]
  refine wpAny_bind (wpAny_specialOf hT PySem.F.slot_dict_getitem.lookup ?_)
  have fin : wpAny (model X.prog X.w) X.A (subscripted slice false (.ref a) u) (fun r s₃ => wpAny (model X.prog X.w) X.A (letTemporaryGo value (.ref a) r >>= fun _ => pure r) (EP X pins σ Q) X.xe s₃) X.xe s := by
    rw [hs]
    refine wpAny_operating (d_getItem (deep1 hu) I g ry fun w' s' I' r' => ?_)
    exact wpAny_bind (wpAny_letTemporaryGo (wpAny_pure ⟨z, H, I', r', q⟩))
  first
    | exact wpAny_pure (wpAny_bind fin)
    | exact wpAny_bind (wpAny_pure (wpAny_bind fin))
    | exact wpAny_bind fin
theorem ixW (hu : Deep X) : IxR X (rB X.K getIx) := by
  intro value slice pins s σ H x y v u Q I rx ry h hs
  obtain ⟨α, hd, wx, wy, R, rwx, rwy, h⟩ := h
  obtain ⟨w, e, h⟩ := ofO_W h
  rcases getIx_cases R rwx rwy e with ⟨t, i, c, rfl, rfl, hz, e2, rfl⟩ | ⟨a, vs, i, z, d, rfl, rfl, hq, e2, rfl, r⟩ | ⟨a, z, d, rfl, g, rfl, r⟩
  · exact ix_str value slice pins s σ H _ _ v u Q I rx ry ⟨mkS t, i, c, rfl, rfl, by rw [mkS_len]; exact hz, e2, h.old (d := .str [c]) R rfl⟩ hs
  · rcases hq with hq | hq
    · exact ix_list value slice pins s σ H _ _ v u Q I rx ry ⟨a, vs, i, z, rfl, rfl, hq, e2, h.old R r⟩ hs
    · exact ix_tup value slice pins s σ H _ _ v u Q I rx ry ⟨a, vs, i, z, rfl, rfl, hq, e2, h.old R r⟩ hs
  · exact ix_dict hu value slice pins s σ H _ _ v u Q I rx ry ⟨a, z, rfl, g, h.old R r⟩ hs

theorem cut_rel {xs : List D} {vs : List V} (lo hi : Option Int) (hx : RelDs K α H xs vs) : RelDs K α H (cutL xs lo hi) (cutV vs lo hi) := by
  unfold cutL cutV
  rw [hx.length]
  exact (hx.drop _).take _
theorem cutL_whole {α : Type} {xs : List α} {lo hi : Option Int} (h : HT.sIx xs.length 0 lo = 0 ∧ HT.sIx xs.length xs.length hi = xs.length) : cutL xs lo hi = xs := by
  unfold cutL
  rw [h.1, h.2]
  simp
def rSl' (K : PySem.W.Frag) : V → Option Int → Option Int → Hp → VK → Prop := fun x lo hi H Q => ∃ α hd wx, Rl K α hd H ∧ RelW K α H wx x ∧ PoW K α H (R.ofO (getSl wx lo hi hd) hd) Q
theorem slW : SlR X (rSl' X.K) := by
  intro pins s σ H x v vl vu lo hi sl Q I rx hs pl pu h
  obtain ⟨α, hd, wx, R, rwx, h⟩ := h
  obtain ⟨w, e, h⟩ := ofO_W h
  have lists : ∀ {wx : W}, RelW X.K α H wx x → (wx.items hd).map (fun xs => W.l (cutL xs lo hi)) = some w → rSlL X.K x lo hi H Q := by
    intro wx r e
    obtain ⟨xs, e1, rfl⟩ := Option.map_eq_some_iff.mp e
    obtain ⟨a, vs, e2, hq, hx⟩ := items_at R r e1
    exact ⟨a, vs, e2, hq, fun p hp => h.newL R (cut_rel lo hi hx) hp⟩
  cases wx with
  | l xs => exact sl_list pins s σ H x v vl vu lo hi sl Q I rx hs pl pu (lists rwx e)
  | v d =>
    cases d with
    | str t =>
      cases (show x = V.str (mkS t) from rwx)
      simp only [getSl] at e
      split at e
      · rename_i hz
        cases e
        refine sl_str pins s σ H _ v vl vu lo hi sl Q I rx hs pl pu ⟨mkS t, rfl, by rw [mkS_len]; exact hz, ?_⟩
        have e3 : cutS (mkS t) lo hi = mkS (cutL t lo hi) := by
          unfold cutS cutL
          rw [mkS_len]
        rw [e3]
        exact h.old (d := .str (cutL t lo hi)) R rfl
      · cases e
    | tup xs =>
      cases e
      obtain ⟨a, vs, rfl, ha, hx⟩ := rwx
      refine sl_tupA pins s σ H _ v vl vu lo hi sl Q I rx hs pl pu ⟨a, vs, rfl, SqT.of ha, fun hw => ?_, fun _ p hp => h.newT R (cut_rel lo hi hx) hp⟩
      rw [hx.length] at hw
      rw [cutL_whole hw] at h
      exact h.old (d := .tup xs) R ⟨a, vs, rfl, ha, hx⟩
    | _ => exact sl_list pins s σ H x v vl vu lo hi sl Q I rx hs pl pu (lists rwx e)
theorem TV_revL {f : FV} {σ : L2.St} {Q : VK} (h : TV K (fun σ h => (f σ h).bind fun x h => R.ofO (revSl x h) h) σ H Q) : tRevL K (TV K f) σ H Q := by
  obtain ⟨α, σd, hd, R, S, h⟩ := h
  have h : PoW K α H ((f σd hd).bind fun x h => DL.R.ofO (revSl x h) h) Q := h
  refine TV.seq R S h.ok fun x hd1 α1 H1 v1 e g R1 S1 r n => ?_
  rw [e] at h
  obtain ⟨w, e1, h⟩ := ofO_W (h.from g R1)
  obtain ⟨xs, e2, rfl⟩ := Option.map_eq_some_iff.mp e1
  obtain ⟨a, vs, e3, hq, hx⟩ := items_at R1 r e2
  exact ⟨a, vs, e3, hq, fun p hp => h.newL R1 hx.reverse hp⟩

theorem tru_at {w : W} {x : V} {b : Bool} (R : Rl K α hd H) (r : RelW K α H w x) (h : w.truth hd = some b) : TruV K x H b := by
  have lst : ∀ {xs : List D} {vs : List V} {a : Addr}, SqL K H a vs → RelDs K α H xs vs → TruV K (.ref a) H (!xs.isEmpty) := fun hq hx => .inl ⟨_, hq, by rw [hx.isEmpty]⟩
  cases w with
  | l xs =>
    cases h
    obtain ⟨a, vs, rfl, ha, _, hx⟩ := r
    exact lst (SqL.of ha) hx
  | v d =>
    cases d with
    | non => cases h; cases (show x = V.non from r); rfl
    | bl b => cases h; cases (show x = V.bl b from r); rfl
    | int i => cases h; cases (show x = V.int i from r); rfl
    | str s =>
      cases (show x = V.str (mkS s) from r)
      simp only [W.truth] at h
      split at h
      · rename_i hz
        cases h
        refine ⟨by rw [mkS_len]; exact hz, ?_⟩
        rw [mkS_len]
        cases s with
        | nil => rfl
        | cons c s =>
          have : ((c :: s).length : Int) ≠ 0 := by simp only [List.length_cons]; omega
          simp [this]
          omega
      · cases h
    | tup xs =>
      cases h
      obtain ⟨a, vs, rfl, ha, hx⟩ := r
      exact .inr (.inl ⟨_, SqT.of ha, by rw [hx.isEmpty]⟩)
    | ro xs =>
      cases h
      obtain ⟨a, vs, rfl, ha, hx⟩ := r
      exact lst ha.sq hx
    | obj n =>
      obtain ⟨a, e, rfl⟩ := r
      simp only [W.truth] at h
      split at h
      · rename_i xs ho
        cases h
        obtain ⟨vs, e2, hx⟩ := R.ob n _ a ho e
        exact lst (SqL.of e2) hx
      · rename_i kvs ho
        cases h
        obtain ⟨l, e2, hx⟩ := R.ob n _ a ho e
        refine .inr (.inr ⟨l, e2, ?_⟩)
        cases kvs with
        | nil => rw [show l = [] from hx]; rfl
        | cons kd r =>
          obtain ⟨k, d⟩ := kd
          obtain ⟨v, lr, rfl, _⟩ := hx
          rfl
      · cases h

def r1 (K : PySem.W.Frag) (f : W → Hd → Option W) : List V → Hp → VK → Prop := fun xs H Q => ∃ α hd w x, xs = [x] ∧ Rl K α hd H ∧ RelW K α H w x ∧ PoW K α H (R.ofO (f w hd) hd) Q
theorem relKK_len : ∀ {kvs : List (DK × D)} {l : List (Key × V)}, RelKK K α H kvs l → l.length = kvs.length
  | [], l, h => by rw [show l = [] from h]; rfl
  | (k, d) :: r, l, h => by
    obtain ⟨v, lr, rfl, _, h2⟩ := h
    rw [List.length_cons, List.length_cons, relKK_len h2]
theorem c_len : CallR X (.builtin "len") (r1 X.K (bl1 .len)) := by
  intro pins s σ H xs us Q I r h
  obtain ⟨α, hd, w, x, rfl, R, rw, h⟩ := h
  obtain ⟨z, e, h⟩ := ofO_W h
  have seqs : ∀ {w : W}, RelW X.K α H w x → (w.seq hd).map (fun xs => W.v (.int xs.length)) = some z → wpAny (model X.prog X.w) X.A (call (.builtin "len") us) (EP X pins σ Q) X.xe s := by
    intro w rw e
    obtain ⟨xs, e1, rfl⟩ := Option.map_eq_some_iff.mp e
    obtain ⟨a, vs, rfl, hq, hx⟩ := seq_at R rw e1
    refine call_len_seq pins s σ H _ us Q I r ⟨a, vs, rfl, hq, ?_⟩
    rw [hx.length]
    exact h.old (d := .int xs.length) R rfl
  cases w with
  | l xs => exact seqs rw e
  | v d =>
    cases d with
    | str t =>
      cases (show x = V.str (mkS t) from rw)
      simp only [bl1] at e
      split at e
      · rename_i hz
        cases e
        refine call_len_str pins s σ H _ us Q I r ⟨mkS t, rfl, by rw [mkS_len]; exact hz, ?_⟩
        rw [mkS_len]
        exact h.old (d := .int t.length) R rfl
      · cases e
    | obj n =>
      simp only [bl1] at e
      split at e
      · rename_i ys ho
        refine seqs (w := .v (.obj n)) rw ?_
        simp only [W.seq, D.items, ho]
        exact e
      · rename_i kvs ho
        cases e
        obtain ⟨a, ea, rfl⟩ := rw
        obtain ⟨l, e2, hx⟩ := R.ob n _ a ho ea
        obtain ⟨u, rfl, ru⟩ := vals1 r
        cases ru
        refine d_len I (.inl e2) fun t s' I' => ⟨.int l.length, H, I', ⟨t, rfl⟩, ?_⟩
        rw [relKK_len hx]
        exact h.old (d := .int kvs.length) R rfl
      · cases e
    | _ => exact seqs (w := .v _) rw e
theorem c_abs : CallR X (.builtin "abs") (r1 X.K (bl1 .abs)) := by
  intro pins s σ H xs us Q I r h
  obtain ⟨α, hd, w, x, rfl, R, rw, h⟩ := h
  obtain ⟨z, e, h⟩ := ofO_W h
  cases w with
  | l xs => cases e
  | v d =>
    cases d with
    | int i =>
      cases e
      cases (show x = V.int i from rw)
      refine call_abs pins s σ H _ us Q I r ⟨i, rfl, ?_⟩
      have : (if i < 0 then -i else i) = (i.natAbs : Int) := by split <;> omega
      rw [this]
      exact h.old (d := .int i.natAbs) R rfl
    | _ => cases e
theorem c_int : CallR X (.type "int") (r1 X.K (bl1 .int)) := by
  intro pins s σ H xs us Q I r h
  obtain ⟨α, hd, w, x, rfl, R, rw, h⟩ := h
  obtain ⟨z, e, h⟩ := ofO_W h
  cases w with
  | l xs => cases e
  | v d =>
    cases d with
    | int i =>
      cases e
      cases (show x = V.int i from rw)
      exact call_int1 pins s σ H _ us Q I r (.inl ⟨i, rfl, h.old (d := .int i) R rfl⟩)
    | _ => cases e
theorem c_str : CallR X (.type "str") (r1 X.K (bl1 .str)) := by
  intro pins s σ H xs us Q I r h
  obtain ⟨α, hd, w, x, rfl, R, rw, h⟩ := h
  obtain ⟨z, e, h⟩ := ofO_W h
  cases w with
  | l xs => cases e
  | v d =>
    cases d with
    | int i =>
      simp only [bl1] at e
      split at e
      · rename_i hz
        cases e
        cases (show x = V.int i from rw)
        refine call_str_int pins s σ H _ us Q I r ⟨i, rfl, hz, ?_⟩
        have q := h.old (d := .str (Str.ofString (toString i)).cps.toList) R rfl
        rw [mkS_of] at q
        exact q
      · cases e
    | _ => cases e
theorem c_tuple : CallR X (.type "tuple") (r1 X.K (bl1 .tuple)) := by
  intro pins s σ H xs us Q I r h
  obtain ⟨α, hd, w, x, rfl, R, rw, h⟩ := h
  obtain ⟨z, e, h2⟩ := ofO_W h
  clear h
  obtain ⟨xs, e1, rfl⟩ := Option.map_eq_some_iff.mp e
  cases w with
  | v d =>
    cases d with
    | tup ys =>
      cases e1
      obtain ⟨a, vs, rfl, ha, hx⟩ := rw
      exact call_tuple_of pins s σ H _ us Q I r ⟨a, vs, rfl, .inr ⟨SqT.of ha, h2.old (d := .tup xs) R ⟨a, vs, rfl, ha, hx⟩⟩⟩
    | _ =>
      obtain ⟨a, vs, rfl, hq, hx⟩ := items_at R rw (xs := xs) (by simpa [W.seq, W.items] using e1)
      exact call_tuple_of pins s σ H _ us Q I r ⟨a, vs, rfl, .inl ⟨hq, fun p hp => h2.newT R hx hp⟩⟩
  | l ys =>
    obtain ⟨a, vs, rfl, hq, hx⟩ := items_at R rw (xs := xs) (by simpa [W.seq, W.items] using e1)
    exact call_tuple_of pins s σ H _ us Q I r ⟨a, vs, rfl, .inl ⟨hq, fun p hp => h2.newT R hx hp⟩⟩
theorem c_list : CallR X (.type "list") (r1 X.K (bl1 .list)) := by
  intro pins s σ H xs us Q I r h
  obtain ⟨α, hd, w, x, rfl, R, rw, h⟩ := h
  obtain ⟨z, e, h⟩ := ofO_W h
  obtain ⟨xs, e1, rfl⟩ := Option.map_eq_some_iff.mp e
  obtain ⟨a, vs, rfl, hq, hx⟩ := seq_at R rw e1
  exact call_list_of pins s σ H _ us Q I r ⟨a, vs, rfl, hq, fun p hp => h.newL R hx hp⟩
theorem intsOf_at : ∀ {xs : List D} {ns : List Int} {vs : List V}, intsOf xs = some ns → RelDs K α H xs vs → vs = ns.map V.int
  | [], ns, vs, h, r => by cases h; exact r
  | .int i :: xs, ns, vs, h, r => by
    obtain ⟨v, vr, rfl, h1, h2⟩ := r
    simp only [intsOf, Option.map_eq_some_iff] at h
    obtain ⟨ms, e, rfl⟩ := h
    rw [show v = V.int i from h1, intsOf_at e h2]
    rfl
  | .non :: xs, ns, vs, h, r => by cases h
  | .bl _ :: xs, ns, vs, h, r => by cases h
  | .str _ :: xs, ns, vs, h, r => by cases h
  | .tup _ :: xs, ns, vs, h, r => by cases h
  | .obj _ :: xs, ns, vs, h, r => by cases h
  | .ro _ :: xs, ns, vs, h, r => by cases h
theorem strsOf_at : ∀ {xs : List D} {ns : List (List Nat)} {vs : List V}, strsOf xs = some ns → RelDs K α H xs vs → vs = (ns.map mkS).map V.str
  | [], ns, vs, h, r => by cases h; exact r
  | .str i :: xs, ns, vs, h, r => by
    obtain ⟨v, vr, rfl, h1, h2⟩ := r
    simp only [strsOf, Option.map_eq_some_iff] at h
    obtain ⟨ms, e, rfl⟩ := h
    rw [show v = V.str (mkS i) from h1, strsOf_at e h2]
    rfl
  | .non :: xs, ns, vs, h, r => by cases h
  | .bl _ :: xs, ns, vs, h, r => by cases h
  | .int _ :: xs, ns, vs, h, r => by cases h
  | .tup _ :: xs, ns, vs, h, r => by cases h
  | .obj _ :: xs, ns, vs, h, r => by cases h
  | .ro _ :: xs, ns, vs, h, r => by cases h
theorem blsOf_at : ∀ {xs : List D} {ns : List Bool} {vs : List V}, blsOf xs = some ns → RelDs K α H xs vs → vs = ns.map V.bl
  | [], ns, vs, h, r => by cases h; exact r
  | .bl i :: xs, ns, vs, h, r => by
    obtain ⟨v, vr, rfl, h1, h2⟩ := r
    simp only [blsOf, Option.map_eq_some_iff] at h
    obtain ⟨ms, e, rfl⟩ := h
    rw [show v = V.bl i from h1, blsOf_at e h2]
    rfl
  | .non :: xs, ns, vs, h, r => by cases h
  | .str _ :: xs, ns, vs, h, r => by cases h
  | .int _ :: xs, ns, vs, h, r => by cases h
  | .tup _ :: xs, ns, vs, h, r => by cases h
  | .obj _ :: xs, ns, vs, h, r => by cases h
  | .ro _ :: xs, ns, vs, h, r => by cases h
theorem c_sum (hc : X.calm = true) : CallR X (.builtin "sum") (r1 X.K (bl1 .sum)) := by
  intro pins s σ H xs us Q I r h
  obtain ⟨α, hd, w, x, rfl, R, rw, h⟩ := h
  obtain ⟨z, e, h⟩ := ofO_W h
  simp only [bl1] at e
  split at e
  · rename_i xs e1
    obtain ⟨ns, e2, rfl⟩ := Option.map_eq_some_iff.mp e
    obtain ⟨a, vs, rfl, hq, hx⟩ := items_at R rw e1
    rw [intsOf_at e2 hx] at hq
    exact cr_sum hc pins s σ H _ us Q I r ⟨a, ns, rfl, hq, h.old (d := .int ns.sum) R rfl⟩
  · cases e
theorem sortedS_pw : ∀ (xs : List Str), sortedS xs = true → xs.Pairwise fun a b => (!decide (b.cps.toList < a.cps.toList)) = true
  | [], _ => .nil
  | x :: r, h => by
    have go : ∀ (r : List Str) (p : Str), risingS p r = true → (p :: r).Pairwise fun a b => (!decide (b.cps.toList < a.cps.toList)) = true := by
      intro r
      induction r with
      | nil => intro p _; simp
      | cons y r ih =>
        intro p hp
        simp only [risingS, Bool.and_eq_true] at hp
        obtain ⟨h1, h2⟩ := hp
        have t := ih y h2
        rw [ltCps_eq] at h1
        refine List.pairwise_cons.mpr ⟨fun z hz => ?_, t⟩
        rcases List.mem_cons.mp hz with rfl | hz
        · exact h1
        · have h3 := (List.pairwise_cons.mp t).1 z hz
          simp only [Bool.not_eq_true', decide_eq_false_iff_not] at h1 h3 ⊢
          exact fun z' => h1 (List.lt_of_le_of_lt (List.not_lt.mp h3) z')
    exact go r x h
theorem sortS_eq {ss : List (List Nat)} {ys : List Str} (hp : ys.Perm (ss.map mkS)) (hs : sortedS ys = true) : ys = (sortS ss).map mkS := by
  have le_tr : ∀ a b c : List Nat, (!decide (b < a)) = true → (!decide (c < b)) = true → (!decide (c < a)) = true := fun a b c h1 h2 => by
    simp only [Bool.not_eq_true', decide_eq_false_iff_not] at h1 h2 ⊢
    exact fun z => h1 (List.lt_of_le_of_lt (List.not_lt.mp h2) z)
  have le_to : ∀ a b : List Nat, ((!decide (b < a)) || (!decide (a < b))) = true := fun a b => by
    simp only [Bool.or_eq_true, Bool.not_eq_true', decide_eq_false_iff_not, List.not_lt]
    exact List.le_total a b
  refine List.Perm.eq_of_pairwise (le := fun a b => (!decide (b.cps.toList < a.cps.toList)) = true) (fun a b _ _ h1 h2 => ?_) (sortedS_pw ys hs) ?_ ?_
  · simp only [Bool.not_eq_true', decide_eq_false_iff_not, List.not_lt] at h1 h2
    have := List.le_antisymm h1 h2
    rw [← mkS_of a, ← mkS_of b, this]
  · rw [List.pairwise_map]
    exact (List.pairwise_mergeSort le_tr le_to ss).imp fun h => by simpa using h
  · exact hp.trans ((List.mergeSort_perm ss _).symm.map mkS)
theorem sortI_eq {ns ms : List Int} (hp : ms.Perm ns) (hs : ms.Pairwise (· ≤ ·)) : ms = sortI ns := by
  refine List.Perm.eq_of_pairwise (le := (· ≤ ·)) (fun a b _ _ h1 h2 => Int.le_antisymm h1 h2) hs ?_ (hp.trans (List.mergeSort_perm ns _).symm)
  refine (List.pairwise_mergeSort (le := fun a b : Int => decide (a ≤ b)) (fun a b c h1 h2 => ?_) (fun a b => ?_) ns).imp fun h => of_decide_eq_true h
  · simp only [decide_eq_true_eq] at h1 h2 ⊢; omega
  · simp only [Bool.or_eq_true, decide_eq_true_eq]; omega
theorem relInts : ∀ ns : List Int, RelDs K α H (ns.map .int) (ns.map V.int)
  | [] => rfl
  | n :: ns => ⟨_, _, rfl, rfl, relInts ns⟩
theorem relStrs : ∀ ns : List (List Nat), RelDs K α H (ns.map .str) ((ns.map mkS).map V.str)
  | [] => rfl
  | n :: ns => ⟨_, _, rfl, rfl, relStrs ns⟩
theorem c_sorted : CallR X (.builtin "sorted") (r1 X.K (bl1 .sorted)) := by
  intro pins s σ H xs us Q I r h
  obtain ⟨α, hd, w, x, rfl, R, rw, h⟩ := h
  obtain ⟨z, e, h⟩ := ofO_W h
  simp only [bl1] at e
  split at e
  · rename_i xs e1
    obtain ⟨a, vs, rfl, hq, hx⟩ := items_at R rw e1
    split at e
    · rename_i ns e2
      cases e
      rw [intsOf_at e2 hx] at hq
      refine cr_sortedI pins s σ H _ us Q I r ⟨a, ns, rfl, hq, fun ms p hp hs hn => ?_⟩
      rw [sortI_eq hp hs]
      exact h.newL R (relInts _) hn
    · split at e
      · rename_i ss e2
        split at e
        · rename_i hz
          cases e
          rw [strsOf_at e2 hx] at hq
          refine cr_sortedS pins s σ H _ us Q I r ⟨a, ss.map mkS, rfl, hq, by rw [List.length_map]; exact hz, fun ys p hp hs hn => ?_⟩
          rw [sortS_eq hp hs]
          exact h.newL R (relStrs _) hn
        · cases e
      · cases e
  · cases e
theorem c_any (hc : X.calm = true) : CallR X (.builtin "any") (r1 X.K (bl1 .any)) := by
  intro pins s σ H xs us Q I r h
  obtain ⟨α, hd, w, x, rfl, R, rw, h⟩ := h
  obtain ⟨z, e, h⟩ := ofO_W h
  simp only [bl1] at e
  split at e
  · rename_i xs e1
    obtain ⟨ns, e2, rfl⟩ := Option.map_eq_some_iff.mp e
    obtain ⟨a, vs, rfl, hq, hx⟩ := items_at R rw e1
    rw [blsOf_at e2 hx] at hq
    exact cr_any hc pins s σ H _ us Q I r ⟨a, ns, rfl, hq, h.old (d := .bl (ns.any id)) R rfl⟩
  · cases e
theorem c_all (hc : X.calm = true) : CallR X (.builtin "all") (r1 X.K (bl1 .all)) := by
  intro pins s σ H xs us Q I r h
  obtain ⟨α, hd, w, x, rfl, R, rw, h⟩ := h
  obtain ⟨z, e, h⟩ := ofO_W h
  simp only [bl1] at e
  split at e
  · rename_i xs e1
    obtain ⟨ns, e2, rfl⟩ := Option.map_eq_some_iff.mp e
    obtain ⟨a, vs, rfl, hq, hx⟩ := items_at R rw e1
    rw [blsOf_at e2 hx] at hq
    exact cr_all hc pins s σ H _ us Q I r ⟨a, ns, rfl, hq, h.old (d := .bl (ns.all id)) R rfl⟩
  · cases e
def r2 (K : PySem.W.Frag) (f : W → W → Option W) : List V → Hp → VK → Prop := fun xs H Q => ∃ α hd w w' x x', xs = [x, x'] ∧ Rl K α hd H ∧ RelW K α H w x ∧ RelW K α H w' x' ∧ PoW K α H (R.ofO (f w w') hd) Q
theorem c_max (hc : X.calm = true) : CallR X (.builtin "max") (r2 X.K (bl2 .max)) := by
  intro pins s σ H xs us Q I r h
  obtain ⟨α, hd, w, w', x, x', rfl, R, rw, rw', h⟩ := h
  obtain ⟨z, e, h⟩ := ofO_W h
  cases w with
  | l xs => cases e
  | v d =>
    cases w' with
    | l xs => cases d <;> cases e
    | v d' =>
      cases d with
      | int i =>
        cases d' with
        | int j =>
          cases e
          cases (show x = V.int i from rw)
          cases (show x' = V.int j from rw')
          exact call_max2 hc pins s σ H _ us Q I r ⟨i, j, rfl, h.old (d := .int (if j > i then j else i)) R rfl⟩
        | _ => cases e
      | _ => cases e
theorem c_min (hc : X.calm = true) : CallR X (.builtin "min") (r2 X.K (bl2 .min)) := by
  intro pins s σ H xs us Q I r h
  obtain ⟨α, hd, w, w', x, x', rfl, R, rw, rw', h⟩ := h
  obtain ⟨z, e, h⟩ := ofO_W h
  cases w with
  | l xs => cases e
  | v d =>
    cases w' with
    | l xs => cases d <;> cases e
    | v d' =>
      cases d with
      | int i =>
        cases d' with
        | int j =>
          cases e
          cases (show x = V.int i from rw)
          cases (show x' = V.int j from rw')
          exact call_min2 hc pins s σ H _ us Q I r ⟨i, j, rfl, h.old (d := .int (if j < i then j else i)) R rfl⟩
        | _ => cases e
      | _ => cases e
end DL
namespace DL
open PySem PySem.Spec PyProof.Rows L2

variable {K : PySem.W.Frag}
variable {α α' α'' α1 : List Addr} {H H' H'' H1 : Hp} {hd hd' hd1 : Hd} {a p : Addr}
variable {X : Cx}
def plainE : Expr → Bool
  | .Starred _ _ => false
  | .Set _ _ _ => false
  | .Call (.Name id _) [] [] _ => id != "super"
  | _ => true
def noComp : Expr → Bool
  | .ListComp _ _ _ _ => false
  | .SetComp _ _ _ _ => false
  | .DictComp _ _ _ _ _ => false
  | _ => true
def plainT : Expr → Bool
  | .UnaryOp _ _ _ => false
  | .BoolOp _ _ _ => false
  | .IfExp _ _ _ _ => false
  | .Compare _ _ _ _ => false
  | _ => true
theorem star_cons {e : Expr} (h : plainE e = true) (es : List Expr) (env : Env) : starEach (e :: es) env = (false, eval e env) :: starEach es env := by
  cases e <;> first | rfl | (cases h)
theorem behind_no {e : Expr} (h : plainE e = true) (op : CmpOp) : behindInMarks op e = false := by
  cases e <;> first | rfl | (cases h)
theorem folded_no {e : Expr} (h : plainE e = true) (env : Env) (x : Value) : foldedSetIterable e env x = pure x := by
  cases e <;> first | rfl | (cases h)
theorem attr_no {e : Expr} (h : plainE e = true) (name : Str) (env : Env) : attributeBase e name env (eval e env) = eval e env := by
  cases e with
  | Call f as ks pos =>
    cases f with
    | Name id p =>
      cases as with
      | nil =>
        cases ks with
        | nil =>
          have h' : (id != "super") = true := h
          unfold attributeBase
          simp [h']
        | cons _ _ => rfl
      | cons _ _ => rfl
    | _ => rfl
  | _ => rfl
theorem isTrue_pl {e : Expr} (h : plainT e = true) (env : Env) (whole : Sem Value) : isTrue e env whole = (do let v ← whole; standAt e.pos; holding [v] (truthy v)) := by
  cases e <;> first | rfl | (cases h)
theorem swaps_no {e : Expr} (h : noComp e = true) (t : Option Expr) (l : Nat) (env : Env) : swapsWith e t l env = pure false := by
  cases e <;> first | rfl | (cases h)
theorem stars_any {pos : Pos} {env : Env} : ∀ {es : List Expr}, es.all plainE = true → (backTo pos (starEach es env)).any (·.1) = false
  | [], _ => rfl
  | e :: es, h => by
    rw [List.all_cons, Bool.and_eq_true] at h
    rw [star_cons h.1]
    show (false || (backTo pos (starEach es env)).any (·.1)) = false
    rw [stars_any h.2]
    rfl
theorem stars_all {pos : Pos} {env : Env} : ∀ {es : List Expr}, es.all plainE = true → (backTo pos (starEach es env)).all (fun x => !x.1) = true
  | [], _ => rfl
  | e :: es, h => by
    rw [List.all_cons, Bool.and_eq_true] at h
    rw [star_cons h.1]
    show (true && (backTo pos (starEach es env)).all (fun x => !x.1)) = true
    rw [stars_all h.2]
    rfl
structure EOk (X : Cx) (f : FV) (e : Expr) : Prop where
  pe : PE X e (TV X.K f)
  pl : plainE e = true
abbrev truthF (f : FV) : FB := fun σ h => (f σ h).bind fun w h => R.ofO (w.truth h) h
theorem TV.mono_iff {e : Expr} {t t' : TE} (h : PE X e t) (k : ∀ σ H Q, t' σ H Q → t σ H Q) : PE X e t' := ⟨fun pins s σ H Q I q => h.run pins s σ H Q I (k σ H Q q)⟩
theorem PT.weak {e : Expr} {t t' : TT} (h : PT X e t) (k : ∀ σ H Q, t' σ H Q → t σ H Q) : PT X e t' := ⟨fun pins s σ H Q I q => h.run pins s σ H Q I (k σ H Q q)⟩
theorem PW.weak {e : Expr} {t t' : TT} (h : PW X e t) (k : ∀ σ H Q, t' σ H Q → t σ H Q) : PW X e t' := ⟨fun wh pins s σ H Q I q => h.run wh pins s σ H Q I (k σ H Q q)⟩
theorem PA.weak {es : List Expr} {t t' : TA} (h : PA X es t) (k : ∀ σ H Q, t' σ H Q → t σ H Q) : PA X es t' := ⟨fun pos pins s σ H Q I q => h.run pos pins s σ H Q I (k σ H Q q)⟩
theorem PS.weak {st : Stmt} {t t' : TS} (h : PS X st t) (k : ∀ D σ H, t' D σ H → t D σ H) : PS X st t' := ⟨fun pins s σ H D I q => h.run pins s σ H D I (k D σ H q)⟩
theorem PSs.weak {st : List Stmt} {t t' : TS} (h : PSs X st t) (k : ∀ D σ H, t' D σ H → t D σ H) : PSs X st t' := ⟨fun pins s σ H D I q => h.run pins s σ H D I (k D σ H q)⟩
theorem t_val {f : FV} {e : Expr} (h : PE X e (TV X.K f)) (hp : plainT e = true) : PT X e (TB X.K (truthF f)) := by
  refine PT.weak (pt_truth h fun whole => isTrue_pl hp X.env whole) fun σ H Q q => ?_
  obtain ⟨α, σd, hd, R, S, q⟩ := q
  have q : PoB X.K α H ((f σd hd).bind fun w h => DL.R.ofO (w.truth h) h) Q := q
  refine TV.seq R S q.ok fun x hd1 α1 H1 v1 e g R1 S1 r n => ?_
  rw [e] at q
  obtain ⟨b, e1, q⟩ := ofO_B R1 (q.from g)
  exact ⟨b, tru_at R1 r e1, q⟩
def vVar (i : Nat) : FV := fun σ h => match σ[i]? with
  | some (some d) => .ok (.v d) h
  | _ => .no
theorem e_var {i : Nat} {x : Str} {pos : Pos} (hN : X.N[i]? = some x) (hv : Vis X.env.scope x) (hd : (x == ("__debug__" : Str)) = false) (hcd : (x == ("__classdict__" : Str)) = false) : EOk X (vVar i) (.Name x pos) := by
  refine ⟨TV.mono_iff (pe_var hN hv hd hcd) fun σ H Q q => ?_, rfl⟩
  obtain ⟨α, σd, hd, R, S, q⟩ := q
  simp only [vVar] at q
  split at q
  · rename_i d e
    obtain ⟨v, e2, r⟩ := S.ix i d e
    exact ⟨v, e2, q.old R r⟩
  · exact q.elim
def vC (d : D) : FV := fun _ h => .ok (.v d) h
theorem tC_of {d : D} {v : V} (hr : ∀ α H, RelD K α H d v) {σ : L2.St} {Q : VK} (q : TV K (vC d) σ H Q) : tC v σ H Q := by
  obtain ⟨α, σd, hd, R, S, q⟩ := q
  exact PoW.old (d := d) R (hr _ _) q
theorem e_non {k : Nat} {pos : Pos} : EOk X (vC .non) (.Constant .none k pos) := ⟨TV.mono_iff pe_non fun σ H Q q => tC_of (d := .non) (fun _ _ => rfl) q, rfl⟩
theorem e_bl {b : Bool} {k : Nat} {pos : Pos} : EOk X (vC (.bl b)) (.Constant (.bool b) k pos) := ⟨TV.mono_iff pe_bl fun σ H Q q => tC_of (d := .bl b) (fun _ _ => rfl) q, rfl⟩
theorem e_int {i : Int} {k : Nat} {pos : Pos} : EOk X (vC (.int i)) (.Constant (.int i) k pos) := ⟨TV.mono_iff pe_int fun σ H Q q => tC_of (d := .int i) (fun _ _ => rfl) q, rfl⟩
theorem e_str {s : List Nat} {k : Nat} {pos : Pos} : EOk X (vC (.str s)) (.Constant (.str (mkS s)) k pos) := ⟨TV.mono_iff pe_str fun σ H Q q => tC_of (d := .str s) (fun _ _ => rfl) q, rfl⟩
theorem e_glb {x : Str} {d : D} {v : V} {u : Value} {pos : Pos} (hg : Gl X x) (hm : X.mg x = some u) (r : RelV v u) (rd : ∀ α H, RelD X.K α H d v) (hd : (x == ("__debug__" : Str)) = false) : EOk X (vC d) (.Name x pos) :=
  ⟨TV.mono_iff (pe_glob hg hm r hd) fun σ H Q q => tC_of rd q, rfl⟩

def vSeq : List FV → FL
  | [] => fun _ h => .ok [] h
  | f :: fs => fun σ h => (f σ h).bind fun w h => (w.settle h).bind fun d h => (vSeq fs σ h).bind fun ds h => .ok (d :: ds) h
inductive EsOk (X : Cx) : List FV → List Expr → Prop
  | nil : EsOk X [] []
  | cons {f : FV} {fs : List FV} {e : Expr} {es : List Expr} : EOk X f e → EsOk X fs es → EsOk X (f :: fs) (e :: es)
theorem EsOk.plain : ∀ {fs : List FV} {es : List Expr}, EsOk X fs es → es.all plainE = true
  | _, _, .nil => rfl
  | _, _, .cons h t => by rw [List.all_cons, h.pl, t.plain]; rfl
theorem settled {w : W} {v : V} (g : Gr α H α' H') (R' : Rl K α' hd' H') (r : RelW K α' H' w v) (n : NewW H w v) :
    ∃ d hd2 α2, w.settle hd' = .ok d hd2 ∧ Gr α H α2 H' ∧ Rl K α2 hd2 H' ∧ RelD K α2 H' d v ∧ (∀ {σd : Sd} {σ : L2.St}, RelS K α' H' σd σ → RelS K α2 H' σd σ) := by
  cases w with
  | v d => exact ⟨d, hd', α', rfl, g, R', r, fun h => h⟩
  | l xs =>
    obtain ⟨a, vs, rfl, ha, hn, hx⟩ := r
    refine ⟨_, _, α' ++ [a], rfl, g.join (n a rfl) hn, R'.join hn ⟨vs, ha, hx⟩, ⟨a, ?_, rfl⟩, fun h => ⟨h.len, fun i d e => ?_⟩⟩
    · rw [← R'.len]
      simp
    · obtain ⟨v, e1, r⟩ := h.ix i d e
      exact ⟨v, e1, r.mono (fun _ _ e => pre_get e) (fun _ _ q => q) (fun _ _ q => q) d v⟩
theorem a_seq : ∀ {fs : List FV} {es : List Expr}, EsOk X fs es → PA X es (TL X.K (vSeq fs))
  | _, _, .nil => PA.weak pa_nil fun σ H Q q => by
    obtain ⟨α, σd, hd, R, S, q⟩ := q
    exact q α H [] (Gr.refl _ _) R rfl
  | _, _, .cons (f := f) (fs := fs) h t => PA.weak (pa_cons h.pe (a_seq t) (star_cons h.pl _ _)) fun σ H Q q => by
    obtain ⟨α, σd, hd, R, S, q⟩ := q
    have q : PoL X.K α H ((f σd hd).bind fun w h => (w.settle h).bind fun d h => (vSeq fs σd h).bind fun ds h => .ok (d :: ds) h) Q := q
    refine TV.seq R S q.ok fun x hd1 α1 H1 v1 e g R1 S1 r n => ?_
    rw [e] at q
    obtain ⟨d, hd2, α2, e2, g2, R2, r2, S2⟩ := settled g R1 r n
    rw [e2] at q
    have q : PoL X.K α2 H1 ((vSeq fs σd hd2).bind fun ds h => .ok (d :: ds) h) Q := q.from g2
    refine TL.seq R2 (S2 S1) q.ok fun ds hd3 α3 H3 vs e3 g3 R3 S3 rs => ?_
    rw [e3] at q
    exact q α3 H3 (v1 :: vs) g3 R3 ⟨v1, vs, rfl, r2.gr R2 g3, rs⟩
def vSet (f : FV) : FV := fun σ h => (f σ h).bind fun w h => (w.settle h).bind fun d h => .ok (.v d) h
theorem TV_set {f : FV} {σ : L2.St} {Q : VK} (q : TV K (vSet f) σ H Q) : TV K f σ H Q := by
  obtain ⟨α, σd, hd, R, S, q⟩ := q
  have q : PoW K α H ((f σd hd).bind fun w h => (w.settle h).bind fun d h => .ok (.v d) h) Q := q
  refine TV.seq R S q.ok fun x hd1 α1 H1 v1 e g R1 S1 r n => ?_
  rw [e] at q
  obtain ⟨d, hd2, α2, e2, g2, R2, r2, S2⟩ := settled g R1 r n
  rw [e2] at q
  exact q α2 H1 v1 g2 R2 r2 trivial
theorem e_set {f : FV} {e : Expr} (h : EOk X f e) : EOk X (vSet f) e := ⟨TV.mono_iff h.pe fun _ _ _ q => TV_set q, h.pl⟩
def vTup (fs : List FV) : FV := fun σ h => (vSeq fs σ h).bind fun ds h => if ds.length ≤ sizeLine then .ok (.v (.tup ds)) h else .no
def vLst (fs : List FV) : FV := fun σ h => (vSeq fs σ h).bind fun ds h => if ds.length ≤ sizeLine then .ok (.l ds) h else .no
theorem e_tup {fs : List FV} {es : List Expr} {k : Nat} {pos : Pos} (h : EsOk X fs es) : EOk X (vTup fs) (.Tuple es k pos) := by
  refine ⟨TV.mono_iff (pe_tup (a_seq h)) fun σ H Q q => ?_, rfl⟩
  obtain ⟨α, σd, hd, R, S, q⟩ := q
  have q : PoW X.K α H ((vSeq fs σd hd).bind fun ds h => if ds.length ≤ sizeLine then .ok (.v (.tup ds)) h else .no) Q := q
  refine TL.seq R S q.ok fun ds hd1 α1 H1 vs e g R1 S1 rs => ?_
  rw [e] at q
  split at q
  · rename_i hz
    exact ⟨by rw [rs.length]; exact hz, fun p hp => (q.from g R1).newT R1 rs hp⟩
  · exact q.elim
theorem e_lst {fs : List FV} {es : List Expr} {pos : Pos} (h : EsOk X fs es) : EOk X (vLst fs) (.List es pos) := by
  refine ⟨TV.mono_iff (pe_lst (a_seq h)) fun σ H Q q => ?_, rfl⟩
  obtain ⟨α, σd, hd, R, S, q⟩ := q
  have q : PoW X.K α H ((vSeq fs σd hd).bind fun ds h => if ds.length ≤ sizeLine then .ok (.l ds) h else .no) Q := q
  refine TL.seq R S q.ok fun ds hd1 α1 H1 vs e g R1 S1 rs => ?_
  rw [e] at q
  split at q
  · rename_i hz
    exact ⟨by rw [rs.length]; exact hz, fun p hp => (q.from g R1).newL R1 rs hp⟩
  · exact q.elim
def v2 (f g : FV) (k : W → W → Hd → R W) : FV := fun σ h => (f σ h).bind fun x h => (g σ h).bind fun y h => k x y h
theorem TV_op {f g : FV} {fn : W → W → Hd → Option W} {σ : L2.St} {Q : VK} (q : TV K (v2 f g fun x y h => R.ofO (fn x y h) h) σ H Q) : tOp (rB K fn) (TV K f) (TV K g) σ H Q := by
  obtain ⟨α, σd, hd, R, S, q⟩ := q
  have q : PoW K α H ((f σd hd).bind fun x h => (g σd h).bind fun y h => DL.R.ofO (fn x y h) h) Q := q
  refine TV.seq R S q.ok fun x hd1 α1 H1 v1 e g1 R1 S1 r n => ?_
  rw [e] at q
  have q := q.from g1 R1
  refine TV.seq R1 S1 q.ok fun y hd2 α2 H2 v2 e2 g2 R2 S2 r2 n2 => ?_
  rw [e2] at q
  exact ⟨α2, hd2, x, y, R2, r.gr R1 g2, r2, q.from g2 R2⟩
abbrev vBin (op : Operator) (f g : FV) : FV := v2 f g fun x y h => R.ofO (binop op x y h) h
theorem e_bin {op : Operator} {f g : FV} {a b : Expr} {pos : Pos} (ha : EOk X f a) (hb : EOk X g b) : EOk X (vBin op f g) (.BinOp a op b pos) :=
  ⟨TV.mono_iff (pe_op (op_bin op) ha.pe hb.pe) fun _ _ _ q => TV_op q, rfl⟩
def vNeg (f : FV) : FV := fun σ h => (f σ h).bind fun x h => R.ofO (unop .USub x) h
theorem e_neg {f : FV} {a : Expr} {pos : Pos} (ha : EOk X f a) : EOk X (vNeg f) (.UnaryOp .USub a pos) := by
  refine ⟨TV.mono_iff (pe_un un_neg' ha.pe) fun σ H Q q => ?_, rfl⟩
  obtain ⟨α, σd, hd, R, S, q⟩ := q
  have q : PoW X.K α H ((f σd hd).bind fun x h => DL.R.ofO (unop .USub x) h) Q := q
  refine TV.seq R S q.ok fun x hd1 α1 H1 v1 e g1 R1 S1 r n => ?_
  rw [e] at q
  exact ⟨α1, hd1, x, R1, r, q.from g1 R1⟩
abbrev vIx (f g : FV) : FV := v2 f g fun x y h => R.ofO (getIx x y h) h
def noSlice : Expr → Bool
  | .Slice _ _ _ _ => false
  | .Tuple _ _ _ => false
  | _ => true
theorem e_ix (hu : Deep X) {f g : FV} {a b : Expr} {pos : Pos} (ha : EOk X f a) (hb : EOk X g b) (hs : PlainIx b) : EOk X (vIx f g) (.Subscript a b pos) :=
  ⟨TV.mono_iff (pe_ix (ixW hu) ha.pe hb.pe hs) fun _ _ _ q => TV_op q, rfl⟩
def partF (f : Option FV) : Sd → Hd → R (Option Int) := match f with
  | none => fun _ h => .ok none h
  | some f => fun σ h => (f σ h).bind fun w h => match w with
    | .v (.int i) => .ok (some i) h
    | _ => .no
def vSl (f : FV) (lo hi : Option FV) : FV := fun σ h => (f σ h).bind fun x h => (partF lo σ h).bind fun l h => (partF hi σ h).bind fun u h => R.ofO (getSl x l u h) h
def PoO (K : PySem.W.Frag) (α : List Addr) (H : Hp) (r : R (Option Int)) (Q : Option Int → Hp → Prop) : Prop := match r with
  | .ok b hd' => ∀ α' H', Gr α H α' H' → Rl K α' hd' H' → Q b H'
  | _ => False
def TO' (K : PySem.W.Frag) (f : Sd → Hd → R (Option Int)) : TO := fun σ H Q => ∃ α σd hd, Rl K α hd H ∧ RelS K α H σd σ ∧ PoO K α H (f σd hd) Q
inductive POk (X : Cx) : Option FV → Option Expr → Prop
  | none : POk X none none
  | some {f : FV} {e : Expr} : EOk X f e → POk X (some f) (some e)
theorem p_part {f : Option FV} {e : Option Expr} (h : POk X f e) : PO X e (TO' X.K (partF f)) := by
  cases h with
  | none =>
    refine ⟨fun pins s σ H Q I q => po_none.run pins s σ H Q I ?_⟩
    obtain ⟨α, σd, hd, R, S, q⟩ := q
    exact q α H (Gr.refl _ _) R
  | @some f e h =>
    refine ⟨fun pins s σ H Q I q => (po_some h.pe).run pins s σ H Q I ?_⟩
    obtain ⟨α, σd, hd, R, S, q⟩ := q
    have q : PoO X.K α H ((f σd hd).bind fun w h => match w with
      | .v (.int i) => .ok (some i) h
      | _ => .no) Q := q
    have ok : ∃ b h', ((f σd hd).bind fun w h => match w with
      | .v (.int i) => DL.R.ok (some i) h
      | _ => .no) = .ok b h' := by
      cases e : ((f σd hd).bind fun w h => match w with
      | .v (.int i) => DL.R.ok (some i) h
      | _ => .no) with
      | ok b h' => exact ⟨b, h', rfl⟩
      | ex => rw [e] at q; exact q.elim
      | no => rw [e] at q; exact q.elim
    refine TV.seq R S ok fun x hd1 α1 H1 v1 e g1 R1 S1 r n => ?_
    rw [e] at q
    cases x with
    | l xs => exact q.elim
    | v d =>
      cases d with
      | int i => exact ⟨i, r, q α1 H1 g1 R1⟩
      | _ => exact q.elim
theorem TO.seq {B : Type} {f : Sd → Hd → R (Option Int)} {k : Option Int → Hd → R B} {σd : Sd} {σ : L2.St} {C : Option Int → Hp → Prop} (R : Rl K α hd H) (S : RelS K α H σd σ)
    (ok : ∃ b h, (f σd hd).bind k = .ok b h)
    (cont : ∀ x hd1 α1 H1, (f σd hd).bind k = k x hd1 → Gr α H α1 H1 → Rl K α1 hd1 H1 → RelS K α1 H1 σd σ → C x H1) : TO' K f σ H C := by
  refine ⟨α, σd, hd, R, S, ?_⟩
  cases e : f σd hd with
  | ok x hd1 => exact fun α1 H1 g R1 => cont x hd1 α1 H1 (by rw [e]; rfl) g R1 (S.gr R g)
  | ex c fs h => rw [e] at ok; obtain ⟨_, _, z⟩ := ok; cases z
  | no => rw [e] at ok; obtain ⟨_, _, z⟩ := ok; cases z
theorem e_sl {f : FV} {lo hi : Option FV} {a : Expr} {l u : Option Expr} {pos p2 : Pos} (ha : EOk X f a) (hl : POk X lo l) (hh : POk X hi u) : EOk X (vSl f lo hi) (.Subscript a (.Slice l u none p2) pos) := by
  refine ⟨TV.mono_iff (pe_slice slW ha.pe (p_part hl) (p_part hh)) fun σ H Q q => ?_, rfl⟩
  obtain ⟨α, σd, hd, R, S, q⟩ := q
  have q : PoW X.K α H ((f σd hd).bind fun x h => (partF lo σd h).bind fun l h => (partF hi σd h).bind fun u h => DL.R.ofO (getSl x l u h) h) Q := q
  refine TV.seq R S q.ok fun x hd1 α1 H1 v1 e g1 R1 S1 r n => ?_
  rw [e] at q
  have q := q.from g1 R1
  refine TO.seq R1 S1 q.ok fun l hd2 α2 H2 e2 g2 R2 S2 => ?_
  rw [e2] at q
  have q := q.from g2 R2
  refine TO.seq R2 S2 q.ok fun u hd3 α3 H3 e3 g3 R3 S3 => ?_
  rw [e3] at q
  exact ⟨α3, hd3, x, R3, (r.gr R1 g2).gr R2 g3, q.from g3 R3⟩
def vRev (f : FV) : FV := fun σ h => (f σ h).bind fun x h => R.ofO (revSl x h) h
theorem e_rev {f : FV} {a : Expr} {k : Nat} {p1 p2 p3 pos : Pos} (ha : EOk X f a) : EOk X (vRev f) (.Subscript a (.Slice none none (some (.UnaryOp .USub (.Constant (.int 1) k p1) p2)) p3) pos) :=
  ⟨TV.mono_iff (pe_revL ha.pe) fun _ _ _ q => TV_revL q, rfl⟩
def b2 (f g : FV) (k : W → W → Hd → Option Bool) : FB := fun σ h => (f σ h).bind fun x h => (g σ h).bind fun y h => R.ofO (k x y h) h
def blV (f : FB) : FV := fun σ h => (f σ h).bind fun b h => .ok (.v (.bl b)) h
abbrev bCmp (op : CmpOp) (f g : FV) : FB := b2 f g (cmpW op)
theorem PoB.blV {r : R Bool} {Q : VK} (h : PoW K α H (r.bind fun b h => .ok (.v (.bl b)) h) Q) : PoB K α H r fun b H' => Q (.bl b) H' := by
  cases r with
  | ok b hd' => exact fun α' H' g R' => h α' H' (.bl b) g R' rfl trivial
  | ex => exact h.elim
  | no => exact h.elim
theorem TB_op {op : CmpOp} {f g : FV} {σ : L2.St} {Q : VK} (q : TB K (bCmp op f g) σ H fun b H' => Q (.bl b) H') : tOp (rC K op) (TV K f) (TV K g) σ H Q := by
  obtain ⟨α, σd, hd, R, S, q⟩ := q
  have q : PoB K α H ((f σd hd).bind fun x h => (g σd h).bind fun y h => DL.R.ofO (cmpW op x y h) h) (fun b H' => Q (.bl b) H') := q
  refine TV.seq R S q.ok fun x hd1 α1 H1 v1 e g1 R1 S1 r n => ?_
  rw [e] at q
  have q := q.from g1
  refine TV.seq R1 S1 q.ok fun y hd2 α2 H2 v2 e2 g2 R2 S2 r2 n2 => ?_
  rw [e2] at q
  exact ⟨α2, hd2, x, y, R2, r.gr R1 g2, r2, q.from g2⟩
theorem TV_blV {f : FB} {σ : L2.St} {Q : VK} (q : TV K (blV f) σ H Q) : TB K f σ H fun b H' => Q (.bl b) H' := by
  obtain ⟨α, σd, hd, R, S, q⟩ := q
  exact ⟨α, σd, hd, R, S, PoB.blV (r := f σd hd) q⟩
theorem e_cmp (hu : Deep X) {op : CmpOp} {f g : FV} {a b : Expr} {pos : Pos} (ha : EOk X f a) (hb : EOk X g b) : EOk X (blV (bCmp op f g)) (.Compare a [op] [b] pos) :=
  ⟨TV.mono_iff (pe_cmpR (op_cmpW hu op) ha.pe hb.pe (behind_no hb.pl op)) fun _ _ _ q => TB_op (TV_blV q), rfl⟩
theorem t_cmp (hu : Deep X) {op : CmpOp} {f g : FV} {a b : Expr} {pos : Pos} (ha : EOk X f a) (hb : EOk X g b) : PT X (.Compare a [op] [b] pos) (TB X.K (bCmp op f g)) := by
  refine PT.weak (pt_cmpR (op_cmpW hu op) ha.pe hb.pe (behind_no hb.pl op)) fun σ H Q q => ?_
  have : tOp (rC X.K op) (TV X.K f) (TV X.K g) σ H fun x H' => ∃ k, x = V.bl k ∧ Q k H' := by
    refine TB_op ?_
    obtain ⟨α, σd, hd, R, S, q⟩ := q
    refine ⟨α, σd, hd, R, S, ?_⟩
    cases e : bCmp op f g σd hd with
    | ok b hd' =>
      rw [e] at q
      exact fun α' H' g R' => ⟨b, rfl, q α' H' g R'⟩
    | ex => rw [e] at q; exact q.elim
    | no => rw [e] at q; exact q.elim
  exact this
def bNot (f : FB) : FB := fun σ h => (f σ h).bind fun b h => .ok (!b) h
def bAnd (f g : FB) : FB := fun σ h => (f σ h).bind fun b h => if b = true then g σ h else .ok false h
def bOr (f g : FB) : FB := fun σ h => (f σ h).bind fun b h => if b = true then .ok true h else g σ h
theorem t_not {f : FB} {a : Expr} {pos : Pos} (ha : PT X a (TB X.K f)) : PT X (.UnaryOp .Not a pos) (TB X.K (bNot f)) := by
  refine PT.weak (pt_not ha) fun σ H Q q => ?_
  obtain ⟨α, σd, hd, R, S, q⟩ := q
  have q : PoB X.K α H ((f σd hd).bind fun b h => .ok (!b) h) Q := q
  refine TB.seq R S q.ok fun x hd1 α1 H1 e g R1 S1 => ?_
  rw [e] at q
  exact q α1 H1 g R1
theorem t_and {f g : FB} {a b : Expr} {rest : List Expr} {pos : Pos} (ha : PT X a (TB X.K f)) (hb : PW X (.BoolOp .And (b :: rest) pos) (TB X.K g)) : PW X (.BoolOp .And (a :: b :: rest) pos) (TB X.K (bAnd f g)) := by
  refine PW.weak (pw_and ha hb) fun σ H Q q => ?_
  obtain ⟨α, σd, hd, R, S, q⟩ := q
  have q : PoB X.K α H ((f σd hd).bind fun b h => if b = true then g σd h else .ok false h) Q := q
  refine TB.seq R S q.ok fun x hd1 α1 H1 e g1 R1 S1 => ?_
  rw [e] at q
  have q := q.from g1
  cases x with
  | true => exact ⟨α1, σd, hd1, R1, S1, q⟩
  | false => exact q.old R1
theorem t_or {f g : FB} {a b : Expr} {rest : List Expr} {pos : Pos} (ha : PT X a (TB X.K f)) (hb : PW X (.BoolOp .Or (b :: rest) pos) (TB X.K g)) : PW X (.BoolOp .Or (a :: b :: rest) pos) (TB X.K (bOr f g)) := by
  refine PW.weak (pw_or ha hb) fun σ H Q q => ?_
  obtain ⟨α, σd, hd, R, S, q⟩ := q
  have q : PoB X.K α H ((f σd hd).bind fun b h => if b = true then .ok true h else g σd h) Q := q
  refine TB.seq R S q.ok fun x hd1 α1 H1 e g1 R1 S1 => ?_
  rw [e] at q
  have q := q.from g1
  cases x with
  | false => exact ⟨α1, σd, hd1, R1, S1, q⟩
  | true => exact q.old R1
def vIf (c : FB) (f g : FV) : FV := fun σ h => (c σ h).bind fun b h => if b = true then f σ h else g σ h
theorem e_if {c : FB} {f g : FV} {t a b : Expr} {pos : Pos} (hc : PT X t (TB X.K c)) (ha : EOk X f a) (hb : EOk X g b) : EOk X (vIf c f g) (.IfExp t a b pos) := by
  refine ⟨TV.mono_iff (pe_ifExp hc ha.pe hb.pe) fun σ H Q q => ?_, rfl⟩
  obtain ⟨α, σd, hd, R, S, q⟩ := q
  have q : PoW X.K α H ((c σd hd).bind fun b h => if b = true then f σd h else g σd h) Q := q
  refine TB.seq R S q.ok fun x hd1 α1 H1 e g1 R1 S1 => ?_
  rw [e] at q
  have q := q.from g1 R1
  cases x with
  | true => exact ⟨α1, σd, hd1, R1, S1, q⟩
  | false => exact ⟨α1, σd, hd1, R1, S1, q⟩
def vNot (f : FV) : FV := fun σ h => (f σ h).bind fun w h => R.ofO ((w.truth h).map fun b => .v (.bl !b)) h
def vAnd (f g : FV) : FV := fun σ h => (f σ h).bind fun w h => (R.ofO (w.truth h) h).bind fun b h => if b = true then g σ h else .ok w h
def vOr (f g : FV) : FV := fun σ h => (f σ h).bind fun w h => (R.ofO (w.truth h) h).bind fun b h => if b = true then .ok w h else g σ h
theorem e_not {f : FV} {a : Expr} {pos : Pos} (ha : EOk X f a) : EOk X (vNot f) (.UnaryOp .Not a pos) := by
  refine ⟨TV.mono_iff (pe_notT ha.pe) fun σ H Q q => ?_, rfl⟩
  obtain ⟨α, σd, hd, R, S, q⟩ := q
  have q : PoW X.K α H ((f σd hd).bind fun w h => DL.R.ofO ((w.truth h).map fun b => .v (.bl !b)) h) Q := q
  refine TV.seq R S q.ok fun x hd1 α1 H1 v1 e g1 R1 S1 r n => ?_
  rw [e] at q
  obtain ⟨w, e1, q⟩ := ofO_W (q.from g1 R1)
  obtain ⟨b, e2, rfl⟩ := Option.map_eq_some_iff.mp e1
  exact ⟨b, tru_at R1 r e2, q.old (d := .bl !b) R1 rfl⟩
theorem PoW.same {w : W} {v : V} {Q : V → Hp → Prop} (h : PoW K α H (.ok w hd1) Q) (g : Gr α H α1 H1) (R1 : Rl K α1 hd1 H1) (r : RelW K α1 H1 w v) (n : NewW H w v) : Q v H1 := h α1 H1 v g R1 r n
theorem e_and {f g : FV} {a b : Expr} {rest : List Expr} {pos : Pos} (ha : EOk X f a) (hb : EOk X g (.BoolOp .And (b :: rest) pos)) : EOk X (vAnd f g) (.BoolOp .And (a :: b :: rest) pos) := by
  refine ⟨TV.mono_iff (pe_andT ha.pe hb.pe) fun σ H Q q => ?_, rfl⟩
  obtain ⟨α, σd, hd, R, S, q⟩ := q
  have q : PoW X.K α H ((f σd hd).bind fun w h => (DL.R.ofO (w.truth h) h).bind fun b h => if b = true then g σd h else .ok w h) Q := q
  refine TV.seq R S q.ok fun x hd1 α1 H1 v1 e g1 R1 S1 r n => ?_
  rw [e] at q
  cases e1 : x.truth hd1 with
  | none => rw [e1] at q; exact q.elim
  | some b =>
    rw [e1] at q
    refine ⟨b, tru_at R1 r e1, ?_⟩
    cases b with
    | true => exact ⟨α1, σd, hd1, R1, S1, q.from g1 R1⟩
    | false => exact q.same g1 R1 r n
theorem e_or {f g : FV} {a b : Expr} {rest : List Expr} {pos : Pos} (ha : EOk X f a) (hb : EOk X g (.BoolOp .Or (b :: rest) pos)) : EOk X (vOr f g) (.BoolOp .Or (a :: b :: rest) pos) := by
  refine ⟨TV.mono_iff (pe_orT ha.pe hb.pe) fun σ H Q q => ?_, rfl⟩
  obtain ⟨α, σd, hd, R, S, q⟩ := q
  have q : PoW X.K α H ((f σd hd).bind fun w h => (DL.R.ofO (w.truth h) h).bind fun b h => if b = true then .ok w h else g σd h) Q := q
  refine TV.seq R S q.ok fun x hd1 α1 H1 v1 e g1 R1 S1 r n => ?_
  rw [e] at q
  cases e1 : x.truth hd1 with
  | none => rw [e1] at q; exact q.elim
  | some b =>
    rw [e1] at q
    refine ⟨b, tru_at R1 r e1, ?_⟩
    cases b with
    | false => exact ⟨α1, σd, hd1, R1, S1, q.from g1 R1⟩
    | true => exact q.same g1 R1 r n
theorem e_one {op : BoolOp} {f : FV} {a : Expr} {pos : Pos} (ha : EOk X f a) : EOk X f (.BoolOp op [a] pos) := ⟨pe_one ha.pe, rfl⟩
end DL
namespace DL
open PySem PySem.Spec PyProof.Rows L2

variable {K : PySem.W.Frag}
variable {α α' α'' α1 : List Addr} {H H' H'' H1 : Hp} {hd hd' hd1 : Hd} {a p : Addr}
variable {X : Cx}
def v1 (f : FV) (k : W → Hd → R W) : FV := fun σ h => (f σ h).bind fun x h => k x h
abbrev vB1 (fn : W → Hd → Option W) (f : FV) : FV := v1 f fun x h => R.ofO (fn x h) h
theorem TV_b1 {f : FV} {fn : W → Hd → Option W} {σ : L2.St} {Q : VK} (q : TV K (vB1 fn f) σ H Q) : tCB (r1 K fn) (tCons (TV K f) tNil) σ H Q := by
  obtain ⟨α, σd, hd, R, S, q⟩ := q
  have q : PoW K α H ((f σd hd).bind fun x h => DL.R.ofO (fn x h) h) Q := q
  refine TV.seq R S q.ok fun x hd1 α1 H1 v1 e g1 R1 S1 r n => ?_
  rw [e] at q
  exact ⟨α1, hd1, x, v1, rfl, R1, r, q.from g1 R1⟩
theorem e_callB {id : String} {x : Str} {f : FV} {fn : W → Hd → Option W} {e : Expr} {p pos : Pos} (hc : CallR X (.builtin id) (r1 X.K fn)) (hg : Gl X x) (hm : X.mg x = none) (hv : bootBuiltins x = some (.builtin id))
    (hn : x ≠ "__name__") (hdb : (x == ("__debug__" : Str)) = false) (he : EOk X f e) : EOk X (vB1 fn f) (.Call (.Name x p) [e] [] pos) := by
  have pl : [e].all plainE = true := by rw [List.all_cons, he.pl]; rfl
  exact ⟨TV.mono_iff (pe_callB hc hg hm hv (pa_cons he.pe pa_nil (star_cons he.pl _ _)) hn hdb (star_cons he.pl _ _) (stars_any (es := []) rfl)) fun _ _ _ q => TV_b1 q, rfl⟩
theorem e_callT {T : String} {x : Str} {f : FV} {fn : W → Hd → Option W} {e : Expr} {p pos : Pos} (hc : CallR X (.type T) (r1 X.K fn)) (hg : Gl X x) (hm : X.mg x = none) (hv : bootBuiltins x = some (.type T))
    (hn : x ≠ "__name__") (hdb : (x == ("__debug__" : Str)) = false) (he : EOk X f e) : EOk X (vB1 fn f) (.Call (.Name x p) [e] [] pos) :=
  ⟨TV.mono_iff (pe_callTy hc hg hm hv (pa_cons he.pe pa_nil (star_cons he.pl _ _)) hn hdb (star_cons he.pl _ _) (stars_any (es := []) rfl)) fun _ _ _ q => TV_b1 q, rfl⟩
abbrev vB2 (fn : W → W → Option W) (f g : FV) : FV := v2 f g fun x y h => R.ofO (fn x y) h
theorem e_callB2 {id : String} {x : Str} {f g : FV} {fn : W → W → Option W} {e e' : Expr} {p pos : Pos} (hc : CallR X (.builtin id) (r2 X.K fn)) (hg : Gl X x) (hm : X.mg x = none) (hv : bootBuiltins x = some (.builtin id))
    (hn : x ≠ "__name__") (hdb : (x == ("__debug__" : Str)) = false) (he : EOk X f e) (he' : EOk X g e') : EOk X (vB2 fn f g) (.Call (.Name x p) [e, e'] [] pos) := by
  refine ⟨TV.mono_iff (pe_callB hc hg hm hv (pa_cons he.pe (pa_cons he'.pe pa_nil (star_cons he'.pl _ _)) (star_cons he.pl _ _)) hn hdb (star_cons he.pl _ _) (stars_any (es := [e']) (by rw [List.all_cons, he'.pl]; rfl))) fun σ H Q q => ?_, rfl⟩
  obtain ⟨α, σd, hd, R, S, q⟩ := q
  have q : PoW X.K α H ((f σd hd).bind fun x h => (g σd h).bind fun y h => DL.R.ofO (fn x y) h) Q := q
  refine TV.seq R S q.ok fun x hd1 α1 H1 v1 e g1 R1 S1 r n => ?_
  rw [e] at q
  have q := q.from g1 R1
  refine TV.seq R1 S1 q.ok fun y hd2 α2 H2 v2 e2 g2 R2 S2 r2 n2 => ?_
  rw [e2] at q
  exact ⟨α2, hd2, x, y, v1, v2, rfl, R2, r.gr R1 g2, r2, q.from g2 R2⟩
theorem kit_bool (t : Ty) : kitB "bool" t.nm = some (t == .bool || t == .int) := by cases t <;> decide +kernel
theorem kit_int (t : Ty) : kitB "int" t.nm = some (t == .int) := by cases t <;> decide +kernel
theorem kit_str (t : Ty) : kitB "str" t.nm = some (t == .str) := by cases t <;> decide +kernel
theorem kit_tuple (t : Ty) : kitB "tuple" t.nm = some (t == .tuple) := by cases t <;> decide +kernel
theorem kit_list (t : Ty) : kitB "list" t.nm = some (t == .list) := by cases t <;> decide +kernel
theorem kit_dict (t : Ty) : kitB "dict" t.nm = some (t == .dict) := by cases t <;> decide +kernel
theorem kit_none (t : Ty) : kitB "NoneType" t.nm = some false := by cases t <;> decide +kernel
theorem ty_at {t : Ty} {w : W} {x : V} {b : Bool} (R : Rl K α hd H) (r : RelW K α H w x) (h : isTy t w hd = some b) : ∃ T, TyX K H x (.type T) ∧ kitB T t.nm = some b := by
  cases w with
  | l xs =>
    cases h
    obtain ⟨a, vs, rfl, ha, _⟩ := r
    exact ⟨_, .base (.lst ha), kit_list t⟩
  | v d =>
    cases d with
    | non => cases h; cases (show x = V.non from r); exact ⟨_, .base .non, kit_none t⟩
    | bl b => cases h; cases (show x = V.bl b from r); exact ⟨_, .base (.bl b), kit_bool t⟩
    | int i => cases h; cases (show x = V.int i from r); exact ⟨_, .base (.int i), kit_int t⟩
    | str s => cases h; cases (show x = V.str (mkS s) from r); exact ⟨_, .base (.str _), kit_str t⟩
    | tup xs => cases h; obtain ⟨a, vs, rfl, ha, _⟩ := r; exact ⟨_, .base (.tup ha), kit_tuple t⟩
    | ro xs =>
      cases h
      obtain ⟨a, vs, rfl, hr, _⟩ := r
      rcases hr with ⟨o, hr⟩ | ⟨o, its, n, hk, hc, _⟩
      · exact ⟨_, .base (.frz hr), kit_list t⟩
      · exact ⟨_, .kList hk hc, kit_list t⟩
    | obj n =>
      obtain ⟨a, e, rfl⟩ := r
      simp only [isTy] at h
      split at h
      · rename_i xs ho
        cases h
        obtain ⟨vs, e2, _⟩ := R.ob n _ a ho e
        exact ⟨_, .base (.lst e2), kit_list t⟩
      · rename_i xs ho
        cases h
        obtain ⟨vs, e2, _⟩ := R.ob n _ a ho e
        exact ⟨_, .base (.dK e2), kit_dict t⟩
      · rename_i xs ho
        cases h
        obtain ⟨vs, e2, _⟩ := R.ob n _ a ho e
        exact ⟨_, .base (.dT e2), kit_dict t⟩
      · cases h
def bIsi (t : Ty) (f : FV) : FB := fun σ h => (f σ h).bind fun w h => R.ofO (isTy t w h) h
theorem e_isi {t : Ty} {f : FV} {e : Expr} {p p2 pos : Pos} (hg : Gl X "isinstance") (hm : X.mg "isinstance" = none) (hg2 : Gl X (Str.ofString t.nm)) (hm2 : X.mg (Str.ofString t.nm) = none)
    (he : EOk X f e) : EOk X (blV (bIsi t f)) (.Call (.Name "isinstance" p) [e, .Name (Str.ofString t.nm) p2] [] pos) := by
  have hb : PE X (.Name (Str.ofString t.nm) p2) (tC (.ty t.nm)) := by
    cases t <;> exact pe_bltn hg2 hm2 (u := .type _) (by decide +kernel) rfl (by decide) (by decide)
  refine ⟨TV.mono_iff (pe_callB call_isi hg hm (by decide +kernel) (pa_cons he.pe (pa_cons hb pa_nil (star_cons rfl _ _)) (star_cons he.pl _ _)) (by decide) (by decide) (star_cons he.pl _ _) (stars_any (es := [.Name _ _]) rfl)) fun σ H Q q => ?_, rfl⟩
  obtain ⟨α, σd, hd, R, S, q⟩ := TV_blV q
  have q : PoB X.K α H ((f σd hd).bind fun w h => DL.R.ofO (isTy t w h) h) (fun b H' => Q (.bl b) H') := q
  refine TV.seq R S q.ok fun x hd1 α1 H1 v1 e g1 R1 S1 r n => ?_
  rw [e] at q
  obtain ⟨b, e1, q⟩ := ofO_B R1 (q.from g1)
  obtain ⟨T, ty, k⟩ := ty_at R1 r e1
  exact ⟨v1, .ty t.nm, .type T, .type t.nm, b, rfl, .ty _, ty, kit_ty k, q⟩
def spD (K : PySem.W.Frag) (n : Nat) (cl : List D → Hd → R W) : Sp := fun vs H Q _ => ∃ α hd ds, Rl K α hd H ∧ RelDs K α H ds vs ∧ ds.length = n ∧ PoW K α H (cl ds hd) Q
theorem vSeq_len {σd : Sd} : ∀ {fs : List FV} {hd0 : Hd} {ds : List D} {h' : Hd}, vSeq fs σd hd0 = .ok ds h' → ds.length = fs.length
  | [], hd0, ds, h', e => by cases e; rfl
  | f :: fs, hd0, ds, h', e => by
    have e : ((f σd hd0).bind fun w h => (w.settle h).bind fun d h => (vSeq fs σd h).bind fun ds h => .ok (d :: ds) h) = .ok ds h' := e
    cases e1 : f σd hd0 with
    | ok w h1 =>
      rw [e1] at e
      cases w with
      | v d =>
        simp only [DL.R.bind_ok, settle_v] at e
        cases e2 : vSeq fs σd h1 with
        | ok ds2 h2 => rw [e2] at e; cases e; rw [List.length_cons, List.length_cons, vSeq_len e2]
        | ex => rw [e2] at e; cases e
        | no => rw [e2] at e; cases e
      | l xs =>
        simp only [DL.R.bind_ok, settle_l] at e
        cases e2 : vSeq fs σd (h1 ++ [.lst xs]) with
        | ok ds2 h2 => rw [e2] at e; cases e; rw [List.length_cons, List.length_cons, vSeq_len e2]
        | ex => rw [e2] at e; cases e
        | no => rw [e2] at e; cases e
    | ex => rw [e1] at e; cases e
    | no => rw [e1] at e; cases e
def vCall (cl : List D → Hd → R W) (dds : List D) (fs : List FV) : FV := fun σ h => (vSeq fs σ h).bind fun ds h => cl (ds ++ dds) h
theorem TV_call {n : Nat} {cl : List D → Hd → R W} {dds : List D} {dvs : List V} {fs : List FV} {E : XK} {σ : L2.St} {Q : VK} (hn : fs.length + dds.length = n) (hd : ∀ α H, RelDs K α H dds dvs) (q : TV K (vCall cl dds fs) σ H Q) :
    tCall (spD K n cl) dvs E (TL K (vSeq fs)) σ H Q := by
  obtain ⟨α, σd, hd0, R, S, q⟩ := q
  have q : PoW K α H ((vSeq fs σd hd0).bind fun ds h => cl (ds ++ dds) h) Q := q
  cases e0 : vSeq fs σd hd0 with
  | ok ds h1 =>
    refine ⟨α, σd, hd0, R, S, ?_⟩
    rw [e0] at q ⊢
    intro α1 H1 vs g1 R1 rs
    exact ⟨α1, h1, ds ++ dds, R1, rs.append (hd _ _), by rw [List.length_append, vSeq_len e0]; exact hn, q.from g1 R1⟩
  | ex => rw [e0] at q; exact q.elim
  | no => rw [e0] at q; exact q.elim
theorem e_call {k n : Nat} {f : Addr} {fd : FuncData} {ps : List Str} {cl : List D → Hd → R W} {dds : List D} {dvs : List V} {ds : List Value} {fs : List FV} {x : Str} {e : Expr} {es : List Expr} {p pos : Pos}
    (F : FnOk X.prog X.w X.K X.mg X.base CX0 k f fd ps (spD X.K n cl)) (hr : Room k X.A) (hg : Gl X x) (hm : X.mg x = some (.ref f)) (hk : PySem.W.keepIn X.K (.ref f) = true) (hb : Binds X.K fd ps ds) (hv : Vals dvs ds)
    (hd : ∀ α H, RelDs X.K α H dds dvs) (hn : fs.length + dds.length = n) (hdb : (x == ("__debug__" : Str)) = false) (h : EsOk X fs (e :: es)) : EOk X (vCall cl dds fs) (.Call (.Name x p) (e :: es) [] pos) := by
  have pl := h.plain
  rw [List.all_cons, Bool.and_eq_true] at pl
  exact ⟨TV.mono_iff (pe_call F hr hg hm hk hb hv pass0 (a_seq h) hdb (star_cons pl.1 _ _) (stars_any pl.2)) fun _ _ _ q => TV_call hn hd q, rfl⟩
theorem e_call0 {k n : Nat} {f : Addr} {fd : FuncData} {ps : List Str} {cl : List D → Hd → R W} {dds : List D} {dvs : List V} {ds : List Value} {x : Str} {p pos : Pos}
    (F : FnOk X.prog X.w X.K X.mg X.base CX0 k f fd ps (spD X.K n cl)) (hr : Room k X.A) (hg : Gl X x) (hm : X.mg x = some (.ref f)) (hk : PySem.W.keepIn X.K (.ref f) = true) (hb : Binds X.K fd ps ds) (hv : Vals dvs ds)
    (hd : ∀ α H, RelDs X.K α H dds dvs) (hn : dds.length = n) (hdb : (x == ("__debug__" : Str)) = false) (hs : (x != "super") = true) : EOk X (vCall cl dds []) (.Call (.Name x p) [] [] pos) := by
  refine ⟨TV.mono_iff (pe_call0 F hr hg hm hk hb hv pass0 hdb) fun σ H Q q => ?_, hs⟩
  obtain ⟨α, σd, hd0, R, S, q⟩ := q
  exact ⟨α, hd0, dds, R, hd _ _, hn, q⟩
theorem PoW.setO {n : Nat} {o : O} {u : HO} {d : D} {v : V} {Q : V → Hp → Prop} {u0 : HO} (R : Rl K α hd H) (hp : α[n]? = some a) (h0 : H a = some u0) (hf : noFz u0 = true) (ho : RelO K α (upd H a u) a o) (r : RelD K α H d v) (h : PoW K α H (.ok (.v d) (hd.set n o)) Q) : Q v (upd H a u) :=
  h α _ v (Gr.set hp h0 hf u) (R.set hp h0 hf ho) (RelD.gr R (Gr.set hp h0 hf u) r) trivial
theorem RelO.newLst {n : Nat} {xs : List D} {vs : List V} {u0 : HO} (R : Rl K α hd H) (hp : α[n]? = some a) (h0 : H a = some u0) (hf : noFz u0 = true) (hx : RelDs K α H xs vs) : RelO K α (upd H a (.lst vs)) a (.lst xs) :=
  ⟨vs, upd_same, hx.gr R (Gr.set hp h0 hf _)⟩
theorem R.okOf {A B : Type} {r : R A} {f : A → Hd → R B} (h : ∃ b h', r.bind f = .ok b h') : ∃ a h', r = .ok a h' := by
  cases r with
  | ok a h' => exact ⟨a, h', rfl⟩
  | ex => obtain ⟨_, _, e⟩ := h; cases e
  | no => obtain ⟨_, _, e⟩ := h; cases e
theorem lst_of {n : Nat} {xs : List D} {x : V} (R : Rl K α hd H) (r : RelW K α H (.v (.obj n)) x) (ho : hd[n]? = some (.lst xs)) : ∃ a vs, α[n]? = some a ∧ x = .ref a ∧ H a = some (.lst vs) ∧ RelDs K α H xs vs := by
  obtain ⟨a, e, ex⟩ := r
  obtain ⟨vs, e2, hx⟩ := R.ob n _ a ho e
  exact ⟨a, vs, e, ex, e2, hx⟩
theorem lastIx (xs : List D) : xs[xs.length - 1]? = xs.getLast? := by rw [List.getLast?_eq_getElem?]
theorem tyL {a : Addr} {vs : List V} (h : H a = some (.lst vs)) : tyV K "list" (.ref a) H := .inl ⟨rfl, _, SqL.of h⟩
def line1 (apos cpos : Pos) : Bool := apos.endLine == cpos.line
theorem few1 {e : Expr} {cpos : Pos} {env : Env} (h : plainE e = true) : ((backTo cpos (starEach [e] env)).all (fun x => !x.1) && (backToKw cpos (keywordEach [] env)).all (fun x => x.1.isSome)
      && decide (([e] : List Expr).length + ([] : List Keyword).length + (if ([] : List Keyword).isEmpty then 0 else 1) < 30)) = true := by
  rw [stars_all (by rw [List.all_cons, h]; rfl)]
  rfl
theorem few2 {e f : Expr} {cpos : Pos} {env : Env} (h : plainE e = true) (h' : plainE f = true) : ((backTo cpos (starEach [e, f] env)).all (fun x => !x.1) && (backToKw cpos (keywordEach [] env)).all (fun x => x.1.isSome)
      && decide (([e, f] : List Expr).length + ([] : List Keyword).length + (if ([] : List Keyword).isEmpty then 0 else 1) < 30)) = true := by
  rw [stars_all (by rw [List.all_cons, List.all_cons, h, h']; rfl)]
  rfl
theorem m1_of {o e : Expr} {m : Str} {apos cpos : Pos} (ho : plainE o = true) (he : plainE e = true) (hl : line1 apos cpos = true) : L2.M1 X o m apos e cpos :=
  ⟨attr_no ho _ _, few1 he, hl, by rw [star_cons he]; rfl⟩
theorem m2_of {o e f : Expr} {m : Str} {apos cpos : Pos} (ho : plainE o = true) (he : plainE e = true) (hf : plainE f = true) (hl : line1 apos cpos = true) : L2.M2 X o m apos e f cpos :=
  ⟨attr_no ho _ _, few2 he hf, hl, by rw [star_cons he, star_cons hf]; rfl⟩
theorem e_pop0 {f : FV} {o : Expr} {apos cpos : Pos} (ho : EOk X f o) (hl : line1 apos cpos = true) : EOk X (v1 f (mt0 .pop)) (.Call (.Attribute o "pop" apos) [] [] cpos) := by
  refine ⟨TV.mono_iff (pe_bm0 PySem.F.plainAttrs_list PySem.F.slot_list_pop PySem.F.type_list_pop mt_pop ho.pe (attr_no ho.pl _ _) hl) fun σ H Q q => ?_, rfl⟩
  obtain ⟨α, σd, hd, R, S, q⟩ := q
  have q : PoW X.K α H ((f σd hd).bind fun x h => mt0 .pop x h) Q := q
  refine TV.seq R S q.ok fun x hd1 α1 H1 v1 e g1 R1 S1 r n => ?_
  rw [e] at q
  have q := q.from g1 R1
  cases x with
  | l xs => exact q.elim
  | v d =>
    cases d with
    | obj n =>
      simp only [mt0] at q
      split at q
      · rename_i xs ho
        obtain ⟨a, vs, e1, rfl, e2, hx⟩ := lst_of R1 r ho
        split at q
        · rename_i y ey
          obtain ⟨v, ev, rv⟩ := hx.get ey
          refine ⟨tyL e2, a, vs, v, rfl, rfl, e2, by rw [hx.length]; exact ev, ?_⟩
          exact q.setO R1 e1 e2 rfl (RelO.newLst R1 e1 e2 rfl hx.dropLast) rv
        · exact q.elim
      · exact q.elim
    | _ => exact q.elim
theorem e_reverse {f : FV} {o : Expr} {apos cpos : Pos} (ho : EOk X f o) (hl : line1 apos cpos = true) : EOk X (v1 f (mt0 .reverse)) (.Call (.Attribute o "reverse" apos) [] [] cpos) := by
  refine ⟨TV.mono_iff (pe_bm0 PySem.F.plainAttrs_list PySem.F.slot_list_reverse PySem.F.type_list_reverse mt_reverse ho.pe (attr_no ho.pl _ _) hl) fun σ H Q q => ?_, rfl⟩
  obtain ⟨α, σd, hd, R, S, q⟩ := q
  have q : PoW X.K α H ((f σd hd).bind fun x h => mt0 .reverse x h) Q := q
  refine TV.seq R S q.ok fun x hd1 α1 H1 v1 e g1 R1 S1 r n => ?_
  rw [e] at q
  have q := q.from g1 R1
  cases x with
  | l xs => exact q.elim
  | v d =>
    cases d with
    | obj n =>
      simp only [mt0] at q
      split at q
      · rename_i xs ho
        obtain ⟨a, vs, e1, rfl, e2, hx⟩ := lst_of R1 r ho
        exact ⟨tyL e2, a, vs, rfl, rfl, e2, q.setO (d := .non) R1 e1 e2 rfl (RelO.newLst R1 e1 e2 rfl hx.reverse) rfl⟩
      · exact q.elim
    | _ => exact q.elim
def isL (x : W) (h : Hd) : Bool := match x with
  | .v (.obj n) => match h[n]? with
    | some (.lst _) => true
    | _ => false
  | _ => false
def isS (x : W) (_ : Hd) : Bool := match x with
  | .v (.str _) => true
  | _ => false
def isDk (x : W) (h : Hd) : Bool := match x with
  | .v (.obj n) => match h[n]? with
    | some (.dK _) => true
    | some (.dT _) => true
    | some (.lkK _) => true
    | some (.lkT _) => true
    | _ => false
  | _ => false
def v2m (c : W → Hd → Bool) (f g : FV) (k : W → W → Hd → R W) : FV := fun σ h => (f σ h).bind fun x h => if c x h = true then (g σ h).bind fun y h => k x y h else .no
theorem isL_at {w : W} {x : V} (R : Rl K α hd H) (r : RelW K α H w x) (h : isL w hd = true) : tyV K "list" x H := by
  cases w with
  | l xs => cases h
  | v d =>
    cases d with
    | obj n =>
      simp only [isL] at h
      split at h
      · rename_i xs ho
        obtain ⟨a, vs, e1, rfl, e2, hx⟩ := lst_of R r ho
        exact tyL e2
      · cases h
    | _ => cases h
theorem isS_at {w : W} {x : V} (r : RelW K α H w x) (h : isS w hd = true) : tyV K "str" x H := by
  cases w with
  | l xs => cases h
  | v d =>
    cases d with
    | str s => cases (show x = V.str (mkS s) from r); rfl
    | _ => cases h
theorem TV_bm {c : W → Hd → Bool} {f g : FV} {k : W → W → Hd → R W} {T : String} {r : V → List V → Hp → VK → Prop} {σ : L2.St} {Q : VK}
    (ty : ∀ {w x hd α H}, Rl K α hd H → RelW K α H w x → c w hd = true → tyV K T x H)
    (rule : ∀ {w x y v hd α H} {Q : VK}, Rl K α hd H → RelW K α H w x → RelW K α H y v → (∀ xs, y = .l xs → ∀ a, v = .ref a → a ∉ α) → PoW K α H (k w y hd) Q → r x [v] H Q)
    (q : TV K (v2m c f g k) σ H Q) : tBM K T r (TV K f) (tCons (TV K g) tNil) σ H Q := by
  obtain ⟨α, σd, hd, R, S, q⟩ := q
  have q : PoW K α H ((f σd hd).bind fun x h => if c x h = true then (g σd h).bind fun y h => k x y h else .no) Q := q
  refine TV.seq R S q.ok fun x hd1 α1 H1 v1 e g1 R1 S1 rx nw => ?_
  rw [e] at q
  have q := q.from g1 R1
  split at q
  · rename_i hc
    refine ⟨ty R1 rx hc, ?_⟩
    refine TV.seq R1 S1 q.ok fun y hd2 α2 H2 v2 e2 g2 R2 S2 r2 n2 => ?_
    rw [e2] at q
    refine rule R2 (rx.gr R1 g2) r2 (fun xs ey a ev => ?_) (q.from g2 R2)
    subst ey
    obtain ⟨b, vs, e3, _, hn, _⟩ := r2
    rw [e3] at ev
    cases ev
    exact hn
  · exact q.elim
theorem e_append {f g : FV} {o e : Expr} {apos cpos : Pos} (ho : EOk X f o) (he : EOk X g e) (hl : line1 apos cpos = true) : EOk X (v2m isL f (vSet g) (mt1 .append)) (.Call (.Attribute o "append" apos) [e] [] cpos) := by
  refine ⟨TV.mono_iff (pe_bm PySem.F.plainAttrs_list PySem.F.slot_list_append PySem.F.type_list_append mt_append ho.pe (pa_cons (e_set he).pe pa_nil (star_cons he.pl _ _)) (attr_no ho.pl _ _) (few1 he.pl) hl (star_cons he.pl _ _) (stars_any (es := []) rfl)) fun σ H Q q => ?_, rfl⟩
  refine TV_bm (fun R r c => isL_at R r c) (fun {w x y v hd α H Q} R rw ry _ q => ?_) q
  cases w with
  | l xs => exact q.elim
  | v d =>
    cases d with
    | obj n =>
      simp only [mt1] at q
      split at q
      · rename_i xs ho
        cases y with
        | l ys => exact q.elim
        | v d' =>
          obtain ⟨a, vs, e1, rfl, e2, hx⟩ := lst_of R rw ho
          simp only at q
          split at q
          · rename_i hz
            refine ⟨a, vs, v, rfl, rfl, e2, by rw [hx.length]; exact hz, ?_⟩
            exact q.setO (d := .non) R e1 e2 rfl (RelO.newLst R e1 e2 rfl (hx.append (es := [d']) (show RelDs X.K α H [d'] [v] from ⟨v, [], rfl, ry, rfl⟩))) rfl
          · exact q.elim
      · exact q.elim
    | _ => exact q.elim
theorem e_extend {f g : FV} {o e : Expr} {apos cpos : Pos} (ho : EOk X f o) (he : EOk X g e) (hl : line1 apos cpos = true) : EOk X (v2m isL f g (mt1 .extend)) (.Call (.Attribute o "extend" apos) [e] [] cpos) := by
  refine ⟨TV.mono_iff (pe_bm PySem.F.plainAttrs_list PySem.F.slot_list_extend PySem.F.type_list_extend mt_extend ho.pe (pa_cons he.pe pa_nil (star_cons he.pl _ _)) (attr_no ho.pl _ _) (few1 he.pl) hl (star_cons he.pl _ _) (stars_any (es := []) rfl)) fun σ H Q q => ?_, rfl⟩
  refine TV_bm (fun R r c => isL_at R r c) (fun {w x y v hd α H Q} R rw ry _ q => ?_) q
  cases w with
  | l xs => exact q.elim
  | v d =>
    cases d with
    | obj n =>
      simp only [mt1] at q
      split at q
      · rename_i xs ho
        obtain ⟨a, vs, e1, rfl, e2, hx⟩ := lst_of R rw ho
        split at q
        · rename_i ys ey
          obtain ⟨b, ws, rfl, e3, hy⟩ := lst_at R ry ey
          split at q
          · rename_i hz
            refine ⟨a, b, vs, ws, rfl, rfl, e2, e3, by rw [hx.length, hy.length]; exact hz, ?_⟩
            exact q.setO (d := .non) R e1 e2 rfl (RelO.newLst R e1 e2 rfl (hx.append hy)) rfl
          · exact q.elim
        · exact q.elim
      · exact q.elim
    | _ => exact q.elim
theorem e_popAt {f g : FV} {o e : Expr} {apos cpos : Pos} (ho : EOk X f o) (he : EOk X g e) (hl : line1 apos cpos = true) : EOk X (v2m isL f g (mt1 .pop)) (.Call (.Attribute o "pop" apos) [e] [] cpos) := by
  refine ⟨TV.mono_iff (pe_bm PySem.F.plainAttrs_list PySem.F.slot_list_pop PySem.F.type_list_pop mt_popAt ho.pe (pa_cons he.pe pa_nil (star_cons he.pl _ _)) (attr_no ho.pl _ _) (few1 he.pl) hl (star_cons he.pl _ _) (stars_any (es := []) rfl)) fun σ H Q q => ?_, rfl⟩
  refine TV_bm (fun R r c => isL_at R r c) (fun {w x y v hd α H Q} R rw ry _ q => ?_) q
  cases w with
  | l xs => exact q.elim
  | v d =>
    cases d with
    | obj n =>
      simp only [mt1] at q
      split at q
      · rename_i xs ho
        obtain ⟨a, vs, e1, rfl, e2, hx⟩ := lst_of R rw ho
        cases y with
        | l ys => exact q.elim
        | v d' =>
          cases d' with
          | int i =>
            simp only at q
            split at q
            · rename_i hz
              split at q
              · rename_i k ek
                split at q
                · rename_i z ez
                  obtain ⟨v', ev, rv⟩ := hx.get ez
                  refine ⟨a, vs, i, k, v', rfl, by rw [show v = V.int i from ry], e2, hz.1, hz.2, by rw [hx.length]; exact ek, ev, ?_⟩
                  exact q.setO R e1 e2 rfl (RelO.newLst R e1 e2 rfl (hx.erase k)) rv
                · exact q.elim
              · exact q.elim
            · exact q.elim
          | _ => exact q.elim
      · exact q.elim
    | _ => exact q.elim
theorem joinD_eq (a : List Nat) : ∀ ys : List (List Nat), joinD a ys = TL.joinL a ys
  | [] => rfl
  | [x] => by first | rfl | simp [joinD, TL.joinL]
  | x :: y :: r => by
    have := joinD_eq a (y :: r)
    simp only [joinD, this]
    first | rfl | simp [TL.joinL]
theorem e_join {f g : FV} {o e : Expr} {apos cpos : Pos} (ho : EOk X f o) (he : EOk X g e) (hl : line1 apos cpos = true) : EOk X (v2m isS f g (mt1 .join)) (.Call (.Attribute o "join" apos) [e] [] cpos) := by
  refine ⟨TV.mono_iff (pe_bm PySem.F.plainAttrs_str PySem.F.slot_str_join PySem.F.type_str_join mt_join ho.pe (pa_cons he.pe pa_nil (star_cons he.pl _ _)) (attr_no ho.pl _ _) (few1 he.pl) hl (star_cons he.pl _ _) (stars_any (es := []) rfl)) fun σ H Q q => ?_, rfl⟩
  refine TV_bm (fun R r c => isS_at r c) (fun {w x y v hd α H Q} R rw ry _ q => ?_) q
  cases w with
  | l xs => exact q.elim
  | v d =>
    cases d with
    | str sep =>
      cases (show x = V.str (mkS sep) from rw)
      simp only [mt1] at q
      split at q
      · rename_i xs exs
        split at q
        · rename_i ys eys
          split at q
          · rename_i hz
            obtain ⟨a, vs, rfl, hq, hx⟩ := seq_at R ry exs
            rw [strsOf_at eys hx] at hq
            have el : ((ys.map mkS).map (·.length)).sum + (ys.map mkS).length * (mkS sep).length ≤ 16777216 := by
              rw [List.map_map, List.length_map, mkS_len]
              have : ((fun x : Str => x.length) ∘ mkS) = fun l : List Nat => l.length := by
                funext l
                exact mkS_len l
              rw [this]
              exact hz
            refine ⟨mkS sep, a, ys.map mkS, rfl, rfl, hq, el, ?_⟩
            have e3 : Txt.join (mkS sep) (ys.map mkS) = mkS (joinD sep ys) := by
              rw [joinD_eq]
              exact SX.join_S sep ys
            rw [e3]
            exact q.old (d := .str (joinD sep ys)) R rfl
          · exact q.elim
        · exact q.elim
      · exact q.elim
    | _ => exact q.elim
theorem isD_of {w : W} {x : V} (R : Rl K α hd H) (r : RelW K α H w x) (h : isDk w hd = true) : ∃ a, x = .ref a ∧ IsD H a := by
  cases w with
  | l xs => cases h
  | v d =>
    cases d with
    | obj n =>
      obtain ⟨a, e, rfl⟩ := r
      simp only [isDk] at h
      split at h
      · rename_i kvs ho
        obtain ⟨l, e2, _⟩ := R.ob n _ a ho e
        exact ⟨a, rfl, .inl ⟨l, .inl e2⟩⟩
      · rename_i kvs ho
        obtain ⟨l, e2, _⟩ := R.ob n _ a ho e
        exact ⟨a, rfl, .inr ⟨l, .inl e2⟩⟩
      · rename_i kvs ho
        obtain ⟨_, l, e2, _⟩ := R.ob n _ a ho e
        exact ⟨a, rfl, .inl ⟨l, .inr ⟨_, e2⟩⟩⟩
      · rename_i kvs ho
        obtain ⟨_, l, e2, _⟩ := R.ob n _ a ho e
        exact ⟨a, rfl, .inr ⟨l, .inr ⟨_, e2⟩⟩⟩
      · cases h
    | _ => cases h
theorem RelOpt.getD {d : Option D} {v : Option V} (h : RelOpt K α H d v) {e : D} {z : V} (r : RelD K α H e z) : RelD K α H (d.getD e) (v.getD z) := by
  cases d with
  | none => rw [show v = none from h]; exact r
  | some d =>
    obtain ⟨x, rfl, rx⟩ := h
    exact rx
theorem cnt_at {w : W} {xs : List D} {a : Addr} {vs : List V} {y : V} {i : Int} (hu : Deep X) {pins : List (Addr × Obj)} {s : Shared} {σ : L2.St} {u : Value} {Q : V → Hp → Prop} (R : Rl X.K α hd H) (I : Inv X pins σ H s) (ha : H a = some (.lst vs)) (hx : RelDs X.K α H xs vs) (ry : RelW X.K α H w y) (ru : RelV y u)
    (e : cntW w xs hd = some i) (q : Q (.int i) H) : wpAny (model X.prog X.w) X.A (call (.builtin "list.count") [.ref a, u]) (EP X pins σ Q) X.xe s := by
  unfold cntW at e
  split at e
  · rename_i ps p e1 e2
    split at e
    · rename_i c
      cases e
      obtain ⟨bs, r1⟩ := Dp.reads I p y u (wpy_at R e2 ry) ru
      obtain ⟨its, rv, ⟨⟨cls, dd, data, sls⟩, n, ho, hc, hdn, hdt⟩, hlen⟩ := I.list (SqL.of ha)
      simp only at hc hdt
      subst hc hdt
      obtain ⟨as, h4⟩ := Dp.readsAll I ps _ its (pys_at e1 hx) rv
      have hmap : its.map (SeqAt.readOf s.heap) = ps := SeqAt.readsAll_map ps its as c.1 h4
      have room : X.A.units + 1 + min (PyData.depthAll ps) p.depth < cLine := by
        have m : min (PyData.depthAll ps) p.depth ≤ p.depth := Nat.min_le_right _ _
        have := c.2.2
        have hu : X.A.units + 200 < cLine := hu
        omega
      refine call_meets PySem.F.slot_list_count ⟨_, ho, rfl⟩ PySem.F.entry_list_count (PySem.F.args_list_count_2 _ _)
        (SeqAt.list_countAt a its.toArray n dd sls u fun z => PyData.eqv (SeqAt.readOf s.heap z) p) ⟨ho, SeqAt.items_eqAt (vs := its.toArray) (show ReadsAll s.heap its.toArray.toList ps as from h4) r1 c.1 c.2.1 room, ?_⟩
      have ec : its.countP (fun z => PyData.eqv (SeqAt.readOf s.heap z) p) = ps.countP fun z => PyData.eqv z p := by
        rw [← hmap, List.countP_map]
        rfl
      refine ⟨.int _, H, I.tok _, ⟨_, rfl⟩, ?_⟩
      show Q (.int ((its.countP fun z => PyData.eqv (SeqAt.readOf s.heap z) p : Nat) : Int)) H
      rw [ec]
      exact q
    · cases e
  · cases e
theorem idx_at {w : W} {xs : List D} {a : Addr} {vs : List V} {y : V} {i : Int} (hu : Deep X) {pins : List (Addr × Obj)} {s : Shared} {σ : L2.St} {u : Value} {Q : V → Hp → Prop} (R : Rl X.K α hd H) (I : Inv X pins σ H s) (ha : H a = some (.lst vs)) (hx : RelDs X.K α H xs vs) (ry : RelW X.K α H w y) (ru : RelV y u)
    (e : idxW w xs hd = some i) (q : Q (.int i) H) : wpAny (model X.prog X.w) X.A (call (.builtin "list.index") [.ref a, u]) (EP X pins σ Q) X.xe s := by
  unfold idxW at e
  split at e
  · rename_i ps p e1 e2
    split at e
    · rename_i c
      cases e
      obtain ⟨bs, r1⟩ := Dp.reads I p y u (wpy_at R e2 ry) ru
      obtain ⟨its, rv, ⟨⟨cls, dd, data, sls⟩, n, ho, hc, hdn, hdt⟩, hlen⟩ := I.list (SqL.of ha)
      simp only at hc hdt
      subst hc hdt
      obtain ⟨as, h4⟩ := Dp.readsAll I ps _ its (pys_at e1 hx) rv
      have hn : its.length = ps.length := SeqAt.ReadsAll.length ps its as h4
      have hmap : its.map (SeqAt.readOf s.heap) = ps := SeqAt.readsAll_map ps its as c.1 h4
      have room : X.A.units + 1 + min (PyData.depthAll ps) p.depth < cLine := by
        have m : min (PyData.depthAll ps) p.depth ≤ p.depth := Nat.min_le_right _ _
        have := c.2.2.1
        have hu : X.A.units + 200 < cLine := hu
        omega
      have hvl := rv.length
      have hsl := sizeLine_eq
      have hj : (ps.findIdx fun z => PyData.eqv z p) < ps.length := List.findIdx_lt_length.mpr (by simpa [List.any_eq_true] using c.2.2.2)
      have at_ : ∀ (m : Nat) (hm : m < its.toArray.size), ∃ h2 : m < ps.length, SeqAt.readOf s.heap its.toArray[m] = ps[m] := by
        intro m hm
        have hml : m < its.length := by simpa using hm
        refine ⟨by omega, ?_⟩
        have e3 : (its.map (SeqAt.readOf s.heap))[m]? = ps[m]? := by rw [hmap]
        rw [List.getElem?_map, List.getElem?_eq_getElem hml, List.getElem?_eq_getElem (by omega : m < ps.length)] at e3
        simpa using e3
      refine call_meets PySem.F.slot_list_index ⟨_, ho, rfl⟩ PySem.F.entry_list_index (PySem.F.args_list_index_2 _ _)
        (SeqAt.list_indexAt a its.toArray n dd sls u (fun z => PyData.eqv (SeqAt.readOf s.heap z) p) (ps.findIdx fun z => PyData.eqv z p) (by simpa [hn] using hj) (by omega) ?_ ?_) ⟨ho, SeqAt.items_eqAt (vs := its.toArray) (show ReadsAll s.heap its.toArray.toList ps as from h4) r1 c.1 c.2.1 room, ?_⟩
      · obtain ⟨h2, e3⟩ := at_ (ps.findIdx fun z => PyData.eqv z p) (by simpa [hn] using hj)
        rw [e3]
        exact List.findIdx_getElem (p := fun z => PyData.eqv z p) (w := h2)
      · intro m hm hmj
        obtain ⟨h2, e3⟩ := at_ m hm
        rw [e3]
        exact List.not_of_lt_findIdx hmj
      · exact ⟨.int _, H, I.tok _, ⟨_, rfl⟩, q⟩
    · cases e
  · cases e
def rCnt (K : PySem.W.Frag) (m : M1) : V → List V → Hp → VK → Prop := fun x xs H Q => ∃ (α : List Addr) (hd : Hd) (w : W) (n : Nat) (a : Addr) (y : V), x = .ref a ∧ xs = [y] ∧ α[n]? = some a ∧ Rl K α hd H ∧ RelW K α H w y ∧ PoW K α H (mt1 m (.v (.obj n)) w hd) Q
theorem mt_count (hu : Deep X) : MtR X "list.count" (rCnt X.K .count) := by
  intro pins s σ H x xs v us Q I rx rxs h
  obtain ⟨α, hd, w, n, a, y, rfl, rfl, ea, R, rw, h⟩ := h
  cases rx
  obtain ⟨u, rfl, ru⟩ := rxs.one
  simp only [mt1] at h
  split at h
  · rename_i zs ho
    obtain ⟨z, e, h⟩ := ofO_W h
    obtain ⟨i, e2, rfl⟩ := Option.map_eq_some_iff.mp e
    obtain ⟨vs, e3, hx⟩ := R.ob n _ _ ho ea
    exact cnt_at hu R I e3 hx rw ru e2 (h.old (d := .int i) R rfl)
  · exact h.elim
theorem mt_index (hu : Deep X) : MtR X "list.index" (rCnt X.K .index) := by
  intro pins s σ H x xs v us Q I rx rxs h
  obtain ⟨α, hd, w, n, a, y, rfl, rfl, ea, R, rw, h⟩ := h
  cases rx
  obtain ⟨u, rfl, ru⟩ := rxs.one
  simp only [mt1] at h
  split at h
  · rename_i zs ho
    obtain ⟨z, e, h⟩ := ofO_W h
    obtain ⟨i, e2, rfl⟩ := Option.map_eq_some_iff.mp e
    obtain ⟨vs, e3, hx⟩ := R.ob n _ _ ho ea
    exact idx_at hu R I e3 hx rw ru e2 (h.old (d := .int i) R rfl)
  · exact h.elim
theorem cnt_rule {m : M1} (hm : ∀ xs y h, mt1 m (.l xs) y h = .no) (hm2 : ∀ d y h, (∀ n, d ≠ .obj n) → mt1 m (.v d) y h = .no) {w y : W} {x v : V} {hd : Hd} {α : List Addr} {H : Hp} {Q : VK} (R : Rl K α hd H) (rw : RelW K α H w x) (ry : RelW K α H y v) (q : PoW K α H (mt1 m w y hd) Q) : rCnt K m x [v] H Q := by
  cases w with
  | l xs => rw [hm] at q; exact q.elim
  | v d =>
    cases d with
    | obj n =>
      obtain ⟨a, ea, rfl⟩ := rw
      exact ⟨α, hd, y, n, a, v, rfl, rfl, ea, R, ry, q⟩
    | _ => rw [hm2 _ _ _ (by intro n z; cases z)] at q; exact q.elim
theorem e_count (hu : Deep X) {f g : FV} {o e : Expr} {apos cpos : Pos} (ho : EOk X f o) (he : EOk X g e) (hl : line1 apos cpos = true) : EOk X (v2m isL (vSet f) g (mt1 .count)) (.Call (.Attribute o "count" apos) [e] [] cpos) := by
  refine ⟨TV.mono_iff (pe_bm PySem.F.plainAttrs_list PySem.F.slot_list_count PySem.F.type_list_count (mt_count hu) (e_set ho).pe (pa_cons he.pe pa_nil (star_cons he.pl _ _)) (attr_no ho.pl _ _) (few1 he.pl) hl (star_cons he.pl _ _) (stars_any (es := []) rfl)) fun σ H Q q => ?_, rfl⟩
  refine TV_bm (fun R r c => isL_at R r c) (fun {w x y v hd α H Q} R rw ry _ q => cnt_rule (fun _ _ _ => rfl) (fun d _ _ hd => ?_) R rw ry q) q
  cases d with
  | obj n => exact absurd rfl (hd n)
  | _ => rfl
theorem e_index (hu : Deep X) {f g : FV} {o e : Expr} {apos cpos : Pos} (ho : EOk X f o) (he : EOk X g e) (hl : line1 apos cpos = true) : EOk X (v2m isL (vSet f) g (mt1 .index)) (.Call (.Attribute o "index" apos) [e] [] cpos) := by
  refine ⟨TV.mono_iff (pe_bm PySem.F.plainAttrs_list PySem.F.slot_list_index PySem.F.type_list_index (mt_index hu) (e_set ho).pe (pa_cons he.pe pa_nil (star_cons he.pl _ _)) (attr_no ho.pl _ _) (few1 he.pl) hl (star_cons he.pl _ _) (stars_any (es := []) rfl)) fun σ H Q q => ?_, rfl⟩
  refine TV_bm (fun R r c => isL_at R r c) (fun {w x y v hd α H Q} R rw ry _ q => cnt_rule (fun _ _ _ => rfl) (fun d _ _ hd => ?_) R rw ry q) q
  cases d with
  | obj n => exact absurd rfl (hd n)
  | _ => rfl
theorem e_get1 (hu : Deep X) {f g : FV} {o e : Expr} {apos cpos : Pos} (ho : EOk X f o) (he : EOk X g e) (hl : line1 apos cpos = true) : EOk X (v2m isDk f g (mt1 .get)) (.Call (.Attribute o "get" apos) [e] [] cpos) := by
  refine ⟨TV.mono_iff (pe_dget1 (deep1 hu) ho.pe he.pe (m1_of ho.pl he.pl hl)) fun σ H Q q => ?_, rfl⟩
  obtain ⟨α, σd, hd, R, S, q⟩ := q
  have q : PoW X.K α H ((f σd hd).bind fun x h => if isDk x h = true then (g σd h).bind fun y h => mt1 .get x y h else .no) Q := q
  refine TV.seq R S q.ok fun x hd1 α1 H1 v1 e g1 R1 S1 rx nw => ?_
  rw [e] at q
  have q := q.from g1 R1
  split at q
  · rename_i hc
    obtain ⟨a, ea, da⟩ := isD_of R1 rx hc
    refine ⟨a, ea, da, ?_⟩
    refine TV.seq R1 S1 q.ok fun y hd2 α2 H2 v2 e2 g2 R2 S2 r2 n2 => ?_
    rw [e2] at q
    have q := q.from g2 R2
    have rx := rx.gr R1 g2
    cases x with
    | l xs => exact q.elim
    | v d =>
      cases d with
      | obj n =>
        simp only [mt1] at q
        cases y with
        | l ys =>
          cases eo : hd2[n]? <;> rw [eo] at q <;> exact q.elim
        | v d' =>
          cases eo : hd2[n]? with
          | none => rw [eo] at q; exact q.elim
          | some o' =>
            rw [eo] at q
            simp only at q
            split at q
            · rename_i u eu
              obtain ⟨b, eb, ev⟩ := rx
              rw [ea] at ev
              cases ev
              obtain ⟨z, gz, rz⟩ := look_at eu (R2.ob _ _ a eo eb) r2
              exact ⟨z, gz, q.old R2 (rz.getD (e := .non) rfl)⟩
            · exact q.elim
      | _ => exact q.elim
  · exact q.elim
def v3m (c : W → Hd → Bool) (f g g' : FV) (k : W → W → W → Hd → R W) : FV := fun σ h => (f σ h).bind fun x h => if c x h = true then (g σ h).bind fun y h => (g' σ h).bind fun z h => k x y z h else .no
def mtGet2 (o x z : W) (h : Hd) : R W := match o with
  | .v (.obj n) => match h[n]?, x, z with
    | some o, .v d, .v z => match o.look d with
      | some r => .ok (.v (r.getD z)) h
      | none => .no
    | _, _, _ => .no
  | _ => .no
theorem e_get2 (hu : Deep X) {f g g' : FV} {o e e' : Expr} {apos cpos : Pos} (ho : EOk X f o) (he : EOk X g e) (he' : EOk X g' e') (hl : line1 apos cpos = true) : EOk X (v3m isDk f (vSet g) (vSet g') mtGet2) (.Call (.Attribute o "get" apos) [e, e'] [] cpos) := by
  refine ⟨TV.mono_iff (pe_dget2 (deep1 hu) ho.pe (e_set he).pe (e_set he').pe (m2_of ho.pl he.pl he'.pl hl)) fun σ H Q q => ?_, rfl⟩
  obtain ⟨α, σd, hd, R, S, q⟩ := q
  have q : PoW X.K α H ((f σd hd).bind fun x h => if isDk x h = true then (vSet g σd h).bind fun y h => (vSet g' σd h).bind fun z h => mtGet2 x y z h else .no) Q := q
  refine TV.seq R S q.ok fun x hd1 α1 H1 v1 e g1 R1 S1 rx nw => ?_
  rw [e] at q
  have q := q.from g1 R1
  split at q
  · rename_i hc
    obtain ⟨a, ea, da⟩ := isD_of R1 rx hc
    refine ⟨a, ea, da, ?_⟩
    refine TV.seq R1 S1 q.ok fun y hd2 α2 H2 v2 e2 g2 R2 S2 r2 n2 => ?_
    rw [e2] at q
    have q := q.from g2 R2
    refine TV.seq R2 S2 q.ok fun z hd3 α3 H3 v3 e3 g3 R3 S3 r3 n3 => ?_
    rw [e3] at q
    have q := q.from g3 R3
    have rx := (rx.gr R1 g2).gr R2 g3
    have r2 := r2.gr R2 g3
    cases x with
    | l xs => exact q.elim
    | v d =>
      cases d with
      | obj n =>
        simp only [mtGet2] at q
        cases y with
        | l ys =>
          cases eo : hd3[n]? <;> rw [eo] at q <;> exact q.elim
        | v d' =>
          cases z with
          | l zs => cases eo : hd3[n]? <;> rw [eo] at q <;> exact q.elim
          | v z' =>
            cases eo : hd3[n]? with
            | none => rw [eo] at q; exact q.elim
            | some o' =>
              rw [eo] at q
              simp only at q
              split at q
              · rename_i u eu
                obtain ⟨b, eb, ev⟩ := rx
                rw [ea] at ev
                cases ev
                obtain ⟨y', gy, ry⟩ := look_at eu (R3.ob _ _ a eo eb) r2
                exact ⟨y', gy, q.old R3 (ry.getD r3)⟩
              · exact q.elim
      | _ => exact q.elim
  · exact q.elim
def vDk : FV := fun _ h => .ok (.v (.obj h.length)) (h ++ [.dK []])
def vDt : FV := fun _ h => .ok (.v (.obj h.length)) (h ++ [.dT []])
theorem PoW.newO {o : O} {u : HO} {Q : V → Hp → Prop} (R : Rl K α hd H) (hp : H p = none) (ho : RelO K α (upd H p u) p o) (h : PoW K α H (.ok (.v (.obj hd.length)) (hd ++ [o])) Q) : Q (.ref p) (upd H p u) :=
  h (α ++ [p]) _ _ (Gr.new R hp u) (R.new hp ho) ⟨p, by rw [← R.len]; simp, rfl⟩ trivial
theorem e_dk {pos : Pos} : EOk X vDk (.Dict [] [] pos) := by
  refine ⟨TV.mono_iff pe_dnewK fun σ H Q q => ?_, rfl⟩
  obtain ⟨α, σd, hd, R, S, q⟩ := q
  exact fun p hp => PoW.newO (o := .dK []) R hp ⟨[], upd_same, rfl⟩ q
theorem e_dt {pos : Pos} : EOk X vDt (.Dict [] [] pos) := by
  refine ⟨TV.mono_iff pe_dnewT fun σ H Q q => ?_, rfl⟩
  obtain ⟨α, σd, hd, R, S, q⟩ := q
  exact fun p hp => PoW.newO (o := .dT []) R hp ⟨[], upd_same, rfl⟩ q
end DL
namespace DL
open PySem PySem.Spec PyProof.Rows L2

variable {K : PySem.W.Frag}
variable {α α' α'' α1 α0 : List Addr} {H H' H'' H1 H0 : Hp} {hd hd' hd1 : Hd} {a p : Addr}
variable {X : Cx}
inductive Tg where
  | nm (i : Nat) | tp (ts : List Tg)
mutual
def Tg.put : Tg → D → Sd → Option Sd
  | .nm i, d, σ => some (σ.set i (some d))
  | .tp ts, d, σ => match d with
    | .tup ds => Tg.puts ts ds σ
    | _ => none
def Tg.puts : List Tg → List D → Sd → Option Sd
  | [], ds, σ => match ds with
    | [] => some σ
    | _ :: _ => none
  | t :: ts, ds, σ => match ds with
    | [] => none
    | d :: ds => match t.put d σ with
      | some σ' => Tg.puts ts ds σ'
      | none => none
end
mutual
def Tg.slots : Tg → List Nat
  | .nm i => [i]
  | .tp ts => Tg.slotss ts
def Tg.slotss : List Tg → List Nat
  | [] => []
  | t :: ts => t.slots ++ Tg.slotss ts
end
def Out (vs : List Nat) (σ σ' : L2.St) : Prop := σ'.length = σ.length ∧ ∀ i, i ∉ vs → σ'[i]? = σ[i]?
theorem Out.refl (vs : List Nat) (σ : L2.St) : Out vs σ σ := ⟨rfl, fun _ _ => rfl⟩
theorem Out.trans {vs : List Nat} {σ σ' σ'' : L2.St} (h : Out vs σ σ') (h' : Out vs σ' σ'') : Out vs σ σ'' := ⟨h'.1.trans h.1, fun i n => (h'.2 i n).trans (h.2 i n)⟩
theorem Out.mono {vs ws : List Nat} {σ σ' : L2.St} (h : Out vs σ σ') (m : ∀ i ∈ vs, i ∈ ws) : Out ws σ σ' := ⟨h.1, fun i n => h.2 i fun z => n (m i z)⟩
theorem Out.set (i : Nat) (σ : L2.St) (x : Option V) : Out [i] σ (σ.set i x) := ⟨by simp, fun j n => List.getElem?_set_ne (by simpa [eq_comm] using n)⟩
def gT (K : PySem.W.Frag) (t : Tg) : TG := fun v σ H Q => ∃ α σd hd d σd', Rl K α hd H ∧ RelS K α H σd σ ∧ RelD K α H d v ∧ t.put d σd = some σd' ∧ ∀ σ', RelS K α H σd' σ' → Out t.slots σ σ' → Q σ' H
def gTs (K : PySem.W.Frag) (ts : List Tg) : TGs := fun vs σ H Q => ∃ α σd hd ds σd', Rl K α hd H ∧ RelS K α H σd σ ∧ RelDs K α H ds vs ∧ Tg.puts ts ds σd = some σd' ∧ ∀ σ', RelS K α H σd' σ' → Out (Tg.slotss ts) σ σ' → Q σ' H
inductive TgOk (X : Cx) : Tg → Expr → Prop
  | nm {i : Nat} {e : Expr} : PG X e (gName i) → TgOk X (.nm i) e
  | tp {ts : List Tg} {es : List Expr} {k : Nat} {pos : Pos} : PGs X es (gTs X.K ts) → (assignEach es X.env).length = ts.length → (assignEach es X.env).findIdx? (·.1) = none → TgOk X (.tp ts) (.Tuple es k pos)
theorem PG.weak {e : Expr} {t t' : TG} (h : PG X e t) (k : ∀ v σ H Q, t' v σ H Q → t v σ H Q) : PG X e t' := ⟨fun pins s σ H v u Q I r q => h.run pins s σ H v u Q I r (k v σ H Q q)⟩
theorem PGs.weak {e : List Expr} {t t' : TGs} (h : PGs X e t) (k : ∀ v σ H Q, t' v σ H Q → t v σ H Q) : PGs X e t' := ⟨fun pins s σ H v u Q I r q => h.run pins s σ H v u Q I r (k v σ H Q q)⟩
theorem puts_len : ∀ {ts : List Tg} {ds : List D} {σ σ' : Sd}, Tg.puts ts ds σ = some σ' → ds.length = ts.length
  | [], [], _, _, _ => rfl
  | [], _ :: _, _, _, e => by cases e
  | t :: ts, [], _, _, e => by cases e
  | t :: ts, d :: ds, σ, σ', e => by
    simp only [Tg.puts] at e
    split at e
    · rw [List.length_cons, List.length_cons, puts_len e]
    · cases e
theorem tg_ok (hc : X.calm = true) {t : Tg} {e : Expr} (h : TgOk X t e) : PG X e (gT X.K t) := by
  cases h with
  | nm h =>
    refine PG.weak h fun v σ H Q q => ?_
    obtain ⟨α, σd, hd, d, σd', R, S, r, e, q⟩ := q
    cases e
    exact q _ (S.set r _) (Out.set _ _ _)
  | tp h hn hs =>
    refine PG.weak (pg_tup hc h hn hs) fun v σ H Q q => ?_
    obtain ⟨α, σd, hd, d, σd', R, S, r, e, q⟩ := q
    cases d with
    | tup ds =>
      obtain ⟨a, vs, rfl, ha, hx⟩ := r
      exact ⟨a, vs, rfl, SqT.of ha, by rw [hx.length]; exact puts_len e, α, σd, hd, ds, σd', R, S, hx, e, q⟩
    | _ => cases e
theorem tgs_nil : PGs X [] (gTs X.K []) := by
  refine PGs.weak pgs_nil fun vs σ H Q q => ?_
  obtain ⟨α, σd, hd, ds, σd', R, S, r, e, q⟩ := q
  cases ds with
  | nil => cases e; exact ⟨r, q _ S (Out.refl _ _)⟩
  | cons d ds => cases e
theorem notStar_assign {e : Expr} (h : plainE e = true) (es : List Expr) (env : Env) : (assignEach (e :: es) env).map (·.2) = assign e env :: (assignEach es env).map (·.2) := by
  cases e <;> first | rfl | (cases h)
theorem tgs_cons (hc : X.calm = true) {t : Tg} {ts : List Tg} {e : Expr} {es : List Expr} (h : TgOk X t e) (hp : plainE e = true) (hs : PGs X es (gTs X.K ts)) : PGs X (e :: es) (gTs X.K (t :: ts)) := by
  refine PGs.weak (pgs_cons (tg_ok hc h) hs (notStar_assign hp _ _)) fun vs σ H Q q => ?_
  obtain ⟨α, σd, hd, ds, σd', R, S, r, e, q⟩ := q
  cases ds with
  | nil => cases e
  | cons d ds =>
    obtain ⟨v, vr, rfl, r1, r2⟩ := r
    simp only [Tg.puts] at e
    split at e
    · rename_i σ1 e1
      refine ⟨v, vr, rfl, α, σd, hd, d, σ1, R, S, r1, e1, fun σ' S' o => ?_⟩
      exact ⟨α, σ1, hd, ds, σd', R, S', r2, e, fun σ'' S'' o' => q σ'' S'' ((o.mono fun i z => List.mem_append_left _ z).trans (o'.mono fun i z => List.mem_append_right _ z))⟩
    · cases e

inductive Src where
  | fx (xs : List D) | re (g : Nat → Hd → Option (Option D))
def Src.get : Src → Nat → Hd → Option (Option D)
  | .fx xs => fun i _ => some xs[i]?
  | .re g => g
def SrcOk (K : PySem.W.Frag) (J : It) (g : Nat → Hd → Option (Option D)) (α0 : List Addr) (H0 : Hp) : Prop :=
  ∀ (i : Nat) (α : List Addr) (hd : Hd) (H : Hp), Gr α0 H0 α H → Rl K α hd H → (g i hd = some none → J.stop i H) ∧
    ∀ d, g i hd = some (some d) → J.go i H ∧ ∀ x H', J.yld i H x H' → Gr α H α H' ∧ Rl K α hd H' ∧ RelD K α H' d x
abbrev FS := Sd → Hd → R Src
def TIs (K : PySem.W.Frag) (f : FS) : TI := fun σ H Q => ∃ α σd hd, Rl K α hd H ∧ RelS K α H σd σ ∧ match f σd hd with
  | .ok s hd' => ∀ α' H' J, Gr α H α' H' → Rl K α' hd' H' → SrcOk K J s.get α' H' → Q J H'
  | _ => False
structure IOk (X : Cx) (tg : Expr) (f : FS) (e : Expr) : Prop where
  pi : PI X tg e (TIs X.K f)
  fold : ∀ x, foldedSetIterable e X.env x = pure x
theorem PI.weak {tg e : Expr} {t t' : TI} (h : PI X tg e t) (k : ∀ σ H Q, t' σ H Q → t σ H Q) : PI X tg e t' := ⟨fun pins s σ H Q I q => h.run pins s σ H Q I (k σ H Q q)⟩
def W.src (w : W) (h : Hd) : Option Src := match w with
  | .l xs => some (.fx xs)
  | .v (.tup xs) => some (.fx xs)
  | .v (.ro xs) => some (.fx xs)
  | .v (.str s) => some (.fx (s.map fun c => .str [c]))
  | .v (.obj n) => match h[n]? with
    | some (.lst _) => some (.re fun i h => match h[n]? with
      | some (.lst xs) => some xs[i]?
      | _ => none)
    | _ => none
  | _ => none
theorem src_list {vs : List V} {xs : List D} (ha : ∀ α H, Gr α0 H0 α H → (∃ hd, Rl K α hd H) → SqL K H a vs ∧ RelDs K α H xs vs) : SrcOk K (Itl K a) (fun i _ => some xs[i]?) α0 H0 := by
  intro i α hd H g R
  obtain ⟨hq, hx⟩ := ha α H g ⟨hd, R⟩
  refine ⟨fun e => ⟨vs, hq, ?_⟩, fun d e => ?_⟩
  · rw [hx.length]
    exact List.getElem?_eq_none_iff.mp (Option.some.inj e)
  · obtain ⟨v, ev, rv⟩ := hx.get (Option.some.inj e)
    refine ⟨⟨vs, v, hq, ev⟩, fun x H' y => ?_⟩
    obtain ⟨rfl, y⟩ := y
    have e2 := y vs hq
    rw [ev] at e2
    cases e2
    exact ⟨Gr.refl _ _, R, rv⟩
theorem src_re {n : Nat} (h0 : α0[n]? = some a) : SrcOk K (Itl K a) (fun i h => match h[n]? with
      | some (.lst xs) => some xs[i]?
      | _ => none) α0 H0 := by
  intro i α hd H g R
  have hn := g.get h0
  have at' : ∀ {z : Option D}, (match hd[n]? with
      | some (.lst xs) => some xs[i]?
      | _ => none) = some z → ∃ xs vs, H a = some (.lst vs) ∧ RelDs K α H xs vs ∧ xs[i]? = z := by
    intro z e
    split at e
    · rename_i xs ho
      obtain ⟨vs, e2, hx⟩ := R.ob n _ a ho hn
      exact ⟨xs, vs, e2, hx, Option.some.inj e⟩
    · cases e
  refine ⟨fun e => ?_, fun d e => ?_⟩
  · obtain ⟨xs, vs, e2, hx, e3⟩ := at' e
    exact ⟨vs, SqL.of e2, by rw [hx.length]; exact List.getElem?_eq_none_iff.mp e3⟩
  · obtain ⟨xs, vs, e2, hx, e3⟩ := at' e
    obtain ⟨v, ev, rv⟩ := hx.get e3
    refine ⟨⟨vs, v, SqL.of e2, ev⟩, fun x H' y => ?_⟩
    obtain ⟨rfl, y⟩ := y
    have e4 := y vs (SqL.of e2)
    rw [ev] at e4
    cases e4
    exact ⟨Gr.refl _ _, R, rv⟩
theorem src_tup {vs : List V} {xs : List D} (ha : ∀ α H, Gr α0 H0 α H → (∃ hd, Rl K α hd H) → H a = some (.tup vs) ∧ RelDs K α H xs vs) : SrcOk K (Itt K a) (fun i _ => some xs[i]?) α0 H0 := by
  intro i α hd H g R
  obtain ⟨hq, hx⟩ := ha α H g ⟨hd, R⟩
  refine ⟨fun e => ⟨vs, SqT.of hq, ?_⟩, fun d e => ?_⟩
  · rw [hx.length]
    exact List.getElem?_eq_none_iff.mp (Option.some.inj e)
  · obtain ⟨v, ev, rv⟩ := hx.get (Option.some.inj e)
    refine ⟨⟨vs, v, SqT.of hq, ev⟩, fun x H' y => ?_⟩
    obtain ⟨rfl, y⟩ := y
    have e2 := y vs (SqT.of hq)
    rw [ev] at e2
    cases e2
    exact ⟨Gr.refl _ _, R, rv⟩
theorem src_str (s : List Nat) : SrcOk K (Its (mkS s)) (fun i _ => some (s.map fun c => D.str [c])[i]?) α0 H0 := by
  intro i α hd H g R
  refine ⟨fun e => ?_, fun d e => ?_⟩
  · have e2 := List.getElem?_eq_none_iff.mp (Option.some.inj e)
    show s.toArray.size ≤ i
    simpa using e2
  · have e := Option.some.inj e
    rw [List.getElem?_map, Option.map_eq_some_iff] at e
    obtain ⟨c, ec, rfl⟩ := e
    refine ⟨?_, fun x H' y => ?_⟩
    · show i < s.toArray.size
      simpa using (List.getElem?_eq_some_iff.mp ec).1
    · obtain ⟨rfl, c', ec', rfl⟩ := y
      refine ⟨Gr.refl _ _, R, ?_⟩
      have : (mkS s).cps[i]? = s[i]? := by simp [mkS]
      rw [this, ec] at ec'
      cases ec'
      rfl
theorem pyIter_W {tg : Expr} {pins : List (Addr × Obj)} {s : Shared} {σ : L2.St} {w : W} {v : V} {u : Value} {src : Src} {Q : It → Hp → Prop} (I : Inv X pins σ H s) (ru : RelV v u) (R : Rl X.K α hd H) (r : RelW X.K α H w v) (e : w.src hd = some src)
    (go : ∀ J, SrcOk X.K J src.get α H → Q J H) : wpAny (model X.prog X.w) X.A (pyIter u) (PIE X pins σ tg Q) X.xe s := by
  have lists : ∀ {b : Addr} {vs : List V}, u = .ref b → SqL X.K H b vs → Q (Itl X.K b) H → wpAny (model X.prog X.w) X.A (pyIter u) (PIE X pins σ tg Q) X.xe s := by
    intro b vs eu hq q
    subst eu
    obtain ⟨us, rv, pl, _⟩ := I.list hq
    refine wpAny_pyIter_list pl.isList ⟨_, [_], _, _, _, rfl, I.kept (t' := s.toks) fun c o z => Heap.get?_push_of_some _ z, turn_list b _, ⟨_, Heap.get?_push_size _ rfl, rfl, rfl⟩, fun c hc => ?_, q⟩
    cases List.mem_singleton.mp hc
    exact I.fpOk (Nat.le_refl _) I.fresh
  cases w with
  | l xs =>
    cases e
    obtain ⟨b, vs, rfl, hb, hn, hx⟩ := r
    exact lists ru (SqL.of hb) (go _ (src_list (vs := vs) fun α' H' g R' => ⟨SqL.of (g.fr b _ hb hn), hx.gr R g⟩))
  | v d =>
    cases d with
    | tup xs =>
      cases e
      obtain ⟨b, vs, rfl, hb, hx⟩ := r
      cases ru
      obtain ⟨us, rv, pt, _⟩ := I.tuple (SqT.of hb)
      refine wpAny_pyIter_tuple (show s.heap.IsTuple b us.toArray from pt) ⟨_, [_], _, _, _, rfl, I.kept (t' := s.toks) fun c o z => Heap.get?_push_of_some _ z, turn_tuple b _, ⟨_, Heap.get?_push_size _ rfl, rfl, rfl⟩, fun c hc => ?_, go _ (src_tup fun α' H' g R' => ⟨sqT_gr R g hb, hx.gr R g⟩)⟩
      cases List.mem_singleton.mp hc
      exact I.fpOk (Nat.le_refl _) I.fresh
    | ro xs =>
      cases e
      obtain ⟨b, vs, rfl, hb, hx⟩ := r
      exact lists ru hb.sq (go _ (src_list (vs := vs) fun α' H' g R' => ⟨(ro_gr R g hb).sq, hx.gr R g⟩))
    | str t =>
      cases e
      cases (show v = V.str (mkS t) from r)
      obtain ⟨k, rfl⟩ := ru
      cases hk : (mkS t).cps.all (· < 128) with
      | false => exact wpAny_pyIter_wide hk (pi_one (tk := s.toks) I _ (turn_str _ (mkS t) k "str_iterator" (.inr rfl)) ⟨_, Heap.get?_push_size _ rfl, rfl, rfl⟩ (go _ (src_str t)))
      | true => exact wpAny_pyIter_ascii hk (pi_one (tk := s.toks) I _ (turn_str _ (mkS t) k "str_ascii_iterator" (.inl rfl)) ⟨_, Heap.get?_push_size _ rfl, rfl, rfl⟩ (go _ (src_str t)))
    | obj n =>
      simp only [W.src] at e
      split at e
      · rename_i xs ho
        cases e
        obtain ⟨b, vs, eb, rfl, hb, hx⟩ := lst_of R r ho
        exact lists ru (SqL.of hb) (go _ (src_re eb))
      · cases e
    | _ => cases e
theorem srcs_of {f : FS} {σ : L2.St} {Q : It → Hp → Prop} (q : TIs K f σ H Q) : ∃ α σd hd s hd', Rl K α hd H ∧ RelS K α H σd σ ∧ f σd hd = .ok s hd' ∧ ∀ α' H' J, Gr α H α' H' → Rl K α' hd' H' → SrcOk K J s.get α' H' → Q J H' := by
  obtain ⟨α, σd, hd, R, S, q⟩ := q
  cases e : f σd hd with
  | ok s hd' => rw [e] at q; exact ⟨α, σd, hd, s, hd', R, S, e, q⟩
  | ex => rw [e] at q; exact q.elim
  | no => rw [e] at q; exact q.elim
theorem bind_ok_of {A B : Type} {r : DL.R A} {k : A → Hd → DL.R B} {b : B} {h' : Hd} (e : r.bind k = .ok b h') : ∃ a h1, r = .ok a h1 ∧ k a h1 = .ok b h' := by
  cases r with
  | ok a h1 => exact ⟨a, h1, rfl, e⟩
  | ex => cases e
  | no => cases e
theorem ofO_ok {A : Type} {o : Option A} {h h' : Hd} {a : A} (e : DL.R.ofO o h = .ok a h') : o = some a ∧ h' = h := by
  cases o with
  | none => cases e
  | some x => cases e; exact ⟨rfl, rfl⟩
def sVal (f : FV) : FS := fun σ h => (f σ h).bind fun w h => R.ofO (w.src h) h
theorem i_val {tg e : Expr} {f : FV} (he : EOk X f e) : IOk X tg (sVal f) e := by
  refine ⟨⟨fun pins s σ H Q I q => ?_⟩, folded_no he.pl _⟩
  obtain ⟨α, σd, hd, src, hd', R, S, e1, q⟩ := srcs_of q
  obtain ⟨w, h1, ef, e2⟩ := bind_ok_of e1
  obtain ⟨e3, rfl⟩ := ofO_ok e2
  refine thn (he.pe.run pins s σ H (fun v H' => ∃ α', Gr α H α' H' ∧ Rl X.K α' hd' H' ∧ RelW X.K α' H' w v) I ⟨α, σd, hd, R, S, ?_⟩) fun u s1 ⟨v, H1, I1, ru, α1, g1, R1, r1⟩ => ?_
  · rw [ef]
    exact fun α' H' v g R' r n => ⟨α', g, R', r⟩
  · exact pyIter_W I1 ru R1 r1 e3 fun J ok => q α1 H1 J g1 R1 ok
theorem src_ints (lo : Int) (n : Nat) : SrcOk K (Itr lo n) (fun i _ => some ((List.range n).map fun (k : Nat) => D.int (lo + k))[i]?) α0 H0 := by
  intro i α hd H g R
  refine ⟨fun e => ?_, fun d e => ?_⟩
  · have e2 := List.getElem?_eq_none_iff.mp (Option.some.inj e)
    show n ≤ i
    simpa using e2
  · have e := Option.some.inj e
    rw [List.getElem?_map, Option.map_eq_some_iff] at e
    obtain ⟨k, ek, rfl⟩ := e
    have hk := (List.getElem?_eq_some_iff.mp ek)
    obtain ⟨h1, h2⟩ := hk
    rw [List.getElem_range] at h2
    subst h2
    refine ⟨show i < n by simpa using h1, fun x H' y => ?_⟩
    obtain ⟨rfl, rfl⟩ := y
    exact ⟨Gr.refl _ _, R, rfl⟩
def rngSrc (lo hi : Int) : Option Src := if -(2 ^ 62) ≤ lo ∧ lo < 2 ^ 62 ∧ -(2 ^ 62) ≤ hi ∧ hi < 2 ^ 62 then some (.fx ((List.range (hi - lo).toNat).map fun (k : Nat) => D.int (lo + k))) else none
def sRng1 (f : FV) : FS := fun σ h => (f σ h).bind fun w h => match w with
  | .v (.int j) => R.ofO (rngSrc 0 j) h
  | _ => .no
theorem rng_ok {lo hi : Int} {s : Src} (e : rngSrc lo hi = some s) : (-(2 ^ 62) ≤ lo ∧ lo < 2 ^ 62 ∧ -(2 ^ 62) ≤ hi ∧ hi < 2 ^ 62) ∧ s = .fx ((List.range (hi - lo).toNat).map fun (k : Nat) => D.int (lo + k)) := by
  unfold rngSrc at e
  split at e
  · rename_i h
    cases e
    exact ⟨h, rfl⟩
  · cases e
theorem i_rng1 {tg e : Expr} {f : FV} {p pos : Pos} (hg : Gl X "range") (hm : X.mg "range" = none) (he : EOk X f e) : IOk X tg (sRng1 f) (.Call (.Name "range" p) [e] [] pos) := by
  refine ⟨PI.weak (pi_range1 hg hm (pa_cons he.pe pa_nil (star_cons he.pl _ _)) (by rw [star_cons he.pl]; rfl)) fun σ H Q q => ?_, folded_no rfl _⟩
  obtain ⟨α, σd, hd, src, hd', R, S, e1, q⟩ := srcs_of q
  obtain ⟨w, h1, ef, e2⟩ := bind_ok_of e1
  refine ⟨α, σd, hd, R, S, ?_⟩
  rw [ef]
  intro α' H' v g R' r n
  cases w with
  | l xs => cases e2
  | v d =>
    cases d with
    | int j =>
      obtain ⟨e3, rfl⟩ := ofO_ok e2
      obtain ⟨b, rfl⟩ := rng_ok e3
      refine ⟨j, by rw [show v = V.int j from r], b.2.2.1, b.2.2.2, q α' H' _ g R' ?_⟩
      rw [Int.sub_zero]
      exact src_ints 0 j.toNat
    | _ => cases e2
def sRng2 (f f' : FV) : FS := fun σ h => (f σ h).bind fun w h => (f' σ h).bind fun w' h => match w, w' with
  | .v (.int i), .v (.int j) => R.ofO (rngSrc i j) h
  | _, _ => .no
theorem i_rng2 {tg e e' : Expr} {f f' : FV} {p pos : Pos} (hg : Gl X "range") (hm : X.mg "range" = none) (he : EOk X f e) (he' : EOk X f' e') : IOk X tg (sRng2 f f') (.Call (.Name "range" p) [e, e'] [] pos) := by
  refine ⟨PI.weak (pi_range2 hg hm (pa_cons he.pe (pa_cons he'.pe pa_nil (star_cons he'.pl _ _)) (star_cons he.pl _ _)) (by rw [star_cons he.pl, star_cons he'.pl]; rfl) (by rw [star_cons he'.pl]; rfl)) fun σ H Q q => ?_, folded_no rfl _⟩
  obtain ⟨α, σd, hd, src, hd', R, S, e1, q⟩ := srcs_of q
  obtain ⟨w, h1, ef, e2⟩ := bind_ok_of e1
  obtain ⟨w', h2, ef', e3⟩ := bind_ok_of e2
  refine ⟨α, σd, hd, R, S, ?_⟩
  rw [ef]
  intro α' H' v g R' r n
  refine ⟨α', σd, h1, R', S.gr R g, ?_⟩
  rw [ef']
  intro α'' H'' v' g' R'' r' n'
  cases w with
  | l xs => cases e3
  | v d =>
    cases w' with
    | l xs => cases d <;> cases e3
    | v d' =>
      cases d with
      | int i =>
        cases d' with
        | int j =>
          obtain ⟨e4, rfl⟩ := ofO_ok e3
          obtain ⟨b, rfl⟩ := rng_ok e4
          refine ⟨i, j, by rw [show v = V.int i from r, show v' = V.int j from r'], b, q α'' H'' _ (g.trans g') R'' ?_⟩
          exact src_ints i _
        | _ => cases e3
      | _ => cases e3
def DK.d : DK → D
  | .inl i => .int i
  | .inr s => .str s
theorem DK.d_rel (k : DK) : RelD K α H k.d (kV k.key) := by
  cases k <;> rfl
theorem DK.ds_rel : ∀ ks : List DK, RelDs K α H (ks.map DK.d) ((ks.map DK.key).map kV)
  | [] => rfl
  | k :: ks => ⟨_, _, rfl, DK.d_rel k, DK.ds_rel ks⟩
theorem relKK_get : ∀ {kvs : List (DK × D)} {l : List (Key × V)} {i : Nat}, RelKK K α H kvs l → ∀ {k : DK} {d : D}, kvs[i]? = some (k, d) → ∃ v, l[i]? = some (k.key, v) ∧ RelD K α H d v
  | [], _, _, _, _, _, e => by simp at e
  | (k', d') :: r, l, 0, h, k, d, e => by
    obtain ⟨v, lr, rfl, h1, h2⟩ := h
    simp only [List.getElem?_cons_zero, Option.some.injEq, Prod.mk.injEq] at e
    obtain ⟨rfl, rfl⟩ := e
    exact ⟨v, rfl, h1⟩
  | (k', d') :: r, l, i + 1, h, k, d, e => by
    obtain ⟨v, lr, rfl, h1, h2⟩ := h
    simp only [List.getElem?_cons_succ] at e ⊢
    exact relKK_get h2 e
theorem relKT_get : ∀ {kvs : List (List DK × D)} {l : List (List Key × V)} {i : Nat}, RelKT K α H kvs l → ∀ {k : List DK} {d : D}, kvs[i]? = some (k, d) → ∃ v, l[i]? = some (k.map DK.key, v) ∧ RelD K α H d v
  | [], _, _, _, _, _, e => by simp at e
  | (k', d') :: r, l, 0, h, k, d, e => by
    obtain ⟨v, lr, rfl, h1, h2⟩ := h
    simp only [List.getElem?_cons_zero, Option.some.injEq, Prod.mk.injEq] at e
    obtain ⟨rfl, rfl⟩ := e
    exact ⟨v, rfl, h1⟩
  | (k', d') :: r, l, i + 1, h, k, d, e => by
    obtain ⟨v, lr, rfl, h1, h2⟩ := h
    simp only [List.getElem?_cons_succ] at e ⊢
    exact relKT_get h2 e
theorem relKT_len : ∀ {kvs : List (List DK × D)} {l : List (List Key × V)}, RelKT K α H kvs l → l.length = kvs.length
  | [], l, h => by rw [show l = [] from h]; rfl
  | (k, d) :: r, l, h => by
    obtain ⟨v, lr, rfl, _, h2⟩ := h
    rw [List.length_cons, List.length_cons, relKT_len h2]
inductive DW where
  | keys | vals | items
def dictSrc (m : DW) (w : W) (h : Hd) : Option Src := match w with
  | .v (.obj n) => match h[n]? with
    | some (.lkK kvs) => some (.re fun i h => match h[n]? with
      | some (.lkK kvs) => some (kvs[i]?.map fun kv => match m with
        | .keys => kv.1.d
        | .vals => kv.2
        | .items => .tup [kv.1.d, kv.2])
      | _ => none)
    | some (.lkT kvs) => match m with
      | .keys => some (.re fun i h => match h[n]? with
        | some (.lkT kvs) => some (kvs[i]?.map fun kv => .tup (kv.1.map DK.d))
        | _ => none)
      | _ => none
    | _ => none
  | _ => none
def sDict (m : DW) (f : FV) : FS := fun σ h => (f σ h).bind fun w h => R.ofO (dictSrc m w h) h
theorem src_dict {m : DW} {w : W} {v : V} {src : Src} {σ : L2.St} {J : It} (R : Rl K α hd H) (r : RelW K α H w v) (e : dictSrc m w hd = some src) :
    ∃ a o, v = .ref a ∧ ((∃ l, H a = some (.frz o (.dK l)) ∧ (match m with
      | .keys => SrcOk K (Itk a o l) src.get α H
      | .vals => SrcOk K (Itd a o l) src.get α H
      | .items => SrcOk K (Iti a o l) src.get α H)) ∨ ∃ l, H a = some (.frz o (.dT l)) ∧ m = .keys ∧ SrcOk K (Itkt a o l) src.get α H) := by
  cases w with
  | l xs => cases e
  | v d =>
    cases d with
    | obj n =>
      obtain ⟨a, ea, rfl⟩ := r
      simp only [dictSrc] at e
      split at e
      · rename_i kvs ho
        cases e
        obtain ⟨o, l, h0, rk⟩ := R.ob n _ a ho ea
        have st : ∀ {α' hd' H'}, Gr α H α' H' → Rl K α' hd' H' → H' a = some (.frz o (.dK l)) ∧ ∀ {kvs'}, hd'[n]? = some (.lkK kvs') → RelKK K α' H' kvs' l := by
          intro α' hd' H' g R'
          have h1 := g.fz a o _ h0
          refine ⟨h1, fun {kvs'} e' => ?_⟩
          obtain ⟨o', l', h2, rk'⟩ := R'.ob n _ a e' (g.get ea)
          rw [h1] at h2
          cases h2
          exact rk'
        refine ⟨a, o, rfl, .inl ⟨l, h0, ?_⟩⟩
        have core : ∀ {i : Nat} {α' : List Addr} {hd' : Hd} {H' : Hp} {z : Option D} {f : DK × D → D}, Gr α H α' H' → Rl K α' hd' H' → (match hd'[n]? with
            | some (.lkK kvs) => some (kvs[i]?.map f)
            | _ => none) = some z → (z = none → l.length ≤ i) ∧ ∀ d, z = some d → ∃ k d' v, l[i]? = some (DK.key k, v) ∧ RelD K α' H' d' v ∧ d = f (k, d') := by
          intro i α' hd' H' z f g R' e'
          split at e'
          · rename_i kvs' ho'
            have rk' := (st g R').2 ho'
            have e' := Option.some.inj e'
            refine ⟨fun ez => ?_, fun d ez => ?_⟩
            · subst ez
              rw [relKK_len rk']
              rw [Option.map_eq_none_iff] at e'
              exact List.getElem?_eq_none_iff.mp e'
            · subst ez
              obtain ⟨⟨k, d'⟩, e1, rfl⟩ := Option.map_eq_some_iff.mp e'
              obtain ⟨v, e2, rv⟩ := relKK_get rk' e1
              exact ⟨k, d', v, e2, rv, rfl⟩
          · cases e'
        cases m with
        | keys =>
          intro i α' hd' H' g R'
          refine ⟨fun e' => ⟨(st g R').1, (core g R' e').1 rfl⟩, fun d e' => ?_⟩
          obtain ⟨k, d', v, e2, rv, rfl⟩ := (core g R' e').2 d rfl
          refine ⟨⟨(st g R').1, (List.getElem?_eq_some_iff.mp e2).1⟩, fun x H2 y => ?_⟩
          obtain ⟨rfl, k2, v2, e3, rfl⟩ := y
          rw [e2] at e3
          cases e3
          exact ⟨Gr.refl _ _, R', DK.d_rel k⟩
        | vals =>
          intro i α' hd' H' g R'
          refine ⟨fun e' => ⟨(st g R').1, (core g R' e').1 rfl⟩, fun d e' => ?_⟩
          obtain ⟨k, d', v, e2, rv, rfl⟩ := (core g R' e').2 d rfl
          refine ⟨⟨(st g R').1, (List.getElem?_eq_some_iff.mp e2).1⟩, fun x H2 y => ?_⟩
          obtain ⟨rfl, k2, e3⟩ := y
          rw [e2] at e3
          cases e3
          exact ⟨Gr.refl _ _, R', rv⟩
        | items =>
          intro i α' hd' H' g R'
          refine ⟨fun e' => ⟨(st g R').1, (core g R' e').1 rfl⟩, fun d e' => ?_⟩
          obtain ⟨k, d', v, e2, rv, rfl⟩ := (core g R' e').2 d rfl
          refine ⟨⟨(st g R').1, (List.getElem?_eq_some_iff.mp e2).1⟩, fun x H2 y => ?_⟩
          obtain ⟨T, k2, v2, e3, rfl, nT, rfl⟩ := y
          rw [e2] at e3
          cases e3
          have g2 := Gr.upd R' nT (.tup [kV k.key, v])
          exact ⟨g2, R'.upd nT _, ⟨T, _, rfl, upd_same, ⟨_, _, rfl, DK.d_rel k, _, _, rfl, rv.gr R' g2, rfl⟩⟩⟩
      · rename_i kvs ho
        cases m with
        | keys =>
          cases e
          obtain ⟨o, l, h0, rk⟩ := R.ob n _ a ho ea
          refine ⟨a, o, rfl, .inr ⟨l, h0, rfl, ?_⟩⟩
          intro i α' hd' H' g R'
          have h1 := g.fz a o _ h0
          have core : ∀ {z : Option D}, (match hd'[n]? with
            | some (.lkT kvs) => some (kvs[i]?.map fun kv => D.tup (kv.1.map DK.d))
            | _ => none) = some z → (z = none → l.length ≤ i) ∧ ∀ d, z = some d → ∃ k v, l[i]? = some (List.map DK.key k, v) ∧ d = .tup (k.map DK.d) := by
            intro z e'
            split at e'
            · rename_i kvs' ho'
              obtain ⟨o', l', h2, rk'⟩ := R'.ob n _ a ho' (g.get ea)
              rw [h1] at h2
              cases h2
              have e' := Option.some.inj e'
              refine ⟨fun ez => ?_, fun d ez => ?_⟩
              · subst ez
                rw [relKT_len rk']
                rw [Option.map_eq_none_iff] at e'
                exact List.getElem?_eq_none_iff.mp e'
              · subst ez
                obtain ⟨⟨k, d'⟩, e1, rfl⟩ := Option.map_eq_some_iff.mp e'
                obtain ⟨v, e2, rv⟩ := relKT_get rk' e1
                exact ⟨k, v, e2, rfl⟩
            · cases e'
          refine ⟨fun e' => ⟨h1, (core e').1 rfl⟩, fun d e' => ?_⟩
          obtain ⟨k, v, e2, rfl⟩ := (core e').2 d rfl
          refine ⟨⟨h1, (List.getElem?_eq_some_iff.mp e2).1⟩, fun x H2 y => ?_⟩
          obtain ⟨rfl, k2, v2, q, e3, rfl, hq⟩ := y
          rw [e2] at e3
          cases e3
          exact ⟨Gr.refl _ _, R', ⟨q, _, rfl, hq, DK.ds_rel k⟩⟩
        | _ => cases e
      · cases e
    | _ => cases e
theorem i_keys {tg e : Expr} {f : FV} (he : EOk X f e) : IOk X tg (sDict .keys f) e := by
  refine ⟨PI.weak (pi_keys he.pe) fun σ H Q q => ?_, folded_no he.pl _⟩
  obtain ⟨α, σd, hd, src, hd', R, S, e1, q⟩ := srcs_of q
  obtain ⟨w, h1, ef, e2⟩ := bind_ok_of e1
  obtain ⟨e3, rfl⟩ := ofO_ok e2
  refine ⟨α, σd, hd, R, S, ?_⟩
  rw [ef]
  intro α' H' v g R' r n
  obtain ⟨a, o, rfl, z⟩ := src_dict (σ := σ) (J := Itr 0 0) R' r e3
  rcases z with ⟨l, h0, z⟩ | ⟨l, h0, _, z⟩
  · exact ⟨a, o, rfl, .inl ⟨l, h0, q α' H' _ g R' z⟩⟩
  · exact ⟨a, o, rfl, .inr ⟨l, h0, q α' H' _ g R' z⟩⟩
theorem i_items {elts : List Expr} {kk : Nat} {tpos : Pos} {e : Expr} {f : FV} {apos cpos : Pos} (he : EOk X f e) (hl : line1 apos cpos = true) : IOk X (.Tuple elts kk tpos) (sDict .items f) (.Call (.Attribute e "items" apos) [] [] cpos) := by
  refine ⟨PI.weak (pi_items he.pe (attr_no he.pl _ _) hl) fun σ H Q q => ?_, folded_no rfl _⟩
  obtain ⟨α, σd, hd, src, hd', R, S, e1, q⟩ := srcs_of q
  obtain ⟨w, h1, ef, e2⟩ := bind_ok_of e1
  obtain ⟨e3, rfl⟩ := ofO_ok e2
  refine ⟨α, σd, hd, R, S, ?_⟩
  rw [ef]
  intro α' H' v g R' r n
  obtain ⟨a, o, rfl, z⟩ := src_dict (σ := σ) (J := Itr 0 0) R' r e3
  rcases z with ⟨l, h0, z⟩ | ⟨l, h0, z2, z⟩
  · exact ⟨a, o, l, rfl, h0, q α' H' _ g R' z⟩
  · cases z2
theorem i_values {tg e : Expr} {f : FV} {apos cpos : Pos} (he : EOk X f e) (hl : line1 apos cpos = true) : IOk X tg (sDict .vals f) (.Call (.Attribute e "values" apos) [] [] cpos) := by
  refine ⟨PI.weak (pi_values he.pe (attr_no he.pl _ _) hl) fun σ H Q q => ?_, folded_no rfl _⟩
  obtain ⟨α, σd, hd, src, hd', R, S, e1, q⟩ := srcs_of q
  obtain ⟨w, h1, ef, e2⟩ := bind_ok_of e1
  obtain ⟨e3, rfl⟩ := ofO_ok e2
  refine ⟨α, σd, hd, R, S, ?_⟩
  rw [ef]
  intro α' H' v g R' r n
  obtain ⟨a, o, rfl, z⟩ := src_dict (σ := σ) (J := Itr 0 0) R' r e3
  rcases z with ⟨l, h0, z⟩ | ⟨l, h0, z2, z⟩
  · exact ⟨a, o, l, rfl, h0, q α' H' _ g R' z⟩
  · cases z2
end DL
namespace DL
open PySem PySem.Spec PyProof.Rows L2

variable {K : PySem.W.Frag}
variable {α α' α'' α1 α0 : List Addr} {H H' H'' H1 H0 : Hp} {hd hd' hd1 : Hd} {a p : Addr}
variable {X : Cx}
def wipeD (σ : Sd) : List Nat → Sd
  | [] => σ
  | v :: vs => (wipeD σ vs).set v none
theorem RelS.setN {σd : Sd} {σ : L2.St} (S : RelS K α H σd σ) (i : Nat) : RelS K α H (σd.set i none) (σ.set i none) := by
  refine ⟨by simp [S.len], fun j e he => ?_⟩
  by_cases hj : j = i
  · subst hj
    by_cases hl : j < σd.length
    · rw [List.getElem?_set_self hl] at he
      cases he
    · rw [List.getElem?_eq_none (by simpa using hl)] at he
      cases he
  · rw [List.getElem?_set_ne (Ne.symm hj)] at he
    rw [List.getElem?_set_ne (Ne.symm hj)]
    exact S.ix j e he
theorem RelS.wipe {σd : Sd} {σ : L2.St} (S : RelS K α H σd σ) : ∀ vs : List Nat, RelS K α H (wipeD σd vs) (wipe σ vs)
  | [] => S
  | v :: vs => (RelS.wipe S vs).setN v
theorem wipe_get {σ : L2.St} {vs : List Nat} {i : Nat} (h : i ∈ vs) (hl : i < σ.length) : (wipe σ vs)[i]? = some none := by
  induction vs with
  | nil => cases h
  | cons v vs ih =>
    show ((wipe σ vs).set v none)[i]? = some none
    by_cases e : v = i
    · subst e
      rw [List.getElem?_set_self (by rw [wipe_length]; exact hl)]
    · rw [List.getElem?_set_ne e]
      rcases List.mem_cons.mp h with z | z
      · exact absurd z.symm e
      · exact ih z
theorem wipe_eq {σ σ' : L2.St} {vs : List Nat} (o : Out vs (wipe σ vs) σ') : wipe σ' vs = wipe σ vs := by
  apply List.ext_getElem?
  intro i
  have hlen : σ'.length = σ.length := by rw [o.1, wipe_length]
  by_cases hi : i ∈ vs
  · by_cases hl : i < σ.length
    · rw [wipe_get hi hl, wipe_get hi (by rw [hlen]; exact hl)]
    · rw [List.getElem?_eq_none (by rw [wipe_length, hlen]; omega), List.getElem?_eq_none (by rw [wipe_length]; omega)]
  · rw [wipe_out hi, o.2 i hi]
abbrev FC := D → Hd → R (Option D)
def compFx (b : FC) : List D → Hd → R (List D)
  | [], h => .ok [] h
  | d :: ds, h => (b d h).bind fun o h => (compFx b ds h).bind fun r h => .ok (match o with
    | some y => y :: r
    | none => r) h
def compRe (g : Nat → Hd → Option (Option D)) (b : FC) : Nat → Nat → Hd → R (List D)
  | 0, _, _ => .no
  | m + 1, i, h => match g i h with
    | none => .no
    | some none => .ok [] h
    | some (some d) => (b d h).bind fun o h => (compRe g b m (i + 1) h).bind fun r h => .ok (match o with
      | some y => y :: r
      | none => r) h
def FU : Nat := 2 ^ 62
def compS (s : Src) (b : FC) (h : Hd) : R (List D) := match s with
  | .fx xs => compFx b xs h
  | .re g => compRe g b FU 0 h
theorem compFx_re (b : FC) (xs : List D) : ∀ (i : Nat) (h : Hd), i ≤ xs.length → compRe (fun i _ => some xs[i]?) b (xs.length - i + 1) i h = compFx b (xs.drop i) h := by
  intro i
  generalize hn : xs.length - i = n
  induction n generalizing i with
  | zero =>
    intro h hi
    have e : xs[i]? = none := List.getElem?_eq_none (by omega)
    have e2 : xs.drop i = [] := List.drop_eq_nil_of_le (by omega)
    rw [e2]
    simp only [compRe, e]
    rfl
  | succ n ih =>
    intro h hi
    have hl : i < xs.length := by omega
    have e : xs[i]? = some xs[i] := List.getElem?_eq_getElem hl
    rw [List.drop_eq_getElem_cons hl]
    have e3 : compRe (fun i _ => some xs[i]?) b (n + 1 + 1) i h = (b xs[i] h).bind fun o h => (compRe (fun i _ => some xs[i]?) b (n + 1) (i + 1) h).bind fun r h => .ok (match o with
      | some y => y :: r
      | none => r) h := by
      rw [compRe]
      simp only [e]
    rw [e3]
    show _ = ((b xs[i] h).bind fun o h => (compFx b (xs.drop (i + 1)) h).bind fun r h => .ok (match o with
      | some y => y :: r
      | none => r) h)
    congr 1
    funext o h
    rw [ih (i + 1) (by omega) h (by omega)]
theorem compS_re (s : Src) (b : FC) (h : Hd) : ∃ m, compS s b h = compRe s.get b m 0 h := by
  cases s with
  | fx xs => exact ⟨xs.length - 0 + 1, by rw [show (Src.fx xs).get = fun i _ => some xs[i]? from rfl, compFx_re b xs 0 h (Nat.zero_le _)]; rfl⟩
  | re g => exact ⟨FU, rfl⟩
def turnF (tg : Tg) (c : FB) (f : FV) (own : List Nat) (σ : Sd) : FC := fun d h => match tg.put d (wipeD σ own) with
  | none => .no
  | some σ' => (c σ' h).bind fun b h => if b = true then (vSet f σ' h).bind fun w h => match w with
    | .v y => .ok (some y) h
    | .l _ => .no else .ok none h
def vLc (s : FS) (tg : Tg) (c : FB) (f : FV) (own : List Nat) : FV := fun σ h => (s σ h).bind fun s h => (compS s (turnF tg c f own σ) h).bind fun ys h => if ys.length ≤ sizeLine then .ok (.l ys) h else .no
theorem Gr.over {D : Addr} {o : HO} (g : Gr α H α' H') (hD : H D = Option.none) : Gr α H α' (L2.upd H' D o) :=
  ⟨g.pre, fun b u hb hn => by rw [upd_ne (ne_of_none hb hD)]; exact g.fr b u hb hn, fun b w u hb => by rw [upd_ne (ne_of_none hb hD)]; exact g.fz b w u hb⟩
section
variable {D : Addr} {vs ws : List V}
theorem over_tup (hD : H D = some (.lst vs)) : ∀ b us, H b = some (.tup us) → upd H D (.lst ws) b = some (.tup us) := fun b us e => by
  rw [upd_ne fun z => by subst z; rw [hD] at e; cases e]
  exact e
theorem over_ro (hD : H D = some (.lst vs)) : ∀ b us, IsRo K H b us → IsRo K (upd H D (.lst ws)) b us := fun b us e => by
  rcases e with ⟨o, e⟩ | e
  · refine .inl ⟨o, ?_⟩
    rw [upd_ne fun z => by subst z; rw [hD] at e; cases e]
    exact e
  · exact .inr e
theorem Rl.over (R : Rl K α hd H) (hn : D ∉ α) (hD : H D = some (.lst vs)) : Rl K α hd (L2.upd H D (.lst ws)) :=
  ⟨R.len, R.nd, fun n o b h1 h2 => (R.ob n o b h1 h2).mono (fun _ _ e => e) (over_tup hD) (over_ro hD) (upd_ne fun z => hn (z ▸ List.mem_of_getElem? h2))⟩
end
theorem TV_lc {s : FS} {tg : Tg} {c : FB} {f : FV} {own : List Nat} {σ : L2.St} {Q : VK} (ht : ∀ i ∈ tg.slots, i ∈ own) (q : TV K (vLc s tg c f own) σ H Q) : tLc (TIs K s) (gT K tg) (TB K c) (TV K (vSet f)) own σ H Q := by
  obtain ⟨α, σd, hd, R, S, q⟩ := q
  have q : PoW K α H ((s σd hd).bind fun s h => (compS s (turnF tg c f own σd) h).bind fun ys h => if ys.length ≤ sizeLine then .ok (.l ys) h else .no) Q := q
  obtain ⟨w0, h0, e0⟩ := q.ok
  obtain ⟨src, hd1, es, e1⟩ := bind_ok_of e0
  rw [es] at q
  refine ⟨α, σd, hd, R, S, ?_⟩
  rw [es]
  intro α1 H1 J g1 R1 ok Da hD
  have q : PoW K α1 H1 ((compS src (turnF tg c f own σd) hd1).bind fun ys h => if ys.length ≤ sizeLine then .ok (.l ys) h else .no) Q := q.from g1 R1
  obtain ⟨m0, em⟩ := compS_re src (turnF tg c f own σd) hd1
  rw [em] at q
  have S1 := S.gr R g1
  have nD1 := R1.none_out hD
  refine ⟨fun i m H => ∃ α hd acc vs, Gr α1 H1 α H ∧ Rl K α hd H ∧ Da ∉ α ∧ H Da = some (.lst vs) ∧ RelDs K α H acc vs ∧
      PoW K α1 H1 ((compRe src.get (turnF tg c f own σd) m i hd).bind fun ys h => if (acc ++ ys).length ≤ sizeLine then .ok (.l (acc ++ ys)) h else .no) Q,
    ⟨m0, α1, hd1, [], [], Gr.upd R1 hD _, R1.upd hD _, nD1, upd_same, rfl, q⟩, ?_⟩
  rintro i m H2 ⟨α2, hd2, acc, vs, g2, R2, nD2, eD2, rx, q⟩
  cases m with
  | zero => exact q.elim
  | succ m =>
    have gH : Gr α1 H1 α2 H2 := g2
    simp only [compRe] at q
    obtain ⟨stop, go⟩ := ok i α2 hd2 H2 gH R2
    cases eg : src.get i hd2 with
    | none => rw [eg] at q; exact q.elim
    | some o =>
      cases o with
      | none =>
        rw [eg] at q
        refine .inl ⟨stop eg, ?_⟩
        have q : PoW K α1 H1 (if (acc ++ []).length ≤ sizeLine then .ok (.l (acc ++ [])) hd2 else .no) Q := q
        rw [List.append_nil] at q
        split at q
        · refine q α2 H2 _ gH R2 ⟨Da, vs, rfl, eD2, nD2, rx⟩ fun b eb => ?_
          cases eb
          exact hD
        · exact q.elim
      | some d =>
        rw [eg] at q
        obtain ⟨go1, go2⟩ := go d eg
        refine .inr ⟨go1, fun H' => ∃ α hd acc vs, Gr α1 H1 α H' ∧ Rl K α hd H' ∧ Da ∉ α ∧ H' Da = some (.lst vs) ∧ RelDs K α H' acc vs ∧
          PoW K α1 H1 ((compRe src.get (turnF tg c f own σd) m (i + 1) hd).bind fun ys h => if (acc ++ ys).length ≤ sizeLine then .ok (.l (acc ++ ys)) h else .no) Q,
          fun H' z => ⟨m, Nat.lt_succ_self _, z⟩, fun x H3 y => ?_⟩
        obtain ⟨g3, R3, rd⟩ := go2 x H3 y
        simp only at q
        obtain ⟨w1, h1, e5⟩ := q.ok
        obtain ⟨ys1, hd5, e6, _⟩ := bind_ok_of e5
        obtain ⟨o1, hd4, e7, _⟩ := bind_ok_of e6
        have e7' := e7
        simp only [turnF] at e7
        split at e7
        · cases e7
        · rename_i σd' ep
          have S3 : RelS K α2 H3 (wipeD σd own) (wipe σ own) := (((S1.gr R1 gH).gr R2 g3).wipe own)
          refine ⟨α2, wipeD σd own, hd2, d, σd', R3, S3, rd, ep, fun σ' S' out => ⟨wipe_eq (out.mono ht), ?_⟩⟩
          have eD3 : H3 Da = some (.lst vs) := g3.fr Da _ eD2 nD2
          have rx3 := rx.gr R2 g3
          obtain ⟨b, hd3, eb, e8⟩ := bind_ok_of e7
          refine ⟨α2, σd', hd2, R3, S', ?_⟩
          rw [eb]
          intro α4 H4 g4 R4
          have nD4 := g4.notin eD3 nD2
          have eD4 : H4 Da = some (.lst vs) := g4.fr Da _ eD3 nD2
          have rx4 := rx3.gr R3 g4
          cases b with
          | false =>
            rw [if_neg Bool.false_ne_true]
            cases e8
            refine ⟨α4, hd4, acc, vs, (g2.trans g3).trans g4, R4, nD4, eD4, rx4, ?_⟩
            rw [e7'] at q
            simp only [DL.R.bind_ok] at q
            cases e9 : compRe src.get (turnF tg c f own σd) m (i + 1) hd4 with
            | ok zs hd6 => rw [e9] at q; exact q
            | ex => rw [e9] at q; exact q
            | no => rw [e9] at q; exact q
          | true =>
            rw [if_pos rfl]
            rw [if_pos rfl] at e8
            obtain ⟨w5, hd5', e9, e10⟩ := bind_ok_of e8
            refine ⟨α4, σd', hd3, R4, S'.gr R3 g4, ?_⟩
            rw [e9]
            intro α5 H5 y5 g5 R5 r5 _
            cases w5 with
            | l _ => cases e10
            | v y5d =>
              cases e10
              have nD5 := g5.notin eD4 nD4
              have eD5 : H5 Da = some (.lst vs) := g5.fr Da _ eD4 nD4
              have rx5 := rx4.gr R4 g5
              rw [e7'] at q
              simp only [DL.R.bind_ok] at q
              have q' : PoW K α1 H1 ((compRe src.get (turnF tg c f own σd) m (i + 1) hd4).bind fun ys h => if (acc ++ [y5d] ++ ys).length ≤ sizeLine then .ok (.l (acc ++ [y5d] ++ ys)) h else .no) Q := by
                cases e11 : compRe src.get (turnF tg c f own σd) m (i + 1) hd4 with
                | ok zs hd6 =>
                  rw [e11] at q
                  have q : PoW K α1 H1 (if (acc ++ y5d :: zs).length ≤ sizeLine then .ok (.l (acc ++ y5d :: zs)) hd6 else .no) Q := q
                  show PoW K α1 H1 (if (acc ++ [y5d] ++ zs).length ≤ sizeLine then .ok (.l (acc ++ [y5d] ++ zs)) hd6 else .no) Q
                  rw [List.append_assoc]
                  exact q
                | ex => rw [e11] at q; exact q
                | no => rw [e11] at q; exact q
              have small : acc.length < sizeLine := by
                obtain ⟨_, _, e12⟩ := q'.ok
                obtain ⟨zs, _, _, e13⟩ := bind_ok_of e12
                split at e13
                · rename_i hz
                  rw [List.length_append, List.length_append] at hz
                  simp only [List.length_singleton] at hz
                  omega
                · cases e13
              refine ⟨vs, eD5, by rw [rx5.length]; exact small, α5, hd4, acc ++ [y5d], vs ++ [y5], (((g2.trans g3).trans g4).trans g5).over hD, R5.over nD5 eD5, nD5, upd_same, ?_, q'⟩
              exact (rx5.append (es := [y5d]) (show RelDs K α5 H5 [y5d] [y5] from ⟨y5, [], rfl, r5, rfl⟩)).mono (fun _ _ e => e) (over_tup eD5) (over_ro eD5)
end DL
namespace DL
open PySem PySem.Spec PyProof.Rows L2

variable {K : PySem.W.Frag}
variable {α α' α'' α1 α0 : List Addr} {H H' H'' H1 H0 : Hp} {hd hd' hd1 : Hd} {a p : Addr}
variable {X : Cx}
inductive Fl where
  | nx (σ : Sd) | rt (w : W) | bk (σ : Sd) | ct (σ : Sd)
abbrev FSt := Sd → Hd → R Fl
def PoS (K : PySem.W.Frag) (α : List Addr) (H : Hp) (r : R Fl) (D : Ends) : Prop := match r with
  | .ok (.nx σd') hd' => ∀ α' H' σ', Gr α H α' H' → Rl K α' hd' H' → RelS K α' H' σd' σ' → D.nx σ' H'
  | .ok (.bk σd') hd' => ∀ α' H' σ', Gr α H α' H' → Rl K α' hd' H' → RelS K α' H' σd' σ' → D.bk σ' H'
  | .ok (.ct σd') hd' => ∀ α' H' σ', Gr α H α' H' → Rl K α' hd' H' → RelS K α' H' σd' σ' → D.ct σ' H'
  | .ok (.rt w) hd' => ∀ α' H' v, Gr α H α' H' → Rl K α' hd' H' → RelW K α' H' w v → NewW H w v → D.rt v H'
  | _ => False
def TSd (K : PySem.W.Frag) (f : FSt) : TS := fun D σ H => ∃ α σd hd, Rl K α hd H ∧ RelS K α H σd σ ∧ PoS K α H (f σd hd) D
theorem PoS.from {r : R Fl} {D : Ends} (g : Gr α H α1 H1) (R1 : Rl K α1 hd1 H1) (h : PoS K α H r D) : PoS K α1 H1 r D := by
  cases r with
  | ok w hd' =>
    cases w with
    | nx σ => exact fun α' H' σ' g' R' S' => h α' H' σ' (g.trans g') R' S'
    | bk σ => exact fun α' H' σ' g' R' S' => h α' H' σ' (g.trans g') R' S'
    | ct σ => exact fun α' H' σ' g' R' S' => h α' H' σ' (g.trans g') R' S'
    | rt w => exact fun α' H' v g' R' rw n => h α' H' v (g.trans g') R' rw (n.back g R1)
  | ex => exact h
  | no => exact h
theorem PoS.ok {r : R Fl} {D : Ends} (h : PoS K α H r D) : ∃ b h, r = .ok b h := by
  cases r with
  | ok b h' => exact ⟨b, h', rfl⟩
  | _ => exact h.elim
def sNil : FSt := fun σ h => .ok (.nx σ) h
def sCons (f g : FSt) : FSt := fun σ h => (f σ h).bind fun r h => match r with
  | .nx σ' => g σ' h
  | r => .ok r h
theorem ss_nil : PSs X [] (TSd X.K sNil) := by
  refine PSs.weak pss_nil fun D σ H q => ?_
  obtain ⟨α, σd, hd, R, S, q⟩ := q
  exact q α H σ (Gr.refl _ _) R S
theorem ss_cons {f g : FSt} {st : Stmt} {sts : List Stmt} (h : PS X st (TSd X.K f)) (hs : PSs X sts (TSd X.K g)) : PSs X (st :: sts) (TSd X.K (sCons f g)) := by
  refine PSs.weak (pss_cons h hs) fun D σ H q => ?_
  obtain ⟨α, σd, hd, R, S, q⟩ := q
  have q : PoS X.K α H ((f σd hd).bind fun r h => match r with
    | .nx σ' => g σ' h
    | r => .ok r h) D := q
  refine ⟨α, σd, hd, R, S, ?_⟩
  cases e : f σd hd with
  | ok r hd' =>
    rw [e] at q
    cases r with
    | nx σ1 => exact fun α' H' σ' g' R' S' => ⟨α', σ1, hd', R', S', q.from g' R'⟩
    | bk σ1 => exact q
    | ct σ1 => exact q
    | rt w => exact q
  | ex => rw [e] at q; exact q.elim
  | no => rw [e] at q; exact q.elim
theorem s_pass {pos : Pos} : PS X (.Pass pos) (TSd X.K sNil) := by
  refine PS.weak ps_pass fun D σ H q => ?_
  obtain ⟨α, σd, hd, R, S, q⟩ := q
  exact q α H σ (Gr.refl _ _) R S
def sBrk : FSt := fun σ h => .ok (.bk σ) h
def sCnt : FSt := fun σ h => .ok (.ct σ) h
theorem s_brk {pos : Pos} : PS X (.Break pos) (TSd X.K sBrk) := by
  refine PS.weak ps_break fun D σ H q => ?_
  obtain ⟨α, σd, hd, R, S, q⟩ := q
  exact q α H σ (Gr.refl _ _) R S
theorem s_cnt {pos : Pos} : PS X (.Continue pos) (TSd X.K sCnt) := by
  refine PS.weak ps_continue fun D σ H q => ?_
  obtain ⟨α, σd, hd, R, S, q⟩ := q
  exact q α H σ (Gr.refl _ _) R S
def sExpr (f : FV) : FSt := fun σ h => (f σ h).bind fun _ h => .ok (.nx σ) h
theorem s_expr {f : FV} {e : Expr} {pos : Pos} (he : EOk X f e) (hn : noComp e = true) : PS X (.Expr e pos) (TSd X.K (sExpr f)) := by
  refine PS.weak (ps_expr he.pe (swaps_no hn _ _ _)) fun D σ H q => ?_
  obtain ⟨α, σd, hd, R, S, q⟩ := q
  have q : PoS X.K α H ((f σd hd).bind fun _ h => .ok (.nx σd) h) D := q
  refine TV.seq R S q.ok fun x hd1 α1 H1 v1 e g R1 S1 r n => ?_
  rw [e] at q
  exact q α1 H1 σ g R1 S1
def sRet (f : FV) : FSt := fun σ h => (f σ h).bind fun w h => .ok (.rt w) h
theorem s_ret {f : FV} {e : Expr} {pos : Pos} (he : EOk X f e) : PS X (.Return (some e) pos) (TSd X.K (sRet f)) := by
  refine PS.weak (ps_ret he.pe) fun D σ H q => ?_
  obtain ⟨α, σd, hd, R, S, q⟩ := q
  have q : PoS X.K α H ((f σd hd).bind fun w h => .ok (.rt w) h) D := q
  refine TV.seq R S q.ok fun x hd1 α1 H1 v1 e g R1 S1 r n => ?_
  rw [e] at q
  exact q α1 H1 v1 g R1 r n
def sRetN : FSt := fun _ h => .ok (.rt (.v .non)) h
theorem s_retN {pos : Pos} : PS X (.Return none pos) (TSd X.K sRetN) := by
  refine PS.weak ps_retN fun D σ H q => ?_
  obtain ⟨α, σd, hd, R, S, q⟩ := q
  exact q α H .non (Gr.refl _ _) R rfl trivial
def sIf (c : FB) (f g : FSt) : FSt := fun σ h => (c σ h).bind fun b h => if b = true then f σ h else g σ h
theorem s_if {c : FB} {f g : FSt} {e : Expr} {a b : List Stmt} {pos : Pos} (hc : PT X e (TB X.K c)) (ha : PSs X a (TSd X.K f)) (hb : PSs X b (TSd X.K g)) : PS X (.If e a b pos) (TSd X.K (sIf c f g)) := by
  refine PS.weak (ps_if hc ha hb) fun D σ H q => ?_
  obtain ⟨α, σd, hd, R, S, q⟩ := q
  have q : PoS X.K α H ((c σd hd).bind fun b h => if b = true then f σd h else g σd h) D := q
  refine TB.seq R S q.ok fun x hd1 α1 H1 e g1 R1 S1 => ?_
  rw [e] at q
  have q := q.from g1 R1
  cases x with
  | true => exact ⟨α1, σd, hd1, R1, S1, q⟩
  | false => exact ⟨α1, σd, hd1, R1, S1, q⟩
def sPut (t : Tg) (f : FV) : FSt := fun σ h => (vSet f σ h).bind fun w h => match w with
  | .v d => match t.put d σ with
    | some σ' => .ok (.nx σ') h
    | none => .no
  | .l _ => .no
theorem sPut_go {t : Tg} {f : FV} {g : TG} {D : Ends} {σ : L2.St} (weak : ∀ v σ H Q, gT K t v σ H Q → g v σ H Q) (q : TSd K (sPut t f) D σ H) : TV K (vSet f) σ H fun v H1 => g v σ H1 D.nx := by
  obtain ⟨α, σd, hd, R, S, q⟩ := q
  have q : PoS K α H ((vSet f σd hd).bind fun w h => match w with
    | .v d => match t.put d σd with
      | some σ' => .ok (.nx σ') h
      | none => .no
    | .l _ => .no) D := q
  refine TV.seq R S q.ok fun x hd1 α1 H1 v1 e g1 R1 S1 r n => weak _ _ _ _ ?_
  rw [e] at q
  cases x with
  | l xs => exact q.elim
  | v d =>
    simp only at q
    split at q
    · rename_i σd' ep
      exact ⟨α1, σd, hd1, d, σd', R1, S1, r, ep, fun σ' S' _ => q α1 H1 σ' g1 R1 S'⟩
    · exact q.elim
theorem s_set {i : Nat} {f : FV} {x : Str} {e : Expr} {pos pos' : Pos} (hN : X.N.Nodup) (hi : X.N[i]? = some x) (hx : Loc X.env.scope x) (hf : X.fn x = true ∨ X.env.scope.names.lookup x = some .local) (he : EOk X f e) (hn : noComp e = true) :
    PS X (.Assign [.Name x pos'] e pos) (TSd X.K (sPut (.nm i) f)) := by
  refine PS.weak (ps_set hN hi hx (e_set he).pe (swaps_no hn _ _ _) hf) fun D σ H q => ?_
  exact sPut_go (g := gName i) (fun v σ H Q z => by
    obtain ⟨α, σd, hd, d, σd', R, S, r, e, q⟩ := z
    cases e
    exact q _ (S.set r _) (Out.set _ _ _)) q
theorem s_asg {t : Tg} {f : FV} {tg e : Expr} {pos : Pos} (he : EOk X f e) (ht : PG X tg (gT X.K t)) (hs : swapsWithSole [tg] e pos.line X.env = pure false) (hw : swappedStores [tg] e X.env = pure none)
    (h1 : (assignEach [tg] X.env).map (·.2) = [assign tg X.env]) : PS X (.Assign [tg] e pos) (TSd X.K (sPut t f)) :=
  PS.weak (ps_asg (e_set he).pe ht hs hw h1) fun D σ H q => sPut_go (fun _ _ _ _ z => z) q
theorem s_setLc {s : FS} {tg : Tg} {c : FB} {f : FV} {i : Nat} {y : Str} {py : Pos} {elt te iter : Expr} {ifs : List Expr} {scope : Scope} {own : List (Str × Nat)} {pos spos : Pos} (hc : X.calm = true) (hN : X.N.Nodup) (hy : X.N[i]? = some y) (hyl : X.env.scope.names.lookup y = some .local)
    (hsw : swapsWith (.ListComp elt [⟨te, iter, ifs, 0⟩] scope pos) (some (.Name y py)) spos.line X.env = pure true) (hi : IOk X te s iter) (ok : BlkOk X.N X.env.scope scope own)
    (hg : ∀ (s : Shared) (H : Hp) (C : Addr) (cl : List (Str × Addr)) (fp : List Addr), PG (X.blk s H scope (compEnvC scope cl C X.env) fp) te (gT X.K tg)) (ht : ∀ (s : Shared) (H : Hp) (C : Addr) (cl : List (Str × Addr)) (fp : List Addr), PTs (X.blk s H scope (compEnvC scope cl C X.env) fp) ifs (TB X.K c))
    (he : ∀ (s : Shared) (H : Hp) (C : Addr) (cl : List (Str × Addr)) (fp : List Addr), EOk (X.blk s H scope (compEnvC scope cl C X.env) fp) f elt) (hsl : ∀ i ∈ tg.slots, i ∈ own.map (·.2)) :
    PS X (.Assign [.Name y py] (.ListComp elt [⟨te, iter, ifs, 0⟩] scope pos) spos) (TSd X.K (sPut (.nm i) (vLc s tg c f (own.map (·.2))))) := by
  refine PS.weak (ps_setLc (te := TV X.K (vSet f)) hc hN hy hyl hsw hi.pi ok hg ht (fun s H C cl fp => (e_set (he s H C cl fp)).pe) hi.fold) fun D σ H q => ?_
  refine TV_lc hsl (TV_set (sPut_go (g := gName i) (fun v σ H Q z => ?_) q))
  obtain ⟨α, σd, hd, d, σd', R, S, r, e, q⟩ := z
  cases e
  exact q _ (S.set r _) (Out.set _ _ _)
theorem e_lc {s : FS} {tg : Tg} {c : FB} {f : FV} {elt te iter : Expr} {ifs : List Expr} {scope : Scope} {own : List (Str × Nat)} {pos : Pos} (hc : X.calm = true) (hN : X.N.Nodup) (hi : IOk X te s iter) (ok : BlkOk X.N X.env.scope scope own)
    (hg : ∀ (s : Shared) (H : Hp) (C : Addr) (cl : List (Str × Addr)) (fp : List Addr), PG (X.blk s H scope (compEnvC scope cl C X.env) fp) te (gT X.K tg)) (ht : ∀ (s : Shared) (H : Hp) (C : Addr) (cl : List (Str × Addr)) (fp : List Addr), PTs (X.blk s H scope (compEnvC scope cl C X.env) fp) ifs (TB X.K c))
    (he : ∀ (s : Shared) (H : Hp) (C : Addr) (cl : List (Str × Addr)) (fp : List Addr), EOk (X.blk s H scope (compEnvC scope cl C X.env) fp) f elt) (hsl : ∀ i ∈ tg.slots, i ∈ own.map (·.2)) :
    EOk X (vLc s tg c f (own.map (·.2))) (.ListComp elt [⟨te, iter, ifs, 0⟩] scope pos) :=
  ⟨TV.mono_iff (pe_lc (te := TV X.K (vSet f)) hc hN hi.pi ok hg ht (fun s H C cl fp => (e_set (he s H C cl fp)).pe) hi.fold) fun σ H Q q => TV_lc hsl q, rfl⟩
def sPar (is : List Nat) (fs : List FV) : FSt := fun σ h => (vSeq fs σ h).bind fun ds h => match Tg.puts (is.map .nm) ds σ with
  | some σ' => .ok (.nx σ') h
  | none => .no
theorem s_par {i j : Nat} {fs : List FV} {x y : Str} {a b : Expr} {px py pt pos : Pos} {kt k2 : Nat} {pt2 : Pos} (hc : X.calm = true) (hN : X.N.Nodup) (hi : X.N[i]? = some x) (hj : X.N[j]? = some y) (hij : i ≠ j)
    (hx : X.env.scope.names.lookup x = some .local) (hy : X.env.scope.names.lookup y = some .local) (h : EsOk X fs [a, b])
    (hw : swappedStores [.Tuple [.Name x px, .Name y py] kt pt] (.Tuple [a, b] k2 pt2) X.env = pure (some [x, y])) (hs : swapsWithSole [.Tuple [.Name x px, .Name y py] kt pt] (.Tuple [a, b] k2 pt2) pos.line X.env = pure false) :
    PS X (.Assign [.Tuple [.Name x px, .Name y py] kt pt] (.Tuple [a, b] k2 pt2) pos) (TSd X.K (sPar [i, j] fs)) := by
  refine PS.weak (ps_par hc hN hi hj hij hx hy (a_seq h) hw hs) fun D σ H q => ?_
  obtain ⟨α, σd, hd, R, S, q⟩ := q
  have q : PoS X.K α H ((vSeq fs σd hd).bind fun ds h => match Tg.puts ([i, j].map .nm) ds σd with
    | some σ' => .ok (.nx σ') h
    | none => .no) D := q
  refine TL.seq R S q.ok fun ds hd1 α1 H1 vs e g1 R1 S1 rs => ?_
  rw [e] at q
  cases e1 : Tg.puts ([i, j].map .nm) ds σd with
  | none => rw [e1] at q; exact q.elim
  | some σ' =>
    rw [e1] at q
    cases ds with
    | nil => cases e1
    | cons d ds =>
      cases ds with
      | nil => cases e1
      | cons d2 ds =>
        cases ds with
        | cons _ _ => cases e1
        | nil =>
          obtain ⟨v, vr, rfl, r1, v2, vr2, rfl, r2, r3⟩ := rs
          rw [show vr2 = [] from r3]
          cases e1
          exact ⟨v, v2, rfl, q α1 H1 _ g1 R1 ((S1.set r1 i).set r2 j)⟩
def augI (op : Operator) (i : Int) (y : W) (h : Hd) : R W := match op, y with
  | .Add, .v (.int j) => .ok (.v (.int (i + j))) h
  | .Sub, .v (.int j) => .ok (.v (.int (i - j))) h
  | .Mult, .v (.int j) => if wide i || wide j then .ok (.v (.int (i * j))) h else .no
  | .FloorDiv, .v (.int j) => if 0 < j ∧ j < 1073741824 then .ok (.v (.int (i / j))) h else .no
  | .Mod, .v (.int j) => if 0 < j then .ok (.v (.int (i % j))) h else .no
  | _, _ => .no
def augW (op : Operator) (x y : W) (h : Hd) : R W := match op, x with
  | .Add, .v (.obj n) => match h[n]?, y.lst h with
    | some (.lst xs), some ys => if xs.length + ys.length ≤ sizeLine then .ok (.v (.obj n)) (h.set n (.lst (xs ++ ys))) else .no
    | _, _ => .no
  | op, .v (.int i) => augI op i y h
  | .Add, .v (.str s) => match y with
    | .v (.str t) => if s.length + t.length ≤ sizeLine then .ok (.v (.str (s ++ t))) h else .no
    | _ => .no
  | _, _ => .no
def rA (K : PySem.W.Frag) (op : Operator) : TIp := fun x y H Q => ∃ α hd wx wy, Rl K α hd H ∧ RelW K α H wx x ∧ RelW K α H wy y ∧ PoW K α H (augW op wx wy hd) Q
theorem ip_of {op : Operator} {r : R2} (h : OpR X (inplaceOp op) r) : PIp X op r := fun pins s σ H x y v u Q I rx ry q => h pins s σ H x y v u Q I rx ry q
theorem ipW (op : Operator) : PIp X op (rA X.K op) := by
  intro pins s σ H x y v u Q I rx ry h
  obtain ⟨α, hd, wx, wy, R, rwx, rwy, h⟩ := h
  cases wx with
  | l xs => cases op <;> exact h.elim
  | v dx =>
    cases dx with
    | int i =>
      cases (show x = V.int i from rwx)
      have e : augW op (.v (.int i)) wy hd = augI op i wy hd := by cases op <;> rfl
      rw [e] at h
      cases wy with
      | l ys => cases op <;> exact h.elim
      | v dy =>
        cases dy with
        | int j =>
          cases (show y = V.int j from rwy)
          cases op with
          | Add => exact iop_add pins s σ H _ _ v u Q I rx ry ⟨i, j, rfl, rfl, h.old (d := .int (i + j)) R rfl⟩
          | Sub => exact iop_sub pins s σ H _ _ v u Q I rx ry ⟨i, j, rfl, rfl, h.old (d := .int (i - j)) R rfl⟩
          | Mult =>
            simp only [augI] at h
            split at h
            · rename_i hz
              refine iop_mul pins s σ H _ _ v u Q I rx ry ⟨i, j, rfl, rfl, ?_, h.old (d := .int (i * j)) R rfl⟩
              simp only [wide, Bool.or_eq_true, Bool.and_eq_true, decide_eq_true_eq] at hz
              exact hz
            · exact h.elim
          | FloorDiv =>
            simp only [augI] at h
            split at h
            · rename_i hz
              exact iop_fdiv pins s σ H _ _ v u Q I rx ry ⟨i, j, rfl, rfl, hz, h.old (d := .int (i / j)) R rfl⟩
            · exact h.elim
          | Mod =>
            simp only [augI] at h
            split at h
            · rename_i hz
              exact iop_mod pins s σ H _ _ v u Q I rx ry ⟨i, j, rfl, rfl, hz, h.old (d := .int (i % j)) R rfl⟩
            · exact h.elim
          | _ => exact h.elim
        | _ => cases op <;> exact h.elim
    | str t =>
      cases op with
      | Add =>
        simp only [augW] at h
        split at h
        · rename_i t'
          split at h
          · rename_i hz
            cases (show x = V.str (mkS t) from rwx)
            cases (show y = V.str (mkS t') from rwy)
            refine iop_add_str pins s σ H _ _ v u Q I rx ry ⟨_, _, rfl, rfl, by rw [mkS_len, mkS_len]; exact hz, ?_⟩
            rw [mkS_app]
            exact h.old (d := .str (t ++ t')) R rfl
          · exact h.elim
        · exact h.elim
      | _ => exact h.elim
    | obj n =>
      cases op with
      | Add =>
        simp only [augW] at h
        split at h
        · rename_i xs ys ho ey
          obtain ⟨a, vs, e1, rfl, e2, hx⟩ := lst_of R rwx ho
          obtain ⟨b, ws, rfl, e3, hy⟩ := lst_at R rwy ey
          split at h
          · rename_i hz
            refine iop_ext pins s σ H _ _ v u Q I rx ry ⟨a, b, vs, ws, rfl, rfl, e2, e3, by rw [hx.length, hy.length]; exact hz, ?_⟩
            exact h.setO (d := .obj n) R e1 e2 rfl (RelO.newLst R e1 e2 rfl (hx.append hy)) ⟨a, e1, rfl⟩
          · exact h.elim
        · exact h.elim
      | _ => exact h.elim
    | _ => cases op <;> exact h.elim
def sAug (i : Nat) (op : Operator) (f : FV) : FSt := fun σ h => (vVar i σ h).bind fun x h => (f σ h).bind fun y h => (augW op x y h).bind fun w h => match w with
  | .v d => .ok (.nx (σ.set i (some d))) h
  | .l _ => .no
theorem s_aug {i : Nat} {op : Operator} {f : FV} {x : Str} {e : Expr} {pos pos' : Pos} (hN : X.N.Nodup) (hi : X.N[i]? = some x) (hx : Loc X.env.scope x) (hf : X.fn x = true ∨ X.env.scope.names.lookup x = some .local) (he : EOk X f e) :
    PS X (.AugAssign (.Name x pos') op e pos) (TSd X.K (sAug i op f)) := by
  refine PS.weak (ps_aug hN hi hx he.pe (ipW op) hf) fun D σ H q => ?_
  obtain ⟨α, σd, hd, R, S, q⟩ := q
  have q : PoS X.K α H ((vVar i σd hd).bind fun x h => (f σd h).bind fun y h => (augW op x y h).bind fun w h => match w with
    | .v d => .ok (.nx (σd.set i (some d))) h
    | .l _ => .no) D := q
  simp only [vVar] at q
  cases e0 : σd[i]? with
  | none => rw [e0] at q; exact q.elim
  | some o =>
    cases o with
    | none => rw [e0] at q; exact q.elim
    | some d =>
      rw [e0] at q
      simp only [DL.R.bind_ok] at q
      obtain ⟨v, ev, rv⟩ := S.ix i d e0
      refine ⟨v, ev, ?_⟩
      refine TV.seq R S q.ok fun y hd1 α1 H1 v1 e g1 R1 S1 r n => ?_
      rw [e] at q
      have q := q.from g1 R1
      refine ⟨α1, hd1, .v d, y, R1, rv.gr R g1, r, ?_⟩
      cases e2 : augW op (.v d) y hd1 with
      | ok w hd2 =>
        rw [e2] at q
        cases w with
        | v d2 => exact fun α2 H2 v2 g2 R2 r2 _ => q α2 H2 _ g2 R2 ((S1.gr R1 g2).set r2 i)
        | l xs => exact q.elim
      | ex => rw [e2] at q; exact q.elim
      | no => rw [e2] at q; exact q.elim
def setIx (o i : W) (d : D) (h : Hd) : Option Hd := match o, i with
  | .v (.obj n), .v k => match h[n]? with
    | some (.lst xs) => match k with
      | .int j => match ixN xs.length j with
        | some m => some (h.set n (.lst (xs.set m d)))
        | none => none
      | _ => none
    | some (.dK kvs) => match k.key? with
      | some key => if kvs.length < sizeLine then some (h.set n (.dK (putK kvs key d))) else none
      | none => none
    | some (.dT kvs) => match k with
      | .tup ks => match D.keys? ks with
        | some key => if kvs.length < sizeLine then some (h.set n (.dT (putK kvs key d))) else none
        | none => none
      | _ => none
    | _ => none
  | _, _ => none
def rSt (K : PySem.W.Frag) : TSet := fun o i v H Q => ∃ α hd wo wi d hd', Rl K α hd H ∧ RelW K α H wo o ∧ RelW K α H wi i ∧ RelD K α H d v ∧ setIx wo wi d hd = some hd' ∧ ∀ H', Gr α H α H' → Rl K α hd' H' → Q H'
theorem putK_rel {d : D} {v : V} {k : DK} (r : RelD K α H d v) : ∀ {kvs : List (DK × D)} {l : List (Key × V)}, RelKK K α H kvs l → RelKK K α H (putK kvs k d) (L2.putK l k.key v) := by
  have anyE : ∀ {kvs : List (DK × D)} {l : List (Key × V)}, RelKK K α H kvs l → (l.any fun kv => decide (kv.1 = k.key)) = kvs.any fun kv => decide (kv.1 = k) := by
    intro kvs
    induction kvs with
    | nil => intro l h; rw [show l = [] from h]; rfl
    | cons kd r ih =>
      obtain ⟨k', d'⟩ := kd
      intro l h
      obtain ⟨v', lr, rfl, h1, h2⟩ := h
      rw [List.any_cons, List.any_cons, ih h2]
      congr 1
      by_cases e : k' = k
      · subst e; simp
      · simp only [e, decide_false]
        exact decide_eq_false fun z => e (DK.key_inj z)
  have mapE : ∀ {kvs : List (DK × D)} {l : List (Key × V)}, RelKK K α H kvs l → RelKK K α H (kvs.map fun kv => if kv.1 = k then (kv.1, d) else kv) (l.map fun kv => if kv.1 = k.key then (kv.1, v) else kv) := by
    intro kvs
    induction kvs with
    | nil => intro l h; rw [show l = [] from h]; rfl
    | cons kd r' ih =>
      obtain ⟨k', d'⟩ := kd
      intro l h
      obtain ⟨v', lr, rfl, h1, h2⟩ := h
      rw [List.map_cons, List.map_cons]
      by_cases e : k' = k
      · subst e
        rw [if_pos rfl, if_pos rfl]
        exact ⟨v, _, rfl, r, ih h2⟩
      · rw [if_neg e, if_neg fun z => e (DK.key_inj z)]
        exact ⟨v', _, rfl, h1, ih h2⟩
  have appE : ∀ {kvs : List (DK × D)} {l : List (Key × V)}, RelKK K α H kvs l → RelKK K α H (kvs ++ [(k, d)]) (l ++ [(k.key, v)]) := by
    intro kvs
    induction kvs with
    | nil => intro l h; rw [show l = [] from h]; exact ⟨v, [], rfl, r, rfl⟩
    | cons kd r' ih =>
      obtain ⟨k', d'⟩ := kd
      intro l h
      obtain ⟨v', lr, rfl, h1, h2⟩ := h
      exact ⟨v', _, rfl, h1, ih h2⟩
  intro kvs l h
  unfold putK L2.putK
  rw [anyE h]
  split
  · exact mapE h
  · exact appE h
theorem putT_rel {d : D} {v : V} {k : List DK} (r : RelD K α H d v) : ∀ {kvs : List (List DK × D)} {l : List (List Key × V)}, RelKT K α H kvs l → RelKT K α H (putK kvs k d) (L2.putK l (k.map DK.key) v) := by
  have anyE : ∀ {kvs : List (List DK × D)} {l : List (List Key × V)}, RelKT K α H kvs l → (l.any fun kv => decide (kv.1 = k.map DK.key)) = kvs.any fun kv => decide (kv.1 = k) := by
    intro kvs
    induction kvs with
    | nil => intro l h; rw [show l = [] from h]; rfl
    | cons kd r ih =>
      obtain ⟨k', d'⟩ := kd
      intro l h
      obtain ⟨v', lr, rfl, h1, h2⟩ := h
      rw [List.any_cons, List.any_cons, ih h2]
      congr 1
      by_cases e : k' = k
      · subst e; simp
      · simp only [e, decide_false]
        exact decide_eq_false fun z => e (keyL_inj z)
  have mapE : ∀ {kvs : List (List DK × D)} {l : List (List Key × V)}, RelKT K α H kvs l → RelKT K α H (kvs.map fun kv => if kv.1 = k then (kv.1, d) else kv) (l.map fun kv => if kv.1 = k.map DK.key then (kv.1, v) else kv) := by
    intro kvs
    induction kvs with
    | nil => intro l h; rw [show l = [] from h]; rfl
    | cons kd r' ih =>
      obtain ⟨k', d'⟩ := kd
      intro l h
      obtain ⟨v', lr, rfl, h1, h2⟩ := h
      rw [List.map_cons, List.map_cons]
      by_cases e : k' = k
      · subst e
        rw [if_pos rfl, if_pos rfl]
        exact ⟨v, _, rfl, r, ih h2⟩
      · rw [if_neg e, if_neg fun z => e (keyL_inj z)]
        exact ⟨v', _, rfl, h1, ih h2⟩
  have appE : ∀ {kvs : List (List DK × D)} {l : List (List Key × V)}, RelKT K α H kvs l → RelKT K α H (kvs ++ [(k, d)]) (l ++ [(k.map DK.key, v)]) := by
    intro kvs
    induction kvs with
    | nil => intro l h; rw [show l = [] from h]; exact ⟨v, [], rfl, r, rfl⟩
    | cons kd r' ih =>
      obtain ⟨k', d'⟩ := kd
      intro l h
      obtain ⟨v', lr, rfl, h1, h2⟩ := h
      exact ⟨v', _, rfl, h1, ih h2⟩
  intro kvs l h
  unfold putK L2.putK
  rw [anyE h]
  split
  · exact mapE h
  · exact appE h
theorem setW (hu : Deep X) : PSet X (rSt X.K) := by
  intro pins s σ H o i v ov iv u Q I ro ri rv h
  obtain ⟨α, hd, wo, wi, d, hd', R, rwo, rwi, rd, e, q⟩ := h
  cases wo with
  | l xs => cases e
  | v dd =>
    cases dd with
    | obj n =>
      cases wi with
      | l ys => cases e
      | v k =>
        obtain ⟨a, ea, rfl⟩ := rwo
        cases ro
        simp only [setIx] at e
        split at e
        · rename_i xs ho
          obtain ⟨vs, e2, hx⟩ := R.ob n _ a ho ea
          cases k with
          | int j =>
            cases (show i = V.int j from rwi)
            simp only at e
            split at e
            · rename_i m em
              cases e
              refine set_list pins s σ H (.ref a) _ v _ iv u Q I (show L2.RelV (.ref a) (Value.ref a) from rfl) ri rv ⟨a, vs, j, m, rfl, rfl, e2, by rw [hx.length]; exact em, ?_⟩
              exact q _ (Gr.set ea e2 rfl _) (R.set ea e2 rfl (RelO.newLst R ea e2 rfl (hx.set rd m)))
            · cases e
          | _ => cases e
        · rename_i kvs ho
          obtain ⟨l, e2, hx⟩ := R.ob n _ a ho ea
          split at e
          · rename_i key ek
            split at e
            · rename_i hz
              cases e
              refine d_setItem (deep1 hu) I (.inl ⟨l, key.key, e2, key_at ek rwi, by rw [relKK_len hx]; exact hz, rfl⟩) ri rv fun s' I' => ⟨_, I', ?_⟩
              have gs := Gr.set ea e2 rfl (HO.dK (L2.putK l key.key v))
              exact q _ gs (R.set ea e2 rfl (o := .dK (putK kvs key d)) ⟨_, upd_same, (putK_rel rd hx).gr R gs⟩)
            · cases e
          · cases e
        · rename_i kvs ho
          obtain ⟨l, e2, hx⟩ := R.ob n _ a ho ea
          cases k with
          | tup ks =>
            simp only at e
            split at e
            · rename_i key ek
              split at e
              · rename_i hz
                cases e
                obtain ⟨b, vs, rfl, hb, hks⟩ := rwi
                rw [keys_at ek hks] at hb
                refine d_setItem (deep1 hu) I (.inr ⟨l, key.map DK.key, b, e2, rfl, hb, by rw [relKT_len hx]; exact hz, rfl⟩) ri rv fun s' I' => ⟨_, I', ?_⟩
                have gs := Gr.set ea e2 rfl (HO.dT (L2.putK l (key.map DK.key) v))
                exact q _ gs (R.set ea e2 rfl (o := .dT (putK kvs key d)) ⟨_, upd_same, (putT_rel rd hx).gr R gs⟩)
              · cases e
            · cases e
          | _ => cases e
        · cases e
    | _ => cases e
def sSub (fo fi fe : FV) : FSt := fun σ h => (vSet fe σ h).bind fun w h => (fo σ h).bind fun o h => (fi σ h).bind fun i h => match w with
  | .v d => match setIx o i d h with
    | some h' => .ok (.nx σ) h'
    | none => .no
  | .l _ => .no
def notSl : Expr → Bool
  | .Slice _ _ _ _ => false
  | _ => true
theorem plainIx_of {e : Expr} (h : notSl e = true) : PlainIx e := by
  cases e <;> first | exact fun _ _ => rfl | (cases h)
theorem assign_sub (o : Expr) {i : Expr} (hi : notSl i = true) (pos : Pos) (env : Env) (v : Value) : assign (.Subscript o i pos) env v = (do
      let ov ← holding [v] (eval o env)
      let iv ← holding [v, ov] (eval i env)
      standAt pos
      holding [v, ov, iv] (setItem ov iv v)
      release [v, ov, iv] []) := by
  cases i <;> first | rfl | (cases hi)
theorem s_sub (hu : Deep X) {fo fi fe : FV} {o i e : Expr} {pos pos' : Pos} (ho : EOk X fo o) (hi : EOk X fi i) (he : EOk X fe e) (hsl : notSl i = true) (hs : swapsWithSole [.Subscript o i pos'] e pos.line X.env = pure false) :
    PS X (.Assign [.Subscript o i pos'] e pos) (TSd X.K (sSub fo fi fe)) := by
  refine PS.weak (ps_asg (e_set he).pe (pg_sub ho.pe hi.pe (setW hu) (assign_sub _ hsl _ _)) hs (by rfl) (by rfl)) fun D σ H q => ?_
  obtain ⟨α, σd, hd, R, S, q⟩ := q
  have q : PoS X.K α H ((vSet fe σd hd).bind fun w h => (fo σd h).bind fun o h => (fi σd h).bind fun i h => match w with
    | .v d => match setIx o i d h with
      | some h' => .ok (.nx σd) h'
      | none => .no
    | .l _ => .no) D := q
  refine TV.seq R S q.ok fun w hd1 α1 H1 v1 e1 g1 R1 S1 r1 n1 => ?_
  rw [e1] at q
  have q := q.from g1 R1
  refine TV.seq R1 S1 q.ok fun o hd2 α2 H2 v2 e2 g2 R2 S2 r2 n2 => ?_
  rw [e2] at q
  have q := q.from g2 R2
  refine TV.seq R2 S2 q.ok fun i hd3 α3 H3 v3 e3 g3 R3 S3 r3 n3 => ?_
  rw [e3] at q
  have q := q.from g3 R3
  cases w with
  | l xs => exact q.elim
  | v d =>
    simp only at q
    split at q
    · rename_i hd4 e4
      exact ⟨α3, hd3, o, i, d, hd4, R3, r2.gr R2 g3, r3, RelD.gr R2 g3 (RelD.gr R1 g2 r1), e4, fun H' g' R' => q α3 H' σ g' R' (S3.gr R3 g')⟩
    · exact q.elim
theorem getW (hu : Deep X) : PGet X (rB X.K getIx) := by
  intro pins s σ H x y v u Q I rx ry h
  obtain ⟨α, hd, wx, wy, R, rwx, rwy, h⟩ := h
  obtain ⟨w, e, h⟩ := ofO_W h
  have n63 := line63
  rcases getIx_cases R rwx rwy e with ⟨t, i, c, rfl, rfl, hz, e2, rfl⟩ | ⟨a, vs, i, z, d, rfl, rfl, hq, e2, rfl, r⟩ | ⟨a, z, d, rfl, g, rfl, r⟩
  · obtain ⟨t1, rfl⟩ := rx
    obtain ⟨t2, rfl⟩ := ry
    obtain ⟨j, h1, h2, h3, h4, h5⟩ := atI_get e2
    refine getItem_str (c := c) (by
      have e3 : decide (i < -(2 ^ 63 : Int)) = false := decide_eq_false (by omega)
      have e4 : decide (i ≥ 2 ^ 63) = false := decide_eq_false (by omega)
      rw [e3, e4, Bool.or_false]) (by rw [mkS_len, h1]; simpa using h2) ⟨.str ⟨#[c]⟩, H, I.tok _, ⟨_, rfl⟩, h.old (d := .str [c]) R rfl⟩
  · cases rx
    obtain ⟨t, rfl⟩ := ry
    obtain ⟨j, h1, h2, h3, h4, h5⟩ := atI_get e2
    have q := h.old R r
    rcases hq with hq | hq
    · obtain ⟨its, rr, pl, hz⟩ := I.list hq
      obtain ⟨w', ew, rw'⟩ := rr.get h2
      have hl := rr.length
      have fin : EP X pins σ Q w' s := ⟨z, H, I, rw', q⟩
      by_cases h0 : 0 ≤ i
      · have hj : i.toNat = j := by
          rw [seqIndex_of h0 h5] at h1
          exact Option.some.inj h1
        exact wpAny_getItem_list pl.isList h0 (by omega) (by rw [hj]; simpa using ew) fin
      · have hj : (i + (its.toArray.size : Int)).toNat = j := by
          rw [seqIndex_neg (by omega) h4] at h1
          rw [List.size_toArray, ← hl]
          exact Option.some.inj h1
        exact wpAny_getItem_list_neg pl.isList (by omega) (by rw [List.size_toArray] <;> omega) (by omega) (by rw [hj]; simpa using ew) fin
    · obtain ⟨its, rr, pl, hz⟩ := I.tuple hq
      obtain ⟨w', ew, rw'⟩ := rr.get h2
      have hl := rr.length
      exact getItem_tuple (j := j) pl (by omega) (by omega) (by rw [List.size_toArray, ← hl]; exact h1) (by simpa using ew) ⟨z, H, I, rw', q⟩
  · cases rx
    exact d_getItem (deep1 hu) I g ry fun w' s' I' r' => ⟨z, H, I', r', h.old R r⟩
def sAugS (fo fi : FV) (op : Operator) (fe : FV) : FSt := fun σ h => (fo σ h).bind fun o h => (fi σ h).bind fun i h => (R.ofO (getIx o i h) h).bind fun x h => (fe σ h).bind fun y h => (augW op x y h).bind fun w h => match w with
  | .v d => match setIx o i d h with
    | some h' => .ok (.nx σ) h'
    | none => .no
  | .l _ => .no
theorem s_augS (hu : Deep X) {op : Operator} {fo fi fe : FV} {o i e : Expr} {pos pos' : Pos} (ho : EOk X fo o) (hi : EOk X fi i) (he : EOk X fe e) (hsl : notSl i = true) :
    PS X (.AugAssign (.Subscript o i pos') op e pos) (TSd X.K (sAugS fo fi op fe)) := by
  refine PS.weak (ps_augS ho.pe hi.pe (getW hu) he.pe (ipW op) (setW hu) (by
    intro ov iv new
    cases i <;> first | rfl | (cases hsl))) fun D σ H q => ?_
  obtain ⟨α, σd, hd, R, S, q⟩ := q
  have q : PoS X.K α H ((fo σd hd).bind fun o h => (fi σd h).bind fun i h => (DL.R.ofO (getIx o i h) h).bind fun x h => (fe σd h).bind fun y h => (augW op x y h).bind fun w h => match w with
    | .v d => match setIx o i d h with
      | some h' => .ok (.nx σd) h'
      | none => .no
    | .l _ => .no) D := q
  refine TV.seq R S q.ok fun o hd1 α1 H1 v1 e1 g1 R1 S1 r1 n1 => ?_
  rw [e1] at q
  have q := q.from g1 R1
  refine TV.seq R1 S1 q.ok fun i hd2 α2 H2 v2 e2 g2 R2 S2 r2 n2 => ?_
  rw [e2] at q
  have q := q.from g2 R2
  cases e3 : getIx o i hd2 with
  | none => rw [e3] at q; exact q.elim
  | some x =>
    rw [e3] at q
    have q : PoS X.K α2 H2 ((fe σd hd2).bind fun y h => (augW op x y h).bind fun w h => match w with
      | .v d => match setIx o i d h with
        | some h' => .ok (.nx σd) h'
        | none => .no
      | .l _ => .no) D := q
    refine ⟨α2, hd2, o, i, R2, r1.gr R1 g2, r2, ?_⟩
    rw [e3]
    intro α3 H3 v3 g3 R3 r3 n3
    have q := q.from g3 R3
    have S3 := S2.gr R2 g3
    refine TV.seq R3 S3 q.ok fun y hd4 α4 H4 v4 e4 g4 R4 S4 r4 n4 => ?_
    rw [e4] at q
    have q := q.from g4 R4
    refine ⟨α4, hd4, x, y, R4, r3.gr R3 g4, r4, ?_⟩
    cases e5 : augW op x y hd4 with
    | ex => rw [e5] at q; exact q.elim
    | no => rw [e5] at q; exact q.elim
    | ok w hd5 =>
      rw [e5] at q
      intro α5 H5 v5 g5 R5 r5 n5
      have q := q.from g5 R5
      cases w with
      | l xs => exact q.elim
      | v d =>
        simp only [DL.R.bind_ok] at q
        cases e6 : setIx o i d hd5 with
        | none => rw [e6] at q; exact q.elim
        | some hd6 =>
          rw [e6] at q
          exact ⟨α5, hd5, o, i, d, hd6, R5, (((r1.gr R1 g2).gr R2 g3).gr R3 g4).gr R4 g5, ((r2.gr R2 g3).gr R3 g4).gr R4 g5, r5, e6, fun H6 g6 R6 => q α5 H6 σ g6 R6 ((S4.gr R4 g5).gr R5 g6)⟩
end DL
namespace DL
open PySem PySem.Spec PyProof.Rows L2

variable {K : PySem.W.Frag}
variable {α α' α'' α1 α0 : List Addr} {H H' H'' H1 H0 : Hp} {hd hd' hd1 : Hd} {a p : Addr}
variable {X : Cx}
def whileF (c : FB) (b : FSt) : Nat → FSt
  | 0, _, _ => .no
  | m + 1, σ, h => (c σ h).bind fun t h => if t = true then (b σ h).bind fun r h => match r with
    | .nx σ' => whileF c b m σ' h
    | .ct σ' => whileF c b m σ' h
    | .bk σ' => .ok (.nx σ') h
    | .rt w => .ok (.rt w) h else .ok (.nx σ) h
def sWhile (c : FB) (b : FSt) : FSt := whileF c b FU
theorem s_while {c : FB} {b : FSt} {e : Expr} {sts : List Stmt} {pos : Pos} (hp : PassesOwn (model X.prog X.w) X.A X.env X.xe) (hc : PT X e (TB X.K c)) (hb : PSs X sts (TSd X.K b)) : PS X (.While e sts [] pos) (TSd X.K (sWhile c b)) := by
  refine PS.weak (ps_while hp hc hb) fun D σ H q => ?_
  obtain ⟨α, σd, hd, R, S, q⟩ := q
  have q : PoS X.K α H (whileF c b FU σd hd) D := q
  refine ⟨fun m σ2 H2 => ∃ α2 σd2 hd2, Gr α H α2 H2 ∧ Rl X.K α2 hd2 H2 ∧ RelS X.K α2 H2 σd2 σ2 ∧ PoS X.K α2 H2 (whileF c b m σd2 hd2) D, ⟨FU, α, σd, hd, Gr.refl _ _, R, S, q⟩, ?_⟩
  rintro m σ2 H2 ⟨α2, σd2, hd2, g2, R2, S2, q⟩
  cases m with
  | zero => exact q.elim
  | succ m =>
    have q : PoS X.K α2 H2 ((c σd2 hd2).bind fun t h => if t = true then (b σd2 h).bind fun r h => match r with
      | .nx σ' => whileF c b m σ' h
      | .ct σ' => whileF c b m σ' h
      | .bk σ' => .ok (.nx σ') h
      | .rt w => .ok (.rt w) h else .ok (.nx σd2) h) D := q
    refine TB.seq R2 S2 q.ok fun t hd3 α3 H3 e g3 R3 S3 => ?_
    rw [e] at q
    have q := q.from g3 R3
    cases t with
    | false => exact q α3 H3 σ2 (Gr.refl _ _) R3 S3
    | true =>
      rw [if_pos rfl] at q ⊢
      refine ⟨fun σ4 H4 => ∃ α4 σd4 hd4, Gr α H α4 H4 ∧ Rl X.K α4 hd4 H4 ∧ RelS X.K α4 H4 σd4 σ4 ∧ PoS X.K α4 H4 (whileF c b m σd4 hd4) D, fun σ' H' z => ⟨m, Nat.lt_succ_self _, z⟩, α3, σd2, hd3, R3, S3, ?_⟩
      cases e4 : b σd2 hd3 with
      | ok r hd4 =>
        rw [e4] at q
        cases r with
        | nx σ5 => exact fun α5 H5 σ5' g5 R5 S5 => ⟨α5, σ5, hd4, (g2.trans g3).trans g5, R5, S5, q.from g5 R5⟩
        | ct σ5 => exact fun α5 H5 σ5' g5 R5 S5 => ⟨α5, σ5, hd4, (g2.trans g3).trans g5, R5, S5, q.from g5 R5⟩
        | bk σ5 => exact q
        | rt w => exact q
      | ex => rw [e4] at q; exact q.elim
      | no => rw [e4] at q; exact q.elim

abbrev FT := D → FSt
def forFx (b : FT) : List D → FSt
  | [], σ, h => .ok (.nx σ) h
  | d :: ds, σ, h => (b d σ h).bind fun r h => match r with
    | .nx σ' => forFx b ds σ' h
    | .ct σ' => forFx b ds σ' h
    | .bk σ' => .ok (.nx σ') h
    | .rt w => .ok (.rt w) h
def forRe (g : Nat → Hd → Option (Option D)) (b : FT) : Nat → Nat → FSt
  | 0, _, _, _ => .no
  | m + 1, i, σ, h => match g i h with
    | none => .no
    | some none => .ok (.nx σ) h
    | some (some d) => (b d σ h).bind fun r h => match r with
      | .nx σ' => forRe g b m (i + 1) σ' h
      | .ct σ' => forRe g b m (i + 1) σ' h
      | .bk σ' => .ok (.nx σ') h
      | .rt w => .ok (.rt w) h
def forS (s : Src) (b : FT) : FSt := match s with
  | .fx xs => forFx b xs
  | .re g => forRe g b FU 0
theorem forFx_re (b : FT) (xs : List D) : ∀ (i : Nat) (σ : Sd) (h : Hd), i ≤ xs.length → forRe (fun i _ => some xs[i]?) b (xs.length - i + 1) i σ h = forFx b (xs.drop i) σ h := by
  intro i
  generalize hn : xs.length - i = n
  induction n generalizing i with
  | zero =>
    intro σ h hi
    have e : xs[i]? = none := List.getElem?_eq_none (by omega)
    have e2 : xs.drop i = [] := List.drop_eq_nil_of_le (by omega)
    rw [e2]
    simp only [forRe, e]
    rfl
  | succ n ih =>
    intro σ h hi
    have hl : i < xs.length := by omega
    have e : xs[i]? = some xs[i] := List.getElem?_eq_getElem hl
    rw [List.drop_eq_getElem_cons hl]
    have e3 : forRe (fun i _ => some xs[i]?) b (n + 1 + 1) i σ h = (b xs[i] σ h).bind fun r h => match r with
      | .nx σ' => forRe (fun i _ => some xs[i]?) b (n + 1) (i + 1) σ' h
      | .ct σ' => forRe (fun i _ => some xs[i]?) b (n + 1) (i + 1) σ' h
      | .bk σ' => .ok (.nx σ') h
      | .rt w => .ok (.rt w) h := by
      rw [forRe]
      simp only [e]
    rw [e3]
    show _ = (b xs[i] σ h).bind fun r h => match r with
      | .nx σ' => forFx b (xs.drop (i + 1)) σ' h
      | .ct σ' => forFx b (xs.drop (i + 1)) σ' h
      | .bk σ' => .ok (.nx σ') h
      | .rt w => .ok (.rt w) h
    congr 1
    funext r h
    cases r with
    | nx σ' => exact ih (i + 1) (by omega) σ' h (by omega)
    | ct σ' => exact ih (i + 1) (by omega) σ' h (by omega)
    | bk σ' => rfl
    | rt w => rfl
theorem forS_re (s : Src) (b : FT) (σ : Sd) (h : Hd) : ∃ m, forS s b σ h = forRe s.get b m 0 σ h := by
  cases s with
  | fx xs => exact ⟨xs.length - 0 + 1, by rw [show (Src.fx xs).get = fun i _ => some xs[i]? from rfl, forFx_re b xs 0 σ h (Nat.zero_le _)]; rfl⟩
  | re g => exact ⟨FU, rfl⟩
def turnS (tg : Tg) (b : FSt) : FT := fun d σ h => match tg.put d σ with
  | none => .no
  | some σ' => b σ' h
def sFor (s : FS) (tg : Tg) (b : FSt) : FSt := fun σ h => (s σ h).bind fun s h => forS s (turnS tg b) σ h
theorem s_for {s : FS} {tg : Tg} {b : FSt} {te iter : Expr} {sts : List Stmt} {pos : Pos} (hp : PassesOwn (model X.prog X.w) X.A X.env X.xe) (hc : X.calm = true) (hi : IOk X te s iter) (hg : PG X te (gT X.K tg)) (hb : PSs X sts (TSd X.K b)) :
    PS X (.For te iter sts [] pos) (TSd X.K (sFor s tg b)) := by
  refine PS.weak (ps_for hp hc hi.pi hg hb hi.fold) fun D σ H q => ?_
  obtain ⟨α, σd, hd, R, S, q⟩ := q
  have q : PoS X.K α H ((s σd hd).bind fun s h => forS s (turnS tg b) σd h) D := q
  obtain ⟨w0, h0, e0⟩ := q.ok
  obtain ⟨src, hd1, es, e1⟩ := bind_ok_of e0
  rw [es] at q
  refine ⟨α, σd, hd, R, S, ?_⟩
  rw [es]
  intro α1 H1 J g1 R1 ok
  have q : PoS X.K α1 H1 (forS src (turnS tg b) σd hd1) D := q.from g1 R1
  obtain ⟨m0, em⟩ := forS_re src (turnS tg b) σd hd1
  rw [em] at q
  have S1 := S.gr R g1
  refine ⟨fun i m σ2 H2 => ∃ α2 σd2 hd2, Gr α1 H1 α2 H2 ∧ Rl X.K α2 hd2 H2 ∧ RelS X.K α2 H2 σd2 σ2 ∧ PoS X.K α2 H2 (forRe src.get (turnS tg b) m i σd2 hd2) D,
    ⟨m0, α1, σd, hd1, Gr.refl _ _, R1, S1, q⟩, ?_⟩
  rintro i m σ2 H2 ⟨α2, σd2, hd2, g2, R2, S2, q⟩
  cases m with
  | zero => exact q.elim
  | succ m =>
    simp only [forRe] at q
    obtain ⟨stop, go⟩ := ok i α2 hd2 H2 g2 R2
    cases eg : src.get i hd2 with
    | none => rw [eg] at q; exact q.elim
    | some o =>
      cases o with
      | none =>
        rw [eg] at q
        exact .inl ⟨stop eg, q α2 H2 σ2 (Gr.refl _ _) R2 S2⟩
      | some d =>
        rw [eg] at q
        obtain ⟨go1, go2⟩ := go d eg
        refine .inr ⟨go1, fun σ4 H4 => ∃ α4 σd4 hd4, Gr α1 H1 α4 H4 ∧ Rl X.K α4 hd4 H4 ∧ RelS X.K α4 H4 σd4 σ4 ∧ PoS X.K α4 H4 (forRe src.get (turnS tg b) m (i + 1) σd4 hd4) D, fun σ' H' z => ⟨m, Nat.lt_succ_self _, z⟩, fun x H3 y => ?_⟩
        obtain ⟨g3, R3, rd⟩ := go2 x H3 y
        have S3 := S2.gr R2 g3
        have q := q.from g3 R3
        simp only [turnS] at q
        cases ep : tg.put d σd2 with
        | none => rw [ep] at q; exact q.elim
        | some σd3 =>
          rw [ep] at q
          refine ⟨α2, σd2, hd2, d, σd3, R3, S3, rd, ep, fun σ3 S3' _ => ⟨α2, σd3, hd2, R3, S3', ?_⟩⟩
          cases e4 : b σd3 hd2 with
          | ok r hd4 =>
            simp only [e4] at q
            cases r with
            | nx σ5 => exact fun α5 H5 σ5' g5 R5 S5 => ⟨α5, σ5, hd4, (g2.trans g3).trans g5, R5, S5, q.from g5 R5⟩
            | ct σ5 => exact fun α5 H5 σ5' g5 R5 S5 => ⟨α5, σ5, hd4, (g2.trans g3).trans g5, R5, S5, q.from g5 R5⟩
            | bk σ5 => exact q
            | rt w => exact q
          | ex => simp only [e4] at q; exact q.elim
          | no => simp only [e4] at q; exact q.elim

def lockD (w : W) (h : Hd) : Option (Nat × Hd) := match w with
  | .v (.obj n) => match h[n]? with
    | some (.dK kvs) => some (n, h.set n (.lkK kvs))
    | some (.dT kvs) => some (n, h.set n (.lkT kvs))
    | _ => none
  | _ => none
def freeD (n : Nat) (h : Hd) : Option Hd := match h[n]? with
  | some (.lkK kvs) => some (h.set n (.dK kvs))
  | some (.lkT kvs) => some (h.set n (.dT kvs))
  | _ => none
def lockS (i : Nat) (f : FSt) : FSt := fun σ h => match σ[i]? with
  | some (some d) => match lockD (.v d) h with
    | some (n, h1) => (f σ h1).bind fun r h => match freeD n h with
      | some h => .ok r h
      | none => .no
    | none => .no
  | _ => .no
def lockV (i : Nat) (f : FV) : FV := fun σ h => match σ[i]? with
  | some (some d) => match lockD (.v d) h with
    | some (n, h1) => (f σ h1).bind fun r h => match freeD n h with
      | some h => .ok r h
      | none => .no
    | none => .no
  | _ => .no
section
variable {od : Obj} {u : HO}
theorem un_tup (ha : H a = some (.frz od u)) : ∀ b us, H b = some (.tup us) → L2.upd H a u b = some (.tup us) := fun b us eb => by
  rw [upd_ne fun z => by subst z; rw [ha] at eb; cases eb]
  exact eb
theorem un_ro (ha : H a = some (.frz od u)) (nu : ∀ vs, u ≠ .lst vs) : ∀ b us, IsRo K H b us → IsRo K (L2.upd H a u) b us := fun b us eb => by
  rcases eb with ⟨o, eb⟩ | eb
  · refine .inl ⟨o, ?_⟩
    rw [upd_ne fun z => by
      subst z
      rw [ha] at eb
      cases eb
      exact nu us rfl]
    exact eb
  · exact .inr eb
theorem un_rl {n : Nat} {h : Hd} {o' : O} (R : Rl K α h H) (ea : α[n]? = some a) (ha : H a = some (.frz od u)) (nu : ∀ vs, u ≠ .lst vs) (ro : RelO K α (L2.upd H a u) a o') : Rl K α (h.set n o') (L2.upd H a u) := by
  refine ⟨by rw [List.length_set]; exact R.len, R.nd, fun m w b h1 h2 => ?_⟩
  by_cases hm : m = n
  · subst hm
    rw [ea] at h2; cases h2
    have hl : m < h.length := by rw [← R.len]; exact (List.getElem?_eq_some_iff.mp ea).1
    rw [List.getElem?_set_self hl] at h1
    cases h1
    exact ro
  · rw [List.getElem?_set_ne (Ne.symm hm)] at h1
    refine (R.ob m w b h1 h2).mono (fun _ _ e => e) (un_tup ha) (un_ro ha nu) (upd_ne fun z => ?_)
    subst z
    obtain ⟨l1, e1⟩ := List.getElem?_eq_some_iff.mp h2
    obtain ⟨l2, e2⟩ := List.getElem?_eq_some_iff.mp ea
    exact hm ((List.getElem_inj R.nd).mp (e1.trans e2.symm))
end
theorem free_at {n : Nat} {h h' : Hd} {od : Obj} {u : HO} (R : Rl K α h H) (ea : α[n]? = some a) (ha : H a = some (.frz od u)) (e : freeD n h = some h') : (∀ vs, u ≠ .lst vs) ∧ Rl K α h' (L2.upd H a u) := by
  unfold freeD at e
  split at e
  · rename_i kvs ho
    cases e
    obtain ⟨od', l, h0, rk⟩ := R.ob n _ a ho ea
    rw [ha] at h0
    cases h0
    have nu : ∀ vs, HO.dK l ≠ .lst vs := fun vs z => nomatch z
    exact ⟨nu, un_rl R ea ha nu ⟨l, upd_same, RelKK.mono (fun _ _ e => e) (un_tup ha) (un_ro ha nu) _ _ rk⟩⟩
  · rename_i kvs ho
    cases e
    obtain ⟨od', l, h0, rk⟩ := R.ob n _ a ho ea
    rw [ha] at h0
    cases h0
    have nu : ∀ vs, HO.dT l ≠ .lst vs := fun vs z => nomatch z
    exact ⟨nu, un_rl R ea ha nu ⟨l, upd_same, RelKT.mono (fun _ _ e => e) (un_tup ha) (un_ro ha nu) _ _ rk⟩⟩
  · cases e
theorem lock_at {w : W} {v : V} {n : Nat} {h1 : Hd} (R : Rl K α hd H) (r : RelW K α H w v) (e : lockD w hd = some (n, h1)) :
    ∃ a u, α[n]? = some a ∧ H a = some u ∧ Mut (some u) ∧ noFz u = true ∧ ∀ od, Rl K α h1 (L2.upd H a (.frz od u)) := by
  cases w with
  | l xs => cases e
  | v d =>
    cases d with
    | obj m =>
      obtain ⟨a, ea, _⟩ := r
      simp only [lockD] at e
      split at e
      · rename_i kvs ho
        cases e
        obtain ⟨l, h0, rk⟩ := R.ob _ _ a ho ea
        exact ⟨a, _, ea, h0, trivial, rfl, fun od => R.set ea h0 rfl (o := .lkK kvs) ⟨od, l, upd_same, rk.gr R (Gr.set ea h0 rfl _)⟩⟩
      · rename_i kvs ho
        cases e
        obtain ⟨l, h0, rk⟩ := R.ob _ _ a ho ea
        exact ⟨a, _, ea, h0, trivial, rfl, fun od => R.set ea h0 rfl (o := .lkT kvs) ⟨od, l, upd_same, rk.gr R (Gr.set ea h0 rfl _)⟩⟩
      · cases e
    | _ => cases e
theorem gr_unlock {n : Nat} {od : Obj} {u : HO} (ea : α[n]? = some a) (h0 : H a = some u) (hf : noFz u = true) (g : Gr α (L2.upd H a (.frz od u)) α' H') : Gr α H α' (L2.upd H' a u) := by
  have am : a ∈ α := List.mem_of_getElem? ea
  obtain ⟨β, rfl, hβ⟩ := g.pre
  refine ⟨⟨β, rfl, fun b hb => ?_⟩, fun b o hb hn => ?_, fun b o w hb => ?_⟩
  · obtain ⟨h1, h2⟩ := hβ b hb
    rw [upd_ne fun z => by subst z; exact h2 am] at h1
    exact ⟨h1, h2⟩
  · have nb : b ≠ a := fun z => by subst z; exact hn am
    rw [upd_ne nb]
    exact g.fr b o (by rw [upd_ne nb]; exact hb) hn
  · have nb : b ≠ a := fun z => by
      subst z
      rw [h0] at hb
      cases hb
      cases hf
    rw [upd_ne nb]
    exact g.fz b o w (by rw [upd_ne nb]; exact hb)
theorem RelS.un {od : Obj} {u : HO} {σd : Sd} {σ : L2.St} (S : RelS K α H σd σ) (ha : H a = some (.frz od u)) (nu : ∀ vs, u ≠ .lst vs) : RelS K α (L2.upd H a u) σd σ :=
  ⟨S.len, fun i d e => let ⟨v, h1, h2⟩ := S.ix i d e; ⟨v, h1, RelD.mono (fun _ _ e => e) (un_tup ha) (un_ro ha nu) d v h2⟩⟩
theorem RelW.un {od : Obj} {u : HO} {w : W} {v : V} (r : RelW K α H w v) (ha : H a = some (.frz od u)) (nu : ∀ vs, u ≠ .lst vs) : RelW K α (L2.upd H a u) w v := by
  cases w with
  | v d => exact RelD.mono (fun _ _ e => e) (un_tup ha) (un_ro ha nu) d v r
  | l xs =>
    obtain ⟨b, vs, e, hb, hn, hx⟩ := r
    exact ⟨b, vs, e, by rw [upd_ne fun z => by subst z; rw [ha] at hb; cases hb]; exact hb, hn, RelDs.mono (fun _ _ e => e) (un_tup ha) (un_ro ha nu) _ _ hx⟩
theorem s_lock {i : Nat} {f : FSt} {st : Stmt} (h : PS X st (TSd X.K f)) : PS X st (TSd X.K (lockS i f)) := by
  refine PS.weak (ps_lock h) fun D σ H q => ?_
  obtain ⟨α, σd, hd, R, S, q⟩ := q
  simp only [lockS] at q
  split at q
  · rename_i d ed
    obtain ⟨v, ev, rv⟩ := S.ix i d ed
    split at q
    · rename_i n h1 el
      obtain ⟨a, u, ea, h0, mu, nf, Rk⟩ := lock_at R (w := .v d) rv el
      refine ⟨a, u, h0, mu, fun od => ⟨α, σd, h1, Rk od, S.gr R (Gr.set ea h0 nf _), ?_⟩⟩
      have lk : L2.upd H a (.frz od u) a = some (.frz od u) := upd_same
      cases ef : f σd h1 with
      | ok r hd2 =>
        rw [ef] at q
        simp only [DL.R.bind_ok] at q
        cases e3 : freeD n hd2 with
        | none => rw [e3] at q; exact q.elim
        | some hd3 =>
          rw [e3] at q
          cases r with
          | nx σ2 =>
            intro α' H' σ' g' R' S'
            have ha := g'.fz a od u lk
            obtain ⟨nu, R3⟩ := free_at R' (g'.get ea) ha e3
            exact ⟨ha, q α' _ σ' (gr_unlock ea h0 nf g') R3 (S'.un ha nu)⟩
          | bk σ2 =>
            intro α' H' σ' g' R' S'
            have ha := g'.fz a od u lk
            obtain ⟨nu, R3⟩ := free_at R' (g'.get ea) ha e3
            exact ⟨ha, q α' _ σ' (gr_unlock ea h0 nf g') R3 (S'.un ha nu)⟩
          | ct σ2 =>
            intro α' H' σ' g' R' S'
            have ha := g'.fz a od u lk
            obtain ⟨nu, R3⟩ := free_at R' (g'.get ea) ha e3
            exact ⟨ha, q α' _ σ' (gr_unlock ea h0 nf g') R3 (S'.un ha nu)⟩
          | rt w =>
            intro α' H' v' g' R' r' n'
            have ha := g'.fz a od u lk
            obtain ⟨nu, R3⟩ := free_at R' (g'.get ea) ha e3
            refine ⟨ha, q α' _ v' (gr_unlock ea h0 nf g') R3 (r'.un ha nu) ?_⟩
            cases w with
            | v _ => trivial
            | l xs =>
              intro b eb
              have hb := n' b eb
              cases e5 : H b with
              | none => rfl
              | some o =>
                by_cases z : b = a
                · subst z; rw [lk] at hb; cases hb
                · rw [upd_ne z, e5] at hb; cases hb
      | ex => rw [ef] at q; exact q.elim
      | no => rw [ef] at q; exact q.elim
    · exact q.elim
  · exact q.elim
theorem e_lock {i : Nat} {f : FV} {e : Expr} (h : EOk X f e) : EOk X (lockV i f) e := by
  refine ⟨TV.mono_iff (pe_lock h.pe) fun σ H Q q => ?_, h.pl⟩
  obtain ⟨α, σd, hd, R, S, q⟩ := q
  simp only [lockV] at q
  split at q
  · rename_i d ed
    obtain ⟨v, ev, rv⟩ := S.ix i d ed
    split at q
    · rename_i n h1 el
      obtain ⟨a, u, ea, h0, mu, nf, Rk⟩ := lock_at R (w := .v d) rv el
      refine ⟨a, u, h0, mu, fun od => ⟨α, σd, h1, Rk od, S.gr R (Gr.set ea h0 nf _), ?_⟩⟩
      have lk : L2.upd H a (.frz od u) a = some (.frz od u) := upd_same
      cases ef : f σd h1 with
      | ok w hd2 =>
        rw [ef] at q
        simp only [DL.R.bind_ok] at q
        cases e3 : freeD n hd2 with
        | none => rw [e3] at q; exact q.elim
        | some hd3 =>
          rw [e3] at q
          intro α' H' v' g' R' r' n'
          have ha := g'.fz a od u lk
          obtain ⟨nu, R3⟩ := free_at R' (g'.get ea) ha e3
          refine ⟨ha, q α' _ v' (gr_unlock ea h0 nf g') R3 (r'.un ha nu) ?_⟩
          cases w with
          | v _ => trivial
          | l xs =>
            intro b eb
            have hb := n' b eb
            cases e5 : H b with
            | none => rfl
            | some o =>
              by_cases z : b = a
              · subst z; rw [lk] at hb; cases hb
              · rw [upd_ne z, e5] at hb; cases hb
      | ex => rw [ef] at q; exact q.elim
      | no => rw [ef] at q; exact q.elim
    · exact q.elim
  · exact q.elim
end DL
namespace DL
open PySem PySem.Spec PyProof.Rows L2

inductive Ex where
  | var (i : Nat) | non | bl (b : Bool) | int (i : Int) | str (s : List Nat) | glb (g : Nat)
  | tup (es : List Ex) | lst (es : List Ex) | dk | dt
  | bin (op : Operator) (a b : Ex) | neg (a : Ex) | cmp (op : CmpOp) (a b : Ex)
  | and_ (es : List Ex) | or_ (es : List Ex) | not_ (a : Ex) | ite (c a b : Ex)
  | ix (a i : Ex) | sl (a : Ex) (lo hi : Option Ex) | rev (a : Ex)
  | b1 (b : B1) (a : Ex) | b2 (b : B2) (a c : Ex) | isi (t : Ty) (a : Ex)
  | call (f : Nat) (es : List Ex)
  | m0 (m : M0) (o : Ex) | m1 (m : M1) (o a : Ex) | get2 (o a b : Ex)
  | lc (elt : Ex) (tg : Tg) (it : Ex) (c : Option Ex) (own : List Nat)
  | lock (i : Nat) (e : Ex)
  | rng1 (a : Ex) | rng2 (a b : Ex) | dw (m : DW) (a : Ex)
inductive Sm where
  | ex (e : Ex) | set (t : Tg) (e : Ex) | par (is : List Nat) (es : List Ex) | aug (i : Nat) (op : Operator) (e : Ex) | sub (o i e : Ex) | augS (o i : Ex) (op : Operator) (e : Ex)
  | ite (c : Ex) (a b : List Sm) | whl (c : Ex) (b : List Sm) | for_ (t : Tg) (it : Ex) (b : List Sm)
  | ret (e : Ex) | retN | pas | brk | cnt | lock (i : Nat) (s : Sm)
structure Fn where
  np : Nat
  N : List Str
  body : List Sm
structure Den where
  v : FV
  t : FB
  i : FS
def noV : FV := fun _ _ => .no
def noT : FB := fun _ _ => .no
def noS : FS := fun _ _ => .no
def ofV (f : FV) : Den := ⟨f, truthF f, sVal f⟩
def ofB (f : FB) : Den := ⟨blV f, f, sVal (blV f)⟩
def ofS (f : FS) : Den := ⟨noV, noT, f⟩
def vAnds : List Den → FV
  | [] => noV
  | [d] => d.v
  | d :: e :: ds => vAnd d.v (vAnds (e :: ds))
def vOrs : List Den → FV
  | [] => noV
  | [d] => d.v
  | d :: e :: ds => vOr d.v (vOrs (e :: ds))
def tAnds : List Den → FB
  | [] => noT
  | [d] => d.t
  | d :: e :: ds => bAnd d.t (tAnds (e :: ds))
def tOrs : List Den → FB
  | [] => noT
  | [d] => d.t
  | d :: e :: ds => bOr d.t (tOrs (e :: ds))
def mt1F (m : M1) (f g : FV) : FV := match m with
  | .append => v2m isL f (vSet g) (mt1 .append)
  | .extend => v2m isL f g (mt1 .extend)
  | .pop => v2m isL f g (mt1 .pop)
  | .get => v2m isDk f g (mt1 .get)
  | .join => v2m isS f g (mt1 .join)
  | .count => v2m isL (vSet f) g (mt1 .count)
  | .index => v2m isL (vSet f) g (mt1 .index)
abbrev Cls := Nat → List D → Hd → R W
section
variable (C : Cls) (G : List D)
mutual
def dn : Ex → Den
  | .var i => ofV (vVar i)
  | .non => ofV (vC .non)
  | .bl b => ofV (vC (.bl b))
  | .int i => ofV (vC (.int i))
  | .str s => ofV (vC (.str s))
  | .glb g => ofV (match G[g]? with
    | some d => vC d
    | none => noV)
  | .tup es => ofV (vTup ((dns es).map (·.v)))
  | .lst es => ofV (vLst ((dns es).map (·.v)))
  | .dk => ofV vDk
  | .dt => ofV vDt
  | .bin op a b => ofV (vBin op (dn a).v (dn b).v)
  | .neg a => ofV (vNeg (dn a).v)
  | .cmp op a b => ofB (bCmp op (dn a).v (dn b).v)
  | .and_ es => ⟨vAnds (dns es), tAnds (dns es), sVal (vAnds (dns es))⟩
  | .or_ es => ⟨vOrs (dns es), tOrs (dns es), sVal (vOrs (dns es))⟩
  | .not_ a => ⟨vNot (dn a).v, bNot (dn a).t, noS⟩
  | .ite c a b => ⟨vIf (dn c).t (dn a).v (dn b).v, noT, sVal (vIf (dn c).t (dn a).v (dn b).v)⟩
  | .ix a i => ofV (vIx (dn a).v (dn i).v)
  | .sl a lo hi => ofV (vSl (dn a).v (dno lo) (dno hi))
  | .rev a => ofV (vRev (dn a).v)
  | .b1 b a => ofV (vB1 (bl1 b) (dn a).v)
  | .b2 b a c => ofV (vB2 (bl2 b) (dn a).v (dn c).v)
  | .isi t a => ofV (blV (bIsi t (dn a).v))
  | .call f es => ofV (vCall (C f) [] ((dns es).map (·.v)))
  | .m0 m o => ofV (v1 (dn o).v (mt0 m))
  | .m1 m o a => ofV (mt1F m (dn o).v (dn a).v)
  | .get2 o a b => ofV (v3m isDk (dn o).v (vSet (dn a).v) (vSet (dn b).v) mtGet2)
  | .lc elt tg it c own => ofV (vLc (dn it).i tg (dnc c) (dn elt).v own)
  | .lock i e => ofV (lockV i (dn e).v)
  | .rng1 a => ofS (sRng1 (dn a).v)
  | .rng2 a b => ofS (sRng2 (dn a).v (dn b).v)
  | .dw m a => ofS (sDict m (dn a).v)
def dns : List Ex → List Den
  | [] => []
  | e :: es => dn e :: dns es
def dno : Option Ex → Option FV
  | none => none
  | some e => some (dn e).v
def dnc : Option Ex → FB
  | none => fun _ h => .ok true h
  | some e => (dn e).t
end
mutual
def sdn : Sm → FSt
  | .ex e => sExpr (dn C G e).v
  | .set t e => sPut t (dn C G e).v
  | .par is es => sPar is ((dns C G es).map (·.v))
  | .aug i op e => sAug i op (dn C G e).v
  | .sub o i e => sSub (dn C G o).v (dn C G i).v (dn C G e).v
  | .augS o i op e => sAugS (dn C G o).v (dn C G i).v op (dn C G e).v
  | .ite c a b => sIf (dn C G c).t (sdns a) (sdns b)
  | .whl c b => sWhile (dn C G c).t (sdns b)
  | .for_ t it b => sFor (dn C G it).i t (sdns b)
  | .ret e => sRet (dn C G e).v
  | .retN => sRetN
  | .pas => sNil
  | .brk => sBrk
  | .cnt => sCnt
  | .lock i s => lockS i (sdn s)
def sdns : List Sm → FSt
  | [] => sNil
  | s :: ss => sCons (sdn s) (sdns ss)
end
end
mutual
def D.low (n : Nat) : D → Bool
  | .tup xs => D.lows n xs
  | .ro xs => D.lows n xs
  | .obj m => decide (m < n)
  | _ => true
def D.lows (n : Nat) : List D → Bool
  | [] => true
  | d :: ds => d.low n && D.lows n ds
end
def O.low (n : Nat) : O → Bool
  | .lst xs => D.lows n xs
  | .dK l => l.all fun p => p.2.low n
  | .dT l => l.all fun p => p.2.low n
  | .lkK l => l.all fun p => p.2.low n
  | .lkT l => l.all fun p => p.2.low n
def Elder (h0 h : Hd) : Prop := ∀ (i : Nat) (o : O), i < h0.length → h[i]? = some o → h0[i]? = some o ∨ o.low h0.length = true
def gcW (n : Nat) (w : W) (h : Hd) : R W := match w with
  | .l xs => if D.lows n xs = true then .ok (.l xs) (h.take n) else .ok w h
  | .v (.obj m) => if m < n then .ok w (h.take n) else match h[m]? with
    | some (.lst xs) => if D.lows n xs = true then .ok (.l xs) (h.take n) else .ok w h
    | some o => if o.low n = true then .ok (.v (.obj n)) (h.take n ++ [o]) else .ok w h
    | none => .ok w h
  | .v d => if d.low n = true then .ok w (h.take n) else .ok w h
open Classical in
noncomputable def gc (h0 : Hd) (r : R W) : R W := match r with
  | .ok w h => if Elder h0 h then gcW h0.length w h else .ok w h
  | r => r
def endB (r : R Fl) : R W := r.bind fun f h => match f with
  | .rt w => .ok w h
  | .nx _ => .ok (.v .non) h
  | _ => .no
def startD (N : List Str) (ds : List D) : Sd := ds.map some ++ List.replicate (N.length - ds.length) none
noncomputable def run (F : List Fn) (G : List D) : Nat → Cls
  | 0, _, _, _ => .no
  | k + 1, f, ds, h => match F[f]? with
    | some fn => if ds.length = fn.np then gc h (endB (sdns (run F G k) G fn.body (startD fn.N ds) h)) else .no
    | none => .no

structure Gam where
  fns : List (Str × Nat)
  cns : List (Str × D)
  blt : List Str
def visB (sc : Scope) (x : Str) : Bool := match sc.names.lookup x with
  | some .local => true
  | some .cell => true
  | some .free => true
  | _ => false
def locB (sc : Scope) (fn : Str → Bool) (x : Str) : Bool := match sc.names.lookup x with
  | some .local => true
  | some .cell => fn x
  | _ => false
def glB (sc : Scope) (x : Str) : Bool := match sc.names.lookup x with
  | some .globalImplicit => true
  | _ => false
def isVal : Ex → Bool
  | .rng1 _ => false
  | .rng2 _ _ => false
  | .dw _ _ => false
  | _ => true
def noTup : Ex → Bool
  | .dw .items _ => false
  | _ => true
def hasT : Ex → Bool
  | .ite _ _ _ => false
  | .lock _ _ => false
  | .neg _ => false
  | _ => true
def hasI : Ex → Bool
  | .not_ _ => false
  | _ => true
def chkC : Ex → Const → Bool
  | .non, .none => true
  | .bl b, .bool c => b == c
  | .int i, .int j => i == j
  | .str s, .str t => t.cps.toList == s
  | _, _ => false
def B1.nm : B1 → Str
  | .len => "len" | .abs => "abs" | .int => "int" | .str => "str" | .tuple => "tuple" | .list => "list" | .sum => "sum" | .sorted => "sorted" | .bool => "bool" | .ord => "ord" | .chr => "chr" | .any => "any" | .all => "all"
def B1.ok : B1 → Bool
  | .len => true | .abs => true | .int => true | .str => true | .tuple => true | .list => true | .sum => true | .sorted => true | .any => true | .all => true
  | _ => false
def B2.nm : B2 → Str
  | .max => "max" | .min => "min"
def M0.nm : M0 → Str
  | .pop => "pop" | .reverse => "reverse" | .clear => "clear"
def M0.ok : M0 → Bool
  | .clear => false
  | _ => true
def M1.nm : M1 → Str
  | .append => "append" | .extend => "extend" | .pop => "pop" | .get => "get" | .join => "join" | .count => "count" | .index => "index"
def ownOf (N : List Str) (own : List Nat) : List (Str × Nat) := own.map fun i => (N.getD i "", i)
mutual
def chkTg (N : List Str) (sc : Scope) (fn : Str → Bool) : Tg → Expr → Bool
  | .nm i, e => match e with
    | .Name x _ => decide (N[i]? = some x) && locB sc fn x
    | _ => false
  | .tp ts, e => match e with
    | .Tuple es _ _ => chkTgs N sc fn ts es
    | _ => false
def chkTgs (N : List Str) (sc : Scope) (fn : Str → Bool) : List Tg → List Expr → Bool
  | [], es => match es with
    | [] => true
    | _ => false
  | t :: ts, es => match es with
    | [] => false
    | e :: es => plainE e && chkTg N sc fn t e && chkTgs N sc fn ts es
end
def glbOk (Γ : Gam) (sc : Scope) (y x : Str) : Bool := decide (y = x) && glB sc x && decide (x ∈ Γ.blt)
mutual
def chk (Γ : Gam) (N : List Str) (sc : Scope) (fn : Str → Bool) : Ex → Expr → Bool
  | .var i, e => match e with
    | .Name x _ => decide (N[i]? = some x) && visB sc x && !(x == ("__debug__" : Str)) && !(x == ("__classdict__" : Str))
    | _ => false
  | .non, e => match e with
    | .Constant .none _ _ => true
    | _ => false
  | .bl b, e => match e with
    | .Constant (.bool c) _ _ => b == c
    | _ => false
  | .int i, e => match e with
    | .Constant (.int j) _ _ => decide (i = j)
    | _ => false
  | .str s, e => match e with
    | .Constant (.str t) _ _ => decide (t = mkS s)
    | _ => false
  | .glb g, e => match e with
    | .Name x _ => match Γ.cns[g]? with
      | some (y, _) => decide (y = x) && glB sc x && !(x == ("__debug__" : Str))
      | none => false
    | _ => false
  | .tup es, e => match e with
    | .Tuple es' _ _ => chks Γ N sc fn es es'
    | _ => false
  | .lst es, e => match e with
    | .List es' _ => chks Γ N sc fn es es'
    | _ => false
  | .dk, e => match e with
    | .Dict [] [] _ => true
    | _ => false
  | .dt, e => match e with
    | .Dict [] [] _ => true
    | _ => false
  | .bin op a b, e => match e with
    | .BinOp a' op' b' _ => decide (op = op') && isVal a && isVal b && chk Γ N sc fn a a' && chk Γ N sc fn b b'
    | _ => false
  | .neg a, e => match e with
    | .UnaryOp .USub a' _ => isVal a && chk Γ N sc fn a a'
    | _ => false
  | .cmp op a b, e => match e with
    | .Compare a' [op'] [b'] _ => decide (op = op') && isVal a && isVal b && chk Γ N sc fn a a' && chk Γ N sc fn b b'
    | _ => false
  | .and_ es, e => match e with
    | .BoolOp .And es' _ => !es.isEmpty && es.all hasT && chks Γ N sc fn es es'
    | _ => false
  | .or_ es, e => match e with
    | .BoolOp .Or es' _ => !es.isEmpty && es.all hasT && chks Γ N sc fn es es'
    | _ => false
  | .not_ a, e => match e with
    | .UnaryOp .Not a' _ => isVal a && hasT a && chk Γ N sc fn a a'
    | _ => false
  | .ite c a b, e => match e with
    | .IfExp c' a' b' _ => isVal c && hasT c && isVal a && isVal b && chk Γ N sc fn c c' && chk Γ N sc fn a a' && chk Γ N sc fn b b'
    | _ => false
  | .ix a i, e => match e with
    | .Subscript a' i' _ => isVal a && isVal i && notSl i' && chk Γ N sc fn a a' && chk Γ N sc fn i i'
    | _ => false
  | .sl a lo hi, e => match e with
    | .Subscript a' (.Slice lo' hi' none _) _ => isVal a && chk Γ N sc fn a a' && chko Γ N sc fn lo lo' && chko Γ N sc fn hi hi'
    | _ => false
  | .rev a, e => match e with
    | .Subscript a' (.Slice none none (some (.UnaryOp .USub (.Constant (.int 1) _ _) _)) _) _ => isVal a && chk Γ N sc fn a a'
    | _ => false
  | .b1 b a, e => match e with
    | .Call (.Name x _) [a'] [] _ => b.ok && glbOk Γ sc b.nm x && isVal a && chk Γ N sc fn a a'
    | _ => false
  | .b2 b a c, e => match e with
    | .Call (.Name x _) [a', c'] [] _ => glbOk Γ sc b.nm x && isVal a && isVal c && chk Γ N sc fn a a' && chk Γ N sc fn c c'
    | _ => false
  | .isi t a, e => match e with
    | .Call (.Name x _) [a', .Name y _] [] _ => glbOk Γ sc "isinstance" x && glbOk Γ sc (Str.ofString t.nm) y && isVal a && chk Γ N sc fn a a'
    | _ => false
  | .call f es, e => match e with
    | .Call (.Name x _) es' [] _ => (match Γ.fns[f]? with
      | some (y, n) => decide (y = x) && decide (es.length = n)
      | none => false) && glB sc x && !(x == ("__debug__" : Str)) && (x != "super") && chks Γ N sc fn es es'
    | _ => false
  | .m0 m o, e => match e with
    | .Call (.Attribute o' x apos) [] [] cpos => m.ok && decide (x = m.nm) && line1 apos cpos && isVal o && chk Γ N sc fn o o'
    | _ => false
  | .m1 m o a, e => match e with
    | .Call (.Attribute o' x apos) [a'] [] cpos => decide (x = m.nm) && line1 apos cpos && isVal o && isVal a && chk Γ N sc fn o o' && chk Γ N sc fn a a'
    | _ => false
  | .get2 o a b, e => match e with
    | .Call (.Attribute o' x apos) [a', b'] [] cpos => decide (x = "get") && line1 apos cpos && isVal o && isVal a && isVal b && chk Γ N sc fn o o' && chk Γ N sc fn a a' && chk Γ N sc fn b b'
    | _ => false
  | .lc elt tg it c own, e => match e with
    | .ListComp elt' [⟨tg', it', ifs', 0⟩] scope _ => blkC N sc scope (ownOf N own) && (tg.slots.all fun i => decide (i ∈ own)) && hasI it && (noTup it || (match tg' with
        | .Tuple _ _ _ => true
        | _ => false)) && isVal elt && chk Γ N sc fn it it' && chkTg N (relS scope sc) (fun x => scope.names.lookup x == some .cell) tg tg' &&
        chkc Γ N (relS scope sc) (fun x => scope.names.lookup x == some .cell) c ifs' && chk Γ N (relS scope sc) (fun x => scope.names.lookup x == some .cell) elt elt'
    | _ => false
  | .lock i e', e => isVal e' && chk Γ N sc fn e' e
  | .rng1 a, e => match e with
    | .Call (.Name x _) [a'] [] _ => glbOk Γ sc "range" x && isVal a && chk Γ N sc fn a a'
    | _ => false
  | .rng2 a b, e => match e with
    | .Call (.Name x _) [a', b'] [] _ => glbOk Γ sc "range" x && isVal a && isVal b && chk Γ N sc fn a a' && chk Γ N sc fn b b'
    | _ => false
  | .dw m a, e => match m with
    | .keys => isVal a && chk Γ N sc fn a e
    | .vals => match e with
      | .Call (.Attribute o' x apos) [] [] cpos => decide (x = "values") && line1 apos cpos && isVal a && chk Γ N sc fn a o'
      | _ => false
    | .items => match e with
      | .Call (.Attribute o' x apos) [] [] cpos => decide (x = "items") && line1 apos cpos && isVal a && chk Γ N sc fn a o'
      | _ => false
def chks (Γ : Gam) (N : List Str) (sc : Scope) (fn : Str → Bool) : List Ex → List Expr → Bool
  | [], es => match es with
    | [] => true
    | _ => false
  | x :: xs, es => match es with
    | [] => false
    | e :: es => isVal x && chk Γ N sc fn x e && chks Γ N sc fn xs es
def chko (Γ : Gam) (N : List Str) (sc : Scope) (fn : Str → Bool) : Option Ex → Option Expr → Bool
  | none, e => match e with
    | none => true
    | _ => false
  | some x, e => match e with
    | none => false
    | some e => isVal x && chk Γ N sc fn x e
def chkc (Γ : Gam) (N : List Str) (sc : Scope) (fn : Str → Bool) : Option Ex → List Expr → Bool
  | none, es => match es with
    | [] => true
    | _ => false
  | some x, es => match es with
    | [e] => isVal x && hasT x && chk Γ N sc fn x e
    | _ => false
end
def noSwap (tg e : Expr) : Bool := match tg with
  | .Tuple _ _ _ => (match e with
    | .Tuple vs _ _ => vs.all (foldedForSure 8)
    | _ => true)
  | .List _ _ => false
  | _ => true
def fnK (sc : Scope) : Bool := match sc.kind with
  | .function => true
  | _ => false
def isLoc (o : Option NameKind) : Bool := match o with
  | some .local => true
  | _ => false
def swapC (sc : Scope) (y : Str) (pl el : Nat) (scope : Scope) : Bool := fnK sc && isLoc (sc.names.lookup y) && (pl == el) && !(scope.names.any fun (n, k) => n == y && (k == .local || k == .cell))
def setOk (sc : Scope) (tg : Expr) (e : Expr) (lc : Bool) : Bool := match e with
  | .ListComp _ _ scope pos => (match tg with
    | .Name y py => fnK sc && (!(swapC sc y py.line pos.line scope) || lc)
    | .Tuple _ _ _ => true
    | _ => false)
  | e => noComp e
def isLc : Ex → Bool
  | .lc _ _ _ _ _ => true
  | _ => false
mutual
def chkS (Γ : Gam) (N : List Str) (sc : Scope) : Sm → Stmt → Bool
  | .ex e, st => match st with
    | .Expr e' _ => isVal e && noComp e' && chk Γ N sc (fun _ => true) e e'
    | _ => false
  | .set t e, st => match st with
    | .Assign [tg] e' pos => isVal e && chkTg N sc (fun _ => true) t tg && setOk sc tg e' (isLc e) && noSwap tg e' && chk Γ N sc (fun _ => true) e e' && plainE tg
    | _ => false
  | .par is es, st => match st with
    | .Assign [.Tuple [.Name x px, .Name y py] _ _] (.Tuple [a, b] _ _) _ => (match is with
      | [i, j] => decide (N[i]? = some x) && decide (N[j]? = some y) && decide (i ≠ j) && isLoc (sc.names.lookup x) && isLoc (sc.names.lookup y) && (px.line == py.line) && decide (x ≠ y) && fnK sc &&
        !(([a, b] : List Expr).all (foldedForSure 8)) && !(([a, b] : List Expr).all (constantsAlone 8))
      | _ => false) && chks Γ N sc (fun _ => true) es [a, b]
    | _ => false
  | .aug i op e, st => match st with
    | .AugAssign (.Name x _) op' e' _ => decide (N[i]? = some x) && locB sc (fun _ => true) x && decide (op = op') && isVal e && chk Γ N sc (fun _ => true) e e'
    | _ => false
  | .sub o i e, st => match st with
    | .Assign [.Subscript o' i' _] e' _ => isVal o && isVal i && isVal e && notSl i' && noComp e' && chk Γ N sc (fun _ => true) o o' && chk Γ N sc (fun _ => true) i i' && chk Γ N sc (fun _ => true) e e'
    | _ => false
  | .augS o i op e, st => match st with
    | .AugAssign (.Subscript o' i' _) op' e' _ => isVal o && isVal i && isVal e && notSl i' && decide (op = op') && chk Γ N sc (fun _ => true) o o' && chk Γ N sc (fun _ => true) i i' && chk Γ N sc (fun _ => true) e e'
    | _ => false
  | .ite c a b, st => match st with
    | .If c' a' b' _ => isVal c && hasT c && chk Γ N sc (fun _ => true) c c' && chkSs Γ N sc a a' && chkSs Γ N sc b b'
    | _ => false
  | .whl c b, st => match st with
    | .While c' b' [] _ => isVal c && hasT c && chk Γ N sc (fun _ => true) c c' && chkSs Γ N sc b b'
    | _ => false
  | .for_ t it b, st => match st with
    | .For tg it' b' [] _ => hasI it && (noTup it || (match tg with
        | .Tuple _ _ _ => true
        | _ => false)) && chkTg N sc (fun _ => true) t tg && chk Γ N sc (fun _ => true) it it' && chkSs Γ N sc b b'
    | _ => false
  | .ret e, st => match st with
    | .Return (some e') _ => isVal e && chk Γ N sc (fun _ => true) e e'
    | _ => false
  | .retN, st => match st with
    | .Return none _ => true
    | _ => false
  | .pas, st => match st with
    | .Pass _ => true
    | _ => false
  | .brk, st => match st with
    | .Break _ => true
    | _ => false
  | .cnt, st => match st with
    | .Continue _ => true
    | _ => false
  | .lock i s, st => chkS Γ N sc s st
def chkSs (Γ : Gam) (N : List Str) (sc : Scope) : List Sm → List Stmt → Bool
  | [], sts => match sts with
    | [] => true
    | _ => false
  | s :: ss, sts => match sts with
    | [] => false
    | st :: sts => chkS Γ N sc s st && chkSs Γ N sc ss sts
end
end DL
namespace DL
open PySem PySem.Spec PyProof.Rows L2

structure GOk (Γ : Gam) (C : Cls) (G : List D) (k : Nat) (X : Cx) : Prop where
  fns : ∀ (f : Nat) (x : Str) (n : Nat), Γ.fns[f]? = some (x, n) → ∃ (a : Addr) (fd : FuncData) (ps : List Str), X.mg x = some (.ref a) ∧ PySem.W.keepIn X.K (.ref a) = true ∧ Binds X.K fd ps [] ∧ FnOk X.prog X.w X.K X.mg X.base CX0 k a fd ps (spD X.K n (C f))
  cns : ∀ (g : Nat) (x : Str) (d : D), Γ.cns[g]? = some (x, d) → G[g]? = some d ∧ ∃ (v : V) (u : Value), X.mg x = some u ∧ RelV v u ∧ ∀ α H, RelD X.K α H d v
  blt : ∀ x ∈ Γ.blt, X.mg x = none
structure Good (Γ : Gam) (N : List Str) (sc : Scope) (fn : Str → Bool) (C : Cls) (G : List D) (k : Nat) (X : Cx) : Prop where
  g : GOk Γ C G k X
  N : X.N = N
  nd : X.N.Nodup
  sc : X.env.scope = sc
  fn : X.fn = fn
  calm : X.calm = true
  room : Room k X.A
  deep : Deep X
variable {Γ : Gam} {N : List Str} {sc : Scope} {fn : Str → Bool} {C : Cls} {G : List D} {k : Nat} {X : Cx}
theorem Good.blk (g : Good Γ N sc fn C G k X) (s : Shared) (H : Hp) (scope : Scope) (A : Addr) (cl : List (Str × Addr)) (fp : List Addr) :
    Good Γ N (relS scope sc) (fun x => scope.names.lookup x == some .cell) C G k (X.blk s H scope (compEnvC scope cl A X.env) fp) := by
  have e : (compEnvC scope cl A X.env).scope = relS scope X.env.scope := rfl
  exact ⟨⟨g.g.fns, g.g.cns, g.g.blt⟩, g.N, g.nd, by rw [← g.sc]; exact e, rfl, g.calm, g.room, g.deep⟩
theorem Good.gl (g : Good Γ N sc fn C G k X) {x : Str} (h : glB sc x = true) : Gl X x := by
  unfold glB at h
  show X.env.scope.names.lookup x = _
  rw [g.sc]
  split at h
  · assumption
  · cases h
theorem Good.vis (g : Good Γ N sc fn C G k X) {x : Str} (h : visB sc x = true) : Vis X.env.scope x := by
  unfold visB at h
  rw [g.sc]
  unfold Vis
  split at h
  · exact .inl (by assumption)
  · exact .inr (.inl (by assumption))
  · exact .inr (.inr (by assumption))
  · cases h
theorem Good.loc (g : Good Γ N sc fn C G k X) {x : Str} (h : locB sc fn x = true) : L2.Loc X.env.scope x ∧ (X.fn x = true ∨ X.env.scope.names.lookup x = some .local) := by
  unfold locB at h
  rw [g.sc, g.fn]
  unfold L2.Loc
  split at h
  · rename_i e; exact ⟨.inl e, .inr e⟩
  · rename_i e; exact ⟨.inr e, .inl h⟩
  · cases h
theorem Good.bl (g : Good Γ N sc fn C G k X) {x y : Str} (h : glbOk Γ sc y x = true) : y = x ∧ Gl X x ∧ X.mg x = none := by
  unfold glbOk at h
  simp only [Bool.and_eq_true, decide_eq_true_eq] at h
  exact ⟨h.1.1, g.gl h.1.2, g.g.blt _ h.2⟩
mutual
theorem chkTg_ok (g : Good Γ N sc fn C G k X) : ∀ (t : Tg) (e : Expr), chkTg N sc fn t e = true → TgOk X t e
  | .nm i, e, h => by
    unfold chkTg at h
    split at h
    · simp only [Bool.and_eq_true, decide_eq_true_eq] at h
      obtain ⟨l, f⟩ := g.loc h.2
      exact .nm (pg_name g.nd (by rw [g.N]; exact h.1) l f)
    · cases h
  | .tp ts, e, h => by
    unfold chkTg at h
    split at h
    · obtain ⟨h1, h2, h3⟩ := chkTgs_ok g ts _ h
      exact .tp h1 h2 h3
    · cases h
theorem chkTgs_ok (g : Good Γ N sc fn C G k X) : ∀ (t : List Tg) (es : List Expr), chkTgs N sc fn t es = true → PGs X es (gTs X.K t) ∧ (assignEach es X.env).length = t.length ∧ (assignEach es X.env).findIdx? (·.1) = none
  | [], es, h => by
    unfold chkTgs at h
    split at h
    · exact ⟨tgs_nil, rfl, rfl⟩
    · cases h
  | t :: ts, es, h => by
    unfold chkTgs at h
    split at h
    · cases h
    · rename_i e es
      simp only [Bool.and_eq_true] at h
      obtain ⟨h1, h2, h3⟩ := chkTgs_ok g ts es h.2
      have ea : assignEach (e :: es) X.env = (false, assign e X.env) :: assignEach es X.env := by
        have hp := h.1.1
        cases e <;> first | rfl | (cases hp)
      refine ⟨tgs_cons g.calm (chkTg_ok g t e h.1.2) h.1.1 h1, ?_, ?_⟩
      · rw [ea, List.length_cons, List.length_cons, h2]
      · rw [ea, List.findIdx?_cons, h3]
        rfl
end
inductive DsOk (X : Cx) (b : Bool) : List Den → List Expr → Prop
  | nil : DsOk X b [] []
  | cons {d : Den} {ds : List Den} {e : Expr} {es : List Expr} : EOk X d.v e → (b = true → PT X e (TB X.K d.t)) → DsOk X b ds es → DsOk X b (d :: ds) (e :: es)
theorem DsOk.es {b : Bool} : ∀ {ds : List Den} {es : List Expr}, DsOk X b ds es → EsOk X (ds.map (·.v)) es
  | _, _, .nil => .nil
  | _, _, .cons h _ t => .cons h t.es
theorem DsOk.len {b : Bool} : ∀ {ds : List Den} {es : List Expr}, DsOk X b ds es → ds.length = es.length
  | _, _, .nil => rfl
  | _, _, .cons h _ t => by rw [List.length_cons, List.length_cons, t.len]
theorem DsOk.and {pos : Pos} : ∀ {ds : List Den} {es : List Expr}, DsOk X true ds es → es ≠ [] → EOk X (vAnds ds) (.BoolOp .And es pos) ∧ PW X (.BoolOp .And es pos) (TB X.K (tAnds ds))
  | _, _, .nil, h => absurd rfl h
  | _, _, .cons h t .nil, _ => ⟨e_one h, pw_and1 (t rfl)⟩
  | _, _, .cons h t (.cons h' t' r), _ => by
    obtain ⟨i1, i2⟩ := DsOk.and (pos := pos) (.cons h' t' r) (by simp)
    exact ⟨e_and h i1, t_and (t rfl) i2⟩
theorem DsOk.or {pos : Pos} : ∀ {ds : List Den} {es : List Expr}, DsOk X true ds es → es ≠ [] → EOk X (vOrs ds) (.BoolOp .Or es pos) ∧ PW X (.BoolOp .Or es pos) (TB X.K (tOrs ds))
  | _, _, .nil, h => absurd rfl h
  | _, _, .cons h t .nil, _ => ⟨e_one h, pw_or1 (t rfl)⟩
  | _, _, .cons h t (.cons h' t' r), _ => by
    obtain ⟨i1, i2⟩ := DsOk.or (pos := pos) (.cons h' t' r) (by simp)
    exact ⟨e_or h i1, t_or (t rfl) i2⟩
structure DOk (X : Cx) (x : Ex) (d : Den) (e : Expr) : Prop where
  v : isVal x = true → EOk X d.v e
  t : isVal x = true → hasT x = true → PT X e (TB X.K d.t)
  i : hasI x = true → ∀ tg : Expr, (noTup x = true ∨ ∃ es k p, tg = .Tuple es k p) → IOk X tg d.i e
theorem DOk.val {x : Ex} {f : FV} {e : Expr} (h : EOk X f e) (hp : plainT e = true) : DOk X x (ofV f) e := ⟨fun _ => h, fun _ _ => t_val h.pe hp, fun _ _ _ => i_val h⟩
theorem DOk.src {x : Ex} {f : FS} {e : Expr} (hv : isVal x = false) (h : ∀ tg, (noTup x = true ∨ ∃ es k p, tg = .Tuple es k p) → IOk X tg f e) : DOk X x (ofS f) e :=
  ⟨fun z => (by rw [hv] at z; cases z), fun z => (by rw [hv] at z; cases z), fun _ tg ht => h tg ht⟩
theorem b1_ok (g : Good Γ N sc fn C G k X) {b : B1} (hb : b.ok = true) {e : Expr} {f : FV} {p pos : Pos} (hg : Gl X b.nm) (hm : X.mg b.nm = none) (he : EOk X f e) : EOk X (vB1 (bl1 b) f) (.Call (.Name b.nm p) [e] [] pos) := by
  cases b with
  | len => exact e_callB c_len hg hm (by decide +kernel) (by decide) (by decide) he
  | abs => exact e_callB c_abs hg hm (by decide +kernel) (by decide) (by decide) he
  | int => exact e_callT c_int hg hm (by decide +kernel) (by decide) (by decide) he
  | str => exact e_callT c_str hg hm (by decide +kernel) (by decide) (by decide) he
  | tuple => exact e_callT c_tuple hg hm (by decide +kernel) (by decide) (by decide) he
  | list => exact e_callT c_list hg hm (by decide +kernel) (by decide) (by decide) he
  | sum => exact e_callB (c_sum g.calm) hg hm (by decide +kernel) (by decide) (by decide) he
  | sorted => exact e_callB c_sorted hg hm (by decide +kernel) (by decide) (by decide) he
  | any => exact e_callB (c_any g.calm) hg hm (by decide +kernel) (by decide) (by decide) he
  | all => exact e_callB (c_all g.calm) hg hm (by decide +kernel) (by decide) (by decide) he
  | _ => cases hb
theorem b2_ok (g : Good Γ N sc fn C G k X) {b : B2} {e e' : Expr} {f f' : FV} {p pos : Pos} (hg : Gl X b.nm) (hm : X.mg b.nm = none) (he : EOk X f e) (he' : EOk X f' e') : EOk X (vB2 (bl2 b) f f') (.Call (.Name b.nm p) [e, e'] [] pos) := by
  cases b with
  | max => exact e_callB2 (c_max g.calm) hg hm (by decide +kernel) (by decide) (by decide) he he'
  | min => exact e_callB2 (c_min g.calm) hg hm (by decide +kernel) (by decide) (by decide) he he'
theorem m1_ok (g : Good Γ N sc fn C G k X) {m : M1} {o e : Expr} {f f' : FV} {apos cpos : Pos} (ho : EOk X f o) (he : EOk X f' e) (hl : line1 apos cpos = true) : EOk X (mt1F m f f') (.Call (.Attribute o m.nm apos) [e] [] cpos) := by
  cases m with
  | append => exact e_append ho he hl
  | extend => exact e_extend ho he hl
  | pop => exact e_popAt ho he hl
  | get => exact e_get1 g.deep ho he hl
  | join => exact e_join ho he hl
  | count => exact e_count g.deep ho he hl
  | index => exact e_index g.deep ho he hl
theorem call_ok (g : Good Γ N sc fn C G k X) {f : Nat} {x : Str} {n : Nat} {ds : List Den} {b : Bool} {es : List Expr} {p pos : Pos} (hf : Γ.fns[f]? = some (x, n)) (hn : ds.length = n) (hg : Gl X x) (hdb : (x == ("__debug__" : Str)) = false) (hs : (x != "super") = true) (h : DsOk X b ds es) :
    EOk X (vCall (C f) [] (ds.map (·.v))) (.Call (.Name x p) es [] pos) := by
  obtain ⟨a, fd, ps, hm, hk, hb, F⟩ := g.g.fns f x n hf
  cases h with
  | nil => exact e_call0 F g.room hg hm hk hb .nil (fun _ _ => rfl) hn hdb hs
  | cons h t r => exact e_call F g.room hg hm hk hb .nil (fun _ _ => rfl) (by rw [List.length_map]; exact hn) hdb (DsOk.es (b := b) (.cons h t r))

theorem dns_len : ∀ xs : List Ex, (dns C G xs).length = xs.length
  | [] => rfl
  | x :: xs => by show (dns C G xs).length + 1 = _; rw [dns_len xs]; rfl
mutual
theorem chk_ok : ∀ (x : Ex) (e : Expr) {sc : Scope} {fn : Str → Bool} {X : Cx}, Good Γ N sc fn C G k X → chk Γ N sc fn x e = true → DOk X x (dn C G x) e
  | .var i, e, sc, fn, X, g, h => by
    unfold chk at h
    split at h
    · simp only [Bool.and_eq_true, decide_eq_true_eq, Bool.not_eq_true'] at h
      exact .val (e_var (by rw [g.N]; exact h.1.1.1) (g.vis h.1.1.2) h.1.2 h.2) rfl
    · cases h
  | .non, e, sc, fn, X, g, h => by
    unfold chk at h
    split at h
    · exact .val e_non rfl
    · cases h
  | .bl b, e, sc, fn, X, g, h => by
    unfold chk at h
    split at h
    · have := eq_of_beq h
      subst this
      exact .val e_bl rfl
    · cases h
  | .int i, e, sc, fn, X, g, h => by
    unfold chk at h
    split at h
    · have := of_decide_eq_true h
      subst this
      exact .val e_int rfl
    · cases h
  | .str s, e, sc, fn, X, g, h => by
    unfold chk at h
    split at h
    · have := of_decide_eq_true h
      subst this
      exact .val e_str rfl
    · cases h
  | .glb i, e, sc, fn, X, g, h => by
    unfold chk at h
    split at h
    · split at h
      · rename_i y d hy
        simp only [Bool.and_eq_true, decide_eq_true_eq, Bool.not_eq_true'] at h
        obtain ⟨⟨rfl, h2⟩, h3⟩ := h
        obtain ⟨e1, v, u, hm, r, rd⟩ := g.g.cns i y d hy
        show DOk X _ (ofV (match G[i]? with
          | some d => vC d
          | none => noV)) _
        rw [e1]
        exact .val (e_glb (g.gl h2) hm r rd h3) rfl
      · cases h
    · cases h
  | .tup es, e, sc, fn, X, g, h => by
    unfold chk at h
    split at h
    · exact .val (e_tup (chks_ok es _ (b := false) g (by simp) h).es) rfl
    · cases h
  | .lst es, e, sc, fn, X, g, h => by
    unfold chk at h
    split at h
    · exact .val (e_lst (chks_ok es _ (b := false) g (by simp) h).es) rfl
    · cases h
  | .dk, e, sc, fn, X, g, h => by
    unfold chk at h
    split at h
    · exact .val e_dk rfl
    · cases h
  | .dt, e, sc, fn, X, g, h => by
    unfold chk at h
    split at h
    · exact .val e_dt rfl
    · cases h
  | .bin op a b, e, sc, fn, X, g, h => by
    unfold chk at h
    split at h
    · simp only [Bool.and_eq_true, decide_eq_true_eq] at h
      obtain ⟨⟨⟨⟨rfl, v1⟩, v2⟩, h1⟩, h2⟩ := h
      exact .val (e_bin ((chk_ok a _ g h1).v v1) ((chk_ok b _ g h2).v v2)) rfl
    · cases h
  | .neg a, e, sc, fn, X, g, h => by
    unfold chk at h
    split at h
    · simp only [Bool.and_eq_true] at h
      have he := e_neg (pos := by assumption) ((chk_ok a _ g h.2).v h.1)
      exact ⟨fun _ => he, fun _ z => (by cases z), fun _ _ _ => i_val he⟩
    · cases h
  | .cmp op a b, e, sc, fn, X, g, h => by
    unfold chk at h
    split at h
    · simp only [Bool.and_eq_true, decide_eq_true_eq] at h
      obtain ⟨⟨⟨⟨rfl, v1⟩, v2⟩, h1⟩, h2⟩ := h
      have ha := (chk_ok a _ g h1).v v1
      have hb := (chk_ok b _ g h2).v v2
      exact ⟨fun _ => e_cmp g.deep ha hb, fun _ _ => t_cmp g.deep ha hb, fun _ _ _ => i_val (e_cmp g.deep ha hb)⟩
    · cases h
  | .and_ es, e, sc, fn, X, g, h => by
    unfold chk at h
    split at h
    · rename_i es' pos
      simp only [Bool.and_eq_true, Bool.not_eq_true'] at h
      have hd := chks_ok es _ (b := true) g (fun _ => h.1.2) h.2
      have hn : es' ≠ [] := fun z => by
        have hl := hd.len
        rw [z] at hl
        have : es = [] := by
          cases es with
          | nil => rfl
          | cons _ _ => cases hl
        rw [this] at h
        cases h.1.1
      obtain ⟨i1, i2⟩ := hd.and (pos := pos) hn
      exact ⟨fun _ => i1, fun _ _ => i2.pt, fun _ _ _ => i_val i1⟩
    · cases h
  | .or_ es, e, sc, fn, X, g, h => by
    unfold chk at h
    split at h
    · rename_i es' pos
      simp only [Bool.and_eq_true, Bool.not_eq_true'] at h
      have hd := chks_ok es _ (b := true) g (fun _ => h.1.2) h.2
      have hn : es' ≠ [] := fun z => by
        have hl := hd.len
        rw [z] at hl
        have : es = [] := by
          cases es with
          | nil => rfl
          | cons _ _ => cases hl
        rw [this] at h
        cases h.1.1
      obtain ⟨i1, i2⟩ := hd.or (pos := pos) hn
      exact ⟨fun _ => i1, fun _ _ => i2.pt, fun _ _ _ => i_val i1⟩
    · cases h
  | .not_ a, e, sc, fn, X, g, h => by
    unfold chk at h
    split at h
    · simp only [Bool.and_eq_true] at h
      have ha := chk_ok a _ g h.2
      exact ⟨fun _ => e_not (ha.v h.1.1), fun _ _ => t_not (ha.t h.1.1 h.1.2), fun z => (by cases z)⟩
    · cases h
  | .ite c a b, e, sc, fn, X, g, h => by
    unfold chk at h
    split at h
    · simp only [Bool.and_eq_true] at h
      obtain ⟨⟨⟨⟨⟨⟨v1, t1⟩, v2⟩, v3⟩, h1⟩, h2⟩, h3⟩ := h
      have he := fun pos => e_if (pos := pos) ((chk_ok c _ g h1).t v1 t1) ((chk_ok a _ g h2).v v2) ((chk_ok b _ g h3).v v3)
      exact ⟨fun _ => he _, fun _ z => (by cases z), fun _ _ _ => i_val (he _)⟩
    · cases h
  | .ix a i, e, sc, fn, X, g, h => by
    unfold chk at h
    split at h
    · simp only [Bool.and_eq_true] at h
      obtain ⟨⟨⟨⟨v1, v2⟩, s⟩, h1⟩, h2⟩ := h
      exact .val (e_ix g.deep ((chk_ok a _ g h1).v v1) ((chk_ok i _ g h2).v v2) (plainIx_of s)) rfl
    · cases h
  | .sl a lo hi, e, sc, fn, X, g, h => by
    unfold chk at h
    split at h
    · simp only [Bool.and_eq_true] at h
      obtain ⟨⟨⟨v1, h1⟩, h2⟩, h3⟩ := h
      exact .val (e_sl ((chk_ok a _ g h1).v v1) (chko_ok lo _ g h2) (chko_ok hi _ g h3)) rfl
    · cases h
  | .rev a, e, sc, fn, X, g, h => by
    unfold chk at h
    split at h
    · simp only [Bool.and_eq_true] at h
      exact .val (e_rev ((chk_ok a _ g h.2).v h.1)) rfl
    · cases h
  | .b1 b a, e, sc, fn, X, g, h => by
    unfold chk at h
    split at h
    · simp only [Bool.and_eq_true] at h
      obtain ⟨⟨⟨hb, hg⟩, v1⟩, h1⟩ := h
      obtain ⟨rfl, hg, hm⟩ := g.bl hg
      exact .val (b1_ok g hb hg hm ((chk_ok a _ g h1).v v1)) rfl
    · cases h
  | .b2 b a c, e, sc, fn, X, g, h => by
    unfold chk at h
    split at h
    · simp only [Bool.and_eq_true] at h
      obtain ⟨⟨⟨⟨hg, v1⟩, v2⟩, h1⟩, h2⟩ := h
      obtain ⟨rfl, hg, hm⟩ := g.bl hg
      exact .val (b2_ok g hg hm ((chk_ok a _ g h1).v v1) ((chk_ok c _ g h2).v v2)) rfl
    · cases h
  | .isi t a, e, sc, fn, X, g, h => by
    unfold chk at h
    split at h
    · simp only [Bool.and_eq_true] at h
      obtain ⟨⟨⟨hg, hg2⟩, v1⟩, h1⟩ := h
      obtain ⟨e1, hg, hm⟩ := g.bl hg
      obtain ⟨e2, hg2, hm2⟩ := g.bl hg2
      subst e1
      subst e2
      exact .val (e_isi hg hm hg2 hm2 ((chk_ok a _ g h1).v v1)) rfl
    · cases h
  | .call f es, e, sc, fn, X, g, h => by
    unfold chk at h
    split at h
    · simp only [Bool.and_eq_true, Bool.not_eq_true'] at h
      obtain ⟨⟨⟨⟨hf, hg⟩, hdb⟩, hs⟩, h1⟩ := h
      split at hf
      · rename_i y n hy
        simp only [Bool.and_eq_true, decide_eq_true_eq] at hf
        obtain ⟨rfl, hl⟩ := hf
        refine .val (call_ok g hy ?_ (g.gl hg) hdb hs (chks_ok es _ (b := false) g (by simp) h1)) rfl
        rw [dns_len]
        exact hl
      · cases hf
    · cases h
  | .m0 m o, e, sc, fn, X, g, h => by
    unfold chk at h
    split at h
    · simp only [Bool.and_eq_true, decide_eq_true_eq] at h
      obtain ⟨⟨⟨⟨hm, rfl⟩, hl⟩, v1⟩, h1⟩ := h
      have ho := (chk_ok o _ g h1).v v1
      cases m with
      | pop => exact .val (e_pop0 ho hl) rfl
      | reverse => exact .val (e_reverse ho hl) rfl
      | clear => cases hm
    · cases h
  | .m1 m o a, e, sc, fn, X, g, h => by
    unfold chk at h
    split at h
    · simp only [Bool.and_eq_true, decide_eq_true_eq] at h
      obtain ⟨⟨⟨⟨⟨rfl, hl⟩, v1⟩, v2⟩, h1⟩, h2⟩ := h
      exact .val (m1_ok g ((chk_ok o _ g h1).v v1) ((chk_ok a _ g h2).v v2) hl) rfl
    · cases h
  | .get2 o a b, e, sc, fn, X, g, h => by
    unfold chk at h
    split at h
    · simp only [Bool.and_eq_true, decide_eq_true_eq] at h
      obtain ⟨⟨⟨⟨⟨⟨⟨rfl, hl⟩, v1⟩, v2⟩, v3⟩, h1⟩, h2⟩, h3⟩ := h
      exact .val (e_get2 g.deep ((chk_ok o _ g h1).v v1) ((chk_ok a _ g h2).v v2) ((chk_ok b _ g h3).v v3) hl) rfl
    · cases h
  | .lc elt tg it c own, e, sc, fn, X, g, h => by
    unfold chk at h
    split at h
    · rename_i elt' tg' it' ifs' scope pos
      simp only [Bool.and_eq_true] at h
      obtain ⟨⟨⟨⟨⟨⟨⟨⟨hb, hsl⟩, hi⟩, hn⟩, hv⟩, h1⟩, h2⟩, h3⟩, h4⟩ := h
      have hN : X.N = N := g.N
      have ow : (ownOf N own).map (·.2) = own := by unfold ownOf; rw [List.map_map]; exact (List.map_congr_left fun _ _ => rfl).trans (List.map_id own)
      have hn : noTup it = true ∨ ∃ es k p, tg' = .Tuple es k p := by
        rw [Bool.or_eq_true] at hn
        rcases hn with hn | hn
        · exact .inl hn
        · right
          split at hn
          · exact ⟨_, _, _, rfl⟩
          · cases hn
      have q := e_lc (pos := pos) (own := ownOf N own) g.calm g.nd ((chk_ok it it' g h1).i hi tg' hn) (by rw [hN, g.sc]; exact blkOk_by hb)
        (fun s H C cl fp => tg_ok (by exact g.calm) (chkTg_ok (g.blk s H scope C cl fp) tg tg' h2))
        (fun s H C cl fp => chkc_ok c ifs' (g.blk s H scope C cl fp) h3)
        (fun s H C cl fp => (chk_ok elt elt' (g.blk s H scope C cl fp) h4).v hv)
        (by rw [ow]; exact fun i hi => of_decide_eq_true (List.all_eq_true.mp hsl i hi))
      rw [ow] at q
      exact .val q rfl
    · cases h
  | .lock i e', e, sc, fn, X, g, h => by
    unfold chk at h
    rw [Bool.and_eq_true] at h
    have he := e_lock (i := i) ((chk_ok e' e g h.2).v h.1)
    exact ⟨fun _ => he, fun _ z => (by cases z), fun _ _ _ => i_val he⟩
  | .rng1 a, e, sc, fn, X, g, h => by
    unfold chk at h
    split at h
    · simp only [Bool.and_eq_true] at h
      obtain ⟨⟨hg, v1⟩, h1⟩ := h
      obtain ⟨e1, hg, hm⟩ := g.bl hg
      subst e1
      exact .src rfl fun tg _ => i_rng1 hg hm ((chk_ok a _ g h1).v v1)
    · cases h
  | .rng2 a b, e, sc, fn, X, g, h => by
    unfold chk at h
    split at h
    · simp only [Bool.and_eq_true] at h
      obtain ⟨⟨⟨⟨hg, v1⟩, v2⟩, h1⟩, h2⟩ := h
      obtain ⟨e1, hg, hm⟩ := g.bl hg
      subst e1
      exact .src rfl fun tg _ => i_rng2 hg hm ((chk_ok a _ g h1).v v1) ((chk_ok b _ g h2).v v2)
    · cases h
  | .dw m a, e, sc, fn, X, g, h => by
    unfold chk at h
    cases m with
    | keys =>
      simp only [Bool.and_eq_true] at h
      exact .src rfl fun tg _ => i_keys ((chk_ok a _ g h.2).v h.1)
    | vals =>
      simp only at h
      split at h
      · simp only [Bool.and_eq_true, decide_eq_true_eq] at h
        obtain ⟨⟨⟨rfl, hl⟩, v1⟩, h1⟩ := h
        exact .src rfl fun tg _ => i_values ((chk_ok a _ g h1).v v1) hl
      · cases h
    | items =>
      simp only at h
      split at h
      · simp only [Bool.and_eq_true, decide_eq_true_eq] at h
        obtain ⟨⟨⟨rfl, hl⟩, v1⟩, h1⟩ := h
        refine .src rfl fun tg ht => ?_
        rcases ht with ht | ⟨es, kk, p, rfl⟩
        · cases ht
        · exact i_items ((chk_ok a _ g h1).v v1) hl
      · cases h
theorem chks_ok : ∀ (xs : List Ex) (es : List Expr) {sc : Scope} {fn : Str → Bool} {X : Cx} {b : Bool}, Good Γ N sc fn C G k X → (b = true → xs.all hasT = true) → chks Γ N sc fn xs es = true → DsOk X b (dns C G xs) es
  | [], es, sc, fn, X, b, g, hb, h => by
    unfold chks at h
    split at h
    · exact .nil
    · cases h
  | x :: xs, es, sc, fn, X, b, g, hb, h => by
    unfold chks at h
    split at h
    · cases h
    · simp only [Bool.and_eq_true] at h
      have hx := chk_ok x _ g h.1.2
      exact .cons (hx.v h.1.1) (fun z => hx.t h.1.1 (by
        have := hb z
        rw [List.all_cons, Bool.and_eq_true] at this
        exact this.1)) (chks_ok xs _ g (fun z => by
        have := hb z
        rw [List.all_cons, Bool.and_eq_true] at this
        exact this.2) h.2)
theorem chko_ok : ∀ (x : Option Ex) (e : Option Expr) {sc : Scope} {fn : Str → Bool} {X : Cx}, Good Γ N sc fn C G k X → chko Γ N sc fn x e = true → POk X (dno C G x) e
  | none, e, sc, fn, X, g, h => by
    unfold chko at h
    split at h
    · exact .none
    · cases h
  | some x, e, sc, fn, X, g, h => by
    unfold chko at h
    split at h
    · cases h
    · simp only [Bool.and_eq_true] at h
      exact .some ((chk_ok x _ g h.2).v h.1)
theorem chkc_ok : ∀ (x : Option Ex) (e : List Expr) {sc : Scope} {fn : Str → Bool} {X : Cx}, Good Γ N sc fn C G k X → chkc Γ N sc fn x e = true → PTs X e (TB X.K (dnc C G x))
  | none, e, sc, fn, X, g, h => by
    unfold chkc at h
    split at h
    · refine ⟨fun pins s σ H Q I q => pts_nil.run pins s σ H Q I ?_⟩
      obtain ⟨α, σd, hd, R, S, q⟩ := q
      exact q α H (Gr.refl _ _) R
    · cases h
  | some x, e, sc, fn, X, g, h => by
    unfold chkc at h
    split at h
    · simp only [Bool.and_eq_true] at h
      exact pts_one ((chk_ok x _ g h.2).t h.1.1 h.1.2)
    · cases h
end
end DL
namespace DL
open PySem PySem.Spec PyProof.Rows L2

variable {Γ : Gam} {N : List Str} {sc : Scope} {fn : Str → Bool} {C : Cls} {G : List D} {k : Nat} {X : Cx}
theorem bk_fun {env : Env} (h : env.scope.kind = .function) : (env.blockKind != .function) = false := by
  unfold Env.blockKind
  rw [h]
  rfl
theorem noSwap_ok {tg e : Expr} {env : Env} (h : noSwap tg e = true) : swappedStores [tg] e env = pure none := by
  unfold noSwap at h
  split at h
  · split at h
    · unfold swappedStores
      simp only [pure_bind, h, if_true]
      split
      · rfl
      · split
        · rfl
        · split <;> rfl
    · rename_i ne
      unfold swappedStores
      cases e <;> first | rfl | exact absurd rfl (ne _ _ _)
  · cases h
  · rename_i n1 n2
    unfold swappedStores
    cases tg <;> first | rfl | exact absurd rfl (n1 _ _ _) | exact absurd rfl (n2 _ _)
theorem swap_par {x y : Str} {px py pt pt2 : Pos} {kt k2 : Nat} {a b : Expr} {env : Env} (hk : env.scope.kind = .function) (hx : env.scope.names.lookup x = some .local) (hy : env.scope.names.lookup y = some .local) (hl : (px.line == py.line) = true) (hn : x ≠ y)
    (h1 : (([a, b] : List Expr).all (foldedForSure 8)) = false) (h2 : (([a, b] : List Expr).all (constantsAlone 8)) = false) (ha : plainE a = true) (hb : plainE b = true) :
    swappedStores [.Tuple [.Name x px, .Name y py] kt pt] (.Tuple [a, b] k2 pt2) env = pure (some [x, y]) := by
  have kx : env.kindOf x = some .local := hx
  have ky : env.kindOf y = some .local := hy
  have el : (py.line == px.line) = true := by rw [beq_iff_eq] at hl ⊢; exact hl.symm
  unfold swappedStores
  simp only [pure_bind, bk_fun hk, h1, h2, List.length_cons, List.length_nil]
  rw [if_neg (by decide)]
  split
  · rename_i h
    rw [List.any_cons, List.any_cons, List.any_nil, Bool.or_false, Bool.or_eq_true] at h
    rcases h with h | h
    · cases a <;> first | (cases h; done) | (cases ha; done)
    · cases b <;> first | (cases h; done) | (cases hb; done)
  · have el2 : py.line = px.line := eq_of_beq el
    simp [kx, ky, Expr.pos, el2, List.eraseDups_cons, Ne.symm hn, hn, List.filterMap_cons]
theorem assign_one {e : Expr} {env : Env} (h : plainE e = true) : (assignEach [e] env).map (·.2) = [assign e env] := by
  rw [notStar_assign h]
  rfl
theorem sole_eq (t e : Expr) (l : Nat) (env : Env) : swapsWithSole [t] e l env = swapsWith e (some t) l env := rfl
structure GoodS (Γ : Gam) (N : List Str) (sc : Scope) (C : Cls) (G : List D) (k : Nat) (X : Cx) : Prop extends Good Γ N sc (fun _ => true) C G k X where
  own : PassesOwn (model X.prog X.w) X.A X.env X.xe
theorem lookup_loc {o : Option NameKind} (h : isLoc o = true) : o = some .local := by
  unfold isLoc at h
  split at h
  · rfl
  · cases h
mutual
theorem chkS_ok (g : GoodS Γ N sc C G k X) : ∀ (x : Sm) (st : Stmt), chkS Γ N sc x st = true → PS X st (TSd X.K (sdn C G x))
  | .ex e, st, h => by
    unfold chkS at h
    split at h
    · simp only [Bool.and_eq_true] at h
      exact s_expr ((chk_ok e _ g.toGood h.2).v h.1.1) h.1.2
    · cases h
  | .set t e, st, h => by
    unfold chkS at h
    split at h
    · rename_i tg e' pos
      simp only [Bool.and_eq_true] at h
      obtain ⟨⟨⟨⟨⟨hv, ht⟩, hs⟩, hsw⟩, he⟩, hp⟩ := h
      have hT := chkTg_ok g.toGood t tg ht
      have plain : swapsWith e' (some tg) pos.line X.env = pure false → PS X (.Assign [tg] e' pos) (TSd X.K (sdn C G (.set t e))) := fun z =>
        s_asg ((chk_ok e e' g.toGood he).v hv) (tg_ok g.calm hT) ((sole_eq _ _ _ _).trans z) (noSwap_ok hsw) (assign_one hp)
      unfold setOk at hs
      split at hs
      · rename_i elt' gs' scope lpos
        split at hs
        · rename_i y py
          rw [Bool.and_eq_true] at hs
          have hk : X.env.scope.kind = .function := by
            have q := hs.1
            unfold fnK at q
            rw [g.sc]
            split at q
            · assumption
            · cases q
          rcases Bool.eq_false_or_eq_true (swapC sc y py.line lpos.line scope) with sw | sw
          · have hl : isLc e = true := by
              have q := hs.2
              rw [sw] at q
              exact q
            cases e with
            | lc elt tg2 it c own =>
              unfold chk at he
              split at he
              · rename_i elt' tg' it' ifs' scope lpos ee
                cases ee
                simp only [Bool.and_eq_true] at he
                obtain ⟨⟨⟨⟨⟨⟨⟨⟨hb, hsl⟩, hi⟩, hn⟩, hv⟩, h1⟩, h2⟩, h3⟩, h4⟩ := he
                have hN : X.N = N := g.N
                have ow : (ownOf N own).map (·.2) = own := by unfold ownOf; rw [List.map_map]; exact (List.map_congr_left fun _ _ => rfl).trans (List.map_id own)
                have hn : noTup it = true ∨ ∃ es k p, tg' = .Tuple es k p := by
                  rw [Bool.or_eq_true] at hn
                  rcases hn with hn | hn
                  · exact .inl hn
                  · right
                    split at hn
                    · exact ⟨_, _, _, rfl⟩
                    · cases hn
                cases t with
                | nm i =>
                  simp only [chkTg, Bool.and_eq_true, decide_eq_true_eq] at ht
                  unfold swapC at sw
                  simp only [Bool.and_eq_true, Bool.not_eq_true'] at sw
                  obtain ⟨⟨⟨s1, s2⟩, s3⟩, s4⟩ := sw
                  have s2 := lookup_loc s2
                  have hy : X.env.scope.names.lookup y = some .local := by rw [g.sc]; exact s2
                  have q := s_setLc (f := (dn C G elt).v) (tg := tg2) (c := dnc C G c) (s := (dn C G it).i) (spos := pos) (pos := lpos) (py := py) (own := ownOf N own) g.calm g.nd (by rw [hN]; exact ht.1) hy
                    (sw_true hk hy s3 s4) ((chk_ok it it' g.toGood h1).i hi tg' hn) (by rw [hN, g.sc]; exact blkOk_by hb)
                    (fun s H C cl fp => tg_ok (by exact g.calm) (chkTg_ok (g.toGood.blk s H scope C cl fp) tg2 tg' h2))
                    (fun s H C cl fp => chkc_ok c ifs' (g.toGood.blk s H scope C cl fp) h3)
                    (fun s H C cl fp => (chk_ok elt elt' (g.toGood.blk s H scope C cl fp) h4).v hv)
                    (by rw [ow]; exact fun i hi => of_decide_eq_true (List.all_eq_true.mp hsl i hi))
                  rw [ow] at q
                  exact q
                | tp ts => simp only [chkTg] at ht; cases ht
              · cases he
            | _ => cases hl
          · refine plain ?_
            have bk : (X.env.blockKind == .function) = true := by
              unfold Env.blockKind
              rw [hk]
              rfl
            have ek : X.env.kindOf y = sc.names.lookup y := by rw [← g.sc]; rfl
            have sw' : (X.env.blockKind == .function && X.env.kindOf y == some .local && py.line == lpos.line && !(scope.names.any fun (n, k) => n == y && (k == .local || k == .cell))) = false := by
              rw [bk, ek]
              unfold swapC at sw
              rw [hs.1] at sw
              have e2 : isLoc (sc.names.lookup y) = (sc.names.lookup y == some .local) := by
                cases sc.names.lookup y with
                | none => rfl
                | some k => cases k <;> rfl
              rw [e2] at sw
              exact sw
            unfold swapsWith
            simp only [pure_bind]
            show pure _ = pure false
            exact congrArg pure sw'
        · exact plain rfl
        · cases hs
      · exact plain (swaps_no hs _ _ _)
    · cases h
  | .par is es, st, h => by
    unfold chkS at h
    split at h
    · rename_i x px y py kt pt a b k2 pt2 pos
      rw [Bool.and_eq_true] at h
      obtain ⟨h, he⟩ := h
      split at h
      · rename_i i j
        simp only [Bool.and_eq_true, decide_eq_true_eq, Bool.not_eq_true'] at h
        obtain ⟨⟨⟨⟨⟨⟨⟨⟨⟨hi, hj⟩, hij⟩, lx⟩, ly⟩, ln⟩, nxy⟩, hk⟩, f1⟩, f2⟩ := h
        have hd := chks_ok es [a, b] (b := false) g.toGood (by simp) he
        have pl := hd.es.plain
        simp only [List.all_cons, List.all_nil, Bool.and_eq_true, and_true] at pl
        have hk : X.env.scope.kind = .function := by
          unfold fnK at hk
          rw [g.sc]
          split at hk
          · assumption
          · cases hk
        have lx : X.env.scope.names.lookup x = some .local := by rw [g.sc]; exact lookup_loc lx
        have ly : X.env.scope.names.lookup y = some .local := by rw [g.sc]; exact lookup_loc ly
        exact s_par g.calm g.nd (by rw [g.N]; exact hi) (by rw [g.N]; exact hj) hij lx ly hd.es (swap_par hk lx ly ln nxy f1 f2 pl.1 pl.2) rfl
      · cases h
    · cases h
  | .aug i op e, st, h => by
    unfold chkS at h
    split at h
    · simp only [Bool.and_eq_true, decide_eq_true_eq] at h
      obtain ⟨⟨⟨⟨h1, h2⟩, rfl⟩, h4⟩, h5⟩ := h
      obtain ⟨l, f⟩ := g.toGood.loc h2
      exact s_aug g.nd (by rw [g.N]; exact h1) l f ((chk_ok e _ g.toGood h5).v h4)
    · cases h
  | .sub o i e, st, h => by
    unfold chkS at h
    split at h
    · simp only [Bool.and_eq_true] at h
      obtain ⟨⟨⟨⟨⟨⟨⟨v1, v2⟩, v3⟩, s⟩, n⟩, h1⟩, h2⟩, h3⟩ := h
      exact s_sub g.deep ((chk_ok o _ g.toGood h1).v v1) ((chk_ok i _ g.toGood h2).v v2) ((chk_ok e _ g.toGood h3).v v3) s ((sole_eq _ _ _ _).trans (swaps_no n _ _ _))
    · cases h
  | .augS o i op e, st, h => by
    unfold chkS at h
    split at h
    · simp only [Bool.and_eq_true, decide_eq_true_eq] at h
      obtain ⟨⟨⟨⟨⟨⟨⟨v1, v2⟩, v3⟩, s⟩, rfl⟩, h1⟩, h2⟩, h3⟩ := h
      exact s_augS g.deep ((chk_ok o _ g.toGood h1).v v1) ((chk_ok i _ g.toGood h2).v v2) ((chk_ok e _ g.toGood h3).v v3) s
    · cases h
  | .ite c a b, st, h => by
    unfold chkS at h
    split at h
    · simp only [Bool.and_eq_true] at h
      obtain ⟨⟨⟨⟨v, t⟩, h1⟩, h2⟩, h3⟩ := h
      exact s_if ((chk_ok c _ g.toGood h1).t v t) (chkSs_ok g a _ h2) (chkSs_ok g b _ h3)
    · cases h
  | .whl c b, st, h => by
    unfold chkS at h
    split at h
    · simp only [Bool.and_eq_true] at h
      obtain ⟨⟨⟨v, t⟩, h1⟩, h2⟩ := h
      exact s_while g.own ((chk_ok c _ g.toGood h1).t v t) (chkSs_ok g b _ h2)
    · cases h
  | .for_ t it b, st, h => by
    unfold chkS at h
    split at h
    · rename_i tg it' b' pos
      simp only [Bool.and_eq_true] at h
      obtain ⟨⟨⟨⟨hi, hn⟩, h1⟩, h2⟩, h3⟩ := h
      have hn : noTup it = true ∨ ∃ es k p, tg = .Tuple es k p := by
        rw [Bool.or_eq_true] at hn
        rcases hn with hn | hn
        · exact .inl hn
        · right
          split at hn
          · exact ⟨_, _, _, rfl⟩
          · cases hn
      exact s_for g.own g.calm ((chk_ok it _ g.toGood h2).i hi tg hn) (tg_ok g.calm (chkTg_ok g.toGood t tg h1)) (chkSs_ok g b _ h3)
    · cases h
  | .ret e, st, h => by
    unfold chkS at h
    split at h
    · simp only [Bool.and_eq_true] at h
      exact s_ret ((chk_ok e _ g.toGood h.2).v h.1)
    · cases h
  | .retN, st, h => by
    unfold chkS at h
    split at h
    · exact s_retN
    · cases h
  | .pas, st, h => by
    unfold chkS at h
    split at h
    · exact s_pass
    · cases h
  | .brk, st, h => by
    unfold chkS at h
    split at h
    · exact s_brk
    · cases h
  | .cnt, st, h => by
    unfold chkS at h
    split at h
    · exact s_cnt
    · cases h
  | .lock i s, st, h => by
    unfold chkS at h
    exact s_lock (chkS_ok g s st h)
theorem chkSs_ok (g : GoodS Γ N sc C G k X) : ∀ (x : List Sm) (st : List Stmt), chkSs Γ N sc x st = true → PSs X st (TSd X.K (sdns C G x))
  | [], sts, h => by
    unfold chkSs at h
    split at h
    · exact ss_nil
    · cases h
  | s :: ss, sts, h => by
    unfold chkSs at h
    split at h
    · cases h
    · rw [Bool.and_eq_true] at h
      exact ss_cons (chkS_ok g s _ h.1) (chkSs_ok g ss _ h.2)
end
theorem start_rel {K : PySem.W.Frag} {α : List Addr} {H : Hp} {ds : List D} {vs : List V} (r : RelDs K α H ds vs) : RelS K α H (startD N ds) (L2.start N vs) := by
  have hl := r.length
  refine ⟨by unfold startD L2.start; simp [hl], fun i d e => ?_⟩
  unfold startD at e
  by_cases hi : i < ds.length
  · rw [List.getElem?_append_left (by simpa using hi), List.getElem?_map] at e
    cases e1 : ds[i]? with
    | none => rw [e1] at e; cases e
    | some d1 =>
      rw [e1] at e
      cases e
      obtain ⟨v, e2, rv⟩ := r.get e1
      refine ⟨v, ?_, rv⟩
      unfold L2.start
      rw [List.getElem?_append_left (by simpa [hl] using hi), List.getElem?_map, e2]
      rfl
  · rw [List.getElem?_append_right (by simpa using hi), List.getElem?_replicate] at e
    split at e <;> cases e
section
variable {K : PySem.W.Frag} {α β : List Addr} {H : Hp}
mutual
theorem RelD.under : ∀ (d : D) (v : V), d.low α.length = true → RelD K (α ++ β) H d v → RelD K α H d v
  | .non, v, _, h => h
  | .bl b, v, _, h => h
  | .int i, v, _, h => h
  | .str s, v, _, h => h
  | .tup xs, v, n, h => by
    obtain ⟨a, vs, e, q, hx⟩ := h
    exact ⟨a, vs, e, q, RelDs.under xs vs n hx⟩
  | .obj m, v, n, h => by
    obtain ⟨a, e, ev⟩ := h
    have n : decide (m < α.length) = true := n
    rw [List.getElem?_append_left (of_decide_eq_true n)] at e
    exact ⟨a, e, ev⟩
  | .ro xs, v, n, h => by
    obtain ⟨a, vs, e, q, hx⟩ := h
    exact ⟨a, vs, e, q, RelDs.under xs vs n hx⟩
theorem RelDs.under : ∀ (d : List D) (v : List V), D.lows α.length d = true → RelDs K (α ++ β) H d v → RelDs K α H d v
  | [], v, _, h => h
  | d :: ds, v, n, h => by
    obtain ⟨x, vr, e, h1, h2⟩ := h
    have n : (d.low α.length && D.lows α.length ds) = true := n
    rw [Bool.and_eq_true] at n
    exact ⟨x, vr, e, RelD.under d x n.1 h1, RelDs.under ds vr n.2 h2⟩
end
theorem RelKK.under : ∀ (l : List (DK × D)) (l' : List (Key × V)), (l.all fun p => p.2.low α.length) = true → RelKK K (α ++ β) H l l' → RelKK K α H l l'
  | [], _, _, h => h
  | (k, d) :: r, _, n, h => by
    obtain ⟨v, lr, e, h1, h2⟩ := h
    rw [List.all_cons, Bool.and_eq_true] at n
    exact ⟨v, lr, e, RelD.under d v n.1 h1, RelKK.under r lr n.2 h2⟩
theorem RelKT.under : ∀ (l : List (List DK × D)) (l' : List (List Key × V)), (l.all fun p => p.2.low α.length) = true → RelKT K (α ++ β) H l l' → RelKT K α H l l'
  | [], _, _, h => h
  | (k, d) :: r, _, n, h => by
    obtain ⟨v, lr, e, h1, h2⟩ := h
    rw [List.all_cons, Bool.and_eq_true] at n
    exact ⟨v, lr, e, RelD.under d v n.1 h1, RelKT.under r lr n.2 h2⟩
theorem RelO.under {a : Addr} {o : O} (n : o.low α.length = true) (h : RelO K (α ++ β) H a o) : RelO K α H a o := by
  cases o with
  | lst xs => obtain ⟨vs, e, r⟩ := h; exact ⟨vs, e, RelDs.under _ _ n r⟩
  | dK kvs => obtain ⟨vs, e, r⟩ := h; exact ⟨vs, e, RelKK.under _ _ n r⟩
  | dT kvs => obtain ⟨vs, e, r⟩ := h; exact ⟨vs, e, RelKT.under _ _ n r⟩
  | lkK kvs => obtain ⟨o, vs, e, r⟩ := h; exact ⟨o, vs, e, RelKK.under _ _ n r⟩
  | lkT kvs => obtain ⟨o, vs, e, r⟩ := h; exact ⟨o, vs, e, RelKT.under _ _ n r⟩
end
theorem Rl.elder {K : PySem.W.Frag} {α β : List Addr} {hd h : Hd} {H H' : Hp} (R0 : Rl K α hd H) (R' : Rl K (α ++ β) h H') (e : Elder hd h) : Rl K α (h.take hd.length) H' := by
  have hl : hd.length ≤ h.length := by
    have := R'.len
    rw [List.length_append, R0.len] at this
    omega
  refine ⟨by rw [List.length_take, R0.len]; omega, R0.nd, fun n o a h1 h2 => ?_⟩
  have hn : n < hd.length := by
    have := (List.getElem?_eq_some_iff.mp h2).1
    rw [R0.len] at this
    exact this
  rw [List.getElem?_take_of_lt hn] at h1
  have r := R'.ob n o a h1 (by rw [List.getElem?_append_left (List.getElem?_eq_some_iff.mp h2).1]; exact h2)
  rcases e n o hn h1 with z | z
  · exact (R0.ob n o a z h2).cut r
  · exact r.under (by rw [R0.len]; exact z)
theorem gc_back {K : PySem.W.Frag} {α : List Addr} {hd : Hd} {H : Hp} {r : R W} {Q : V → Hp → Prop} (R0 : Rl K α hd H) (h : PoW K α H (gc hd r) Q) : PoW K α H r Q := by
  cases r with
  | ok w h1 =>
    simp only [gc] at h
    split at h
    · rename_i el
      intro α' H' v g R' rw n
      obtain ⟨β, rfl, hβ⟩ := g.pre
      have R1 := Rl.elder R0 R' el
      have g1 : Gr α H α H' := ⟨⟨[], by simp, by simp⟩, g.fr, g.fz⟩
      have fin : ∀ {w' : W}, PoW K α H (.ok w' (h1.take hd.length)) Q → RelW K α H' w' v → NewW H w' v → Q v H' := fun q r n => q α H' v g1 R1 r n
      have out : ∀ {a}, a ∉ α ++ β → a ∉ α := fun z z2 => z (List.mem_append_left _ z2)
      have len : α.length = hd.length := R0.len
      cases w with
      | l xs =>
        simp only [gcW] at h
        split at h
        · rename_i c
          obtain ⟨a, vs, e, ha, hn, hx⟩ := rw
          exact fin h ⟨a, vs, e, ha, out hn, RelDs.under xs vs (by rw [len]; exact c) hx⟩ n
        · exact h _ H' v g R' rw n
      | v d =>
        have plain : (if d.low hd.length = true then R.ok (W.v d) (h1.take hd.length) else R.ok (W.v d) h1) = gcW hd.length (.v d) h1 → Q v H' := fun e => by
          rw [← e] at h
          split at h
          · rename_i c
            exact fin h (RelD.under d v (by rw [len]; exact c) rw) trivial
          · exact h _ H' v g R' rw n
        cases d with
        | obj m =>
          simp only [gcW] at h
          split at h
          · rename_i c
            exact fin h (RelD.under (K := K) (H := H') (.obj m) v (by rw [len]; exact decide_eq_true c) rw) trivial
          · rename_i nc
            obtain ⟨a, ea, ev⟩ := rw
            have hb : a ∈ β := by
              rw [List.getElem?_append_right (by omega)] at ea
              exact List.mem_of_getElem? ea
            obtain ⟨hna, hno⟩ := hβ a hb
            split at h
            · rename_i xs ho
              split at h
              · rename_i c
                obtain ⟨vs, e2, hx⟩ := R'.ob m _ a ho ea
                exact fin h ⟨a, vs, ev, e2, hno, RelDs.under xs vs (by rw [len]; exact c) hx⟩ fun b e => by
                  rw [ev] at e
                  cases e
                  exact hna
              · exact h _ H' v g R' ⟨a, ea, ev⟩ n
            · rename_i o _ ho
              split at h
              · rename_i c
                have ro := (R'.ob m o a ho ea).under (α := α) (by rw [len]; exact c)
                have R2 := R1.join hno ro
                refine h (α ++ [a]) H' v (g1.join hna hno) R2 ⟨a, ?_, ev⟩ trivial
                rw [← len]
                simp
              · exact h _ H' v g R' ⟨a, ea, ev⟩ n
            · exact h _ H' v g R' ⟨a, ea, ev⟩ n
        | _ => exact plain rfl
    · exact h
  | ex => exact h
  | no => exact h
theorem endB_back {K : PySem.W.Frag} {α : List Addr} {H : Hp} {r : R Fl} {Q : V → Hp → Prop} (h : PoW K α H (endB r) Q) : PoS K α H r { nx := fun _ H' => Q .non H', rt := Q } := by
  cases r with
  | ok f h1 =>
    cases f with
    | nx σ => exact fun α' H' σ' g R S => h α' H' .non g R rfl trivial
    | rt w => exact h
    | bk σ => exact h.elim
    | ct σ => exact h.elim
  | ex => exact h.elim
  | no => exact h.elim
theorem fnD {P : Program} {w : World} {K : PySem.W.Frag} {mg : Str → Option Value} {base : Heap} {F : List Fn} {f : Nat} {fn : Fn} {x qual : Str} {st : Stmt} {a : Addr} {fd : FuncData} {ps : List Str}
    (hf : F[f]? = some fn) (Fu : Fun K x qual st a fd) (S : FnScope fn.N ps (defScope st)) (hp : ps.length = fn.np)
    (hc : chkSs Γ fn.N (defScope st) fn.body (defBody st) = true)
    (g : ∀ X : Cx, X.prog = P → X.w = w → X.K = K → X.mg = mg → X.base = base → GOk Γ (run F G k) G k X) :
    FnOk P w K mg base CX0 (k + 1) a fd ps (spD K fn.np (run F G (k + 1) f)) := by
  refine Fun.ok Fu S (fun vs H Q E sp => ?_) fun cdv A outer s H vs Q E hr sp => ?_
  · obtain ⟨α, hd, ds, R, r, hl, _⟩ := sp
    rw [r.length, hl, hp]
  · refine ⟨TSd K (sdns (run F G k) G fn.body), chkSs_ok ⟨⟨g _ rfl rfl rfl rfl rfl, rfl, S.nd, rfl, rfl, rfl, hr, ?_⟩, PassesOwn.never⟩ fn.body _ hc, ?_⟩
    · have := hr.un
      show (A.deeper (envOfC qual (defScope st) s.heap.objs.size a cdv)).units + 200 < cLine
      omega
    · obtain ⟨α, hd, ds, R, r, hl, q⟩ := sp
      refine ⟨α, startD fn.N ds, hd, R, start_rel r, endB_back (gc_back R ?_)⟩
      have e : run F G (k + 1) f ds hd = gc hd (endB (sdns (run F G k) G fn.body (startD fn.N ds) hd)) := by
        simp only [run, hf, hl, if_true]
      rw [e] at q
      exact q
structure DefAt (K : PySem.W.Frag) (mg : Str → Option Value) (Γ : Gam) (F : List Fn) (f : Nat) (x : Str) : Prop where
  ex : ∃ (fn : Fn) (st : Stmt) (a : Addr) (fd : FuncData) (ps : List Str), Γ.fns[f]? = some (x, fn.np) ∧ F[f]? = some fn ∧ mg x = some (.ref a) ∧ L2.Fun K x x st a fd ∧ FnScope fn.N ps (defScope st) ∧ ps.length = fn.np ∧
    chkSs Γ fn.N (defScope st) fn.body (defBody st) = true ∧ Binds K fd ps []
theorem prog_ok {P : Program} {w : World} {K : PySem.W.Frag} {mg : Str → Option Value} {base : Heap} {F : List Fn}
    (hd : ∀ (f : Nat) (x : Str) (n : Nat), Γ.fns[f]? = some (x, n) → DefAt K mg Γ F f x)
    (hc : ∀ (g : Nat) (x : Str) (d : D), Γ.cns[g]? = some (x, d) → G[g]? = some d ∧ ∃ (v : V) (u : Value), mg x = some u ∧ RelV v u ∧ ∀ α H, RelD K α H d v)
    (hb : ∀ x ∈ Γ.blt, mg x = none) : ∀ (k f : Nat) (x : Str) (n : Nat), Γ.fns[f]? = some (x, n) → ∃ (a : Addr) (fd : FuncData) (ps : List Str), mg x = some (.ref a) ∧ PySem.W.keepIn K (.ref a) = true ∧ Binds K fd ps [] ∧
      FnOk P w K mg base CX0 k a fd ps (spD K n (run F G k f)) := by
  intro k
  induction k with
  | zero =>
    intro f x n hf
    obtain ⟨fn, st, a, fd, ps, e1, e2, hm, Fu, S, hp, ch, bi⟩ := (hd f x n hf).ex
    exact ⟨a, fd, ps, hm, Fu.kp, bi, ⟨fun vs H Q E sp => (by obtain ⟨_, _, _, _, _, _, q⟩ := sp; exact q.elim), fun A outer s H args us vs Q E _ _ _ _ sp => (by obtain ⟨_, _, _, _, _, _, q⟩ := sp; exact q.elim)⟩⟩
  | succ k ih =>
    intro f x n hf
    obtain ⟨fn, st, a, fd, ps, e1, e2, hm, Fu, S, hp, ch, bi⟩ := (hd f x n hf).ex
    rw [e1] at hf
    cases hf
    exact ⟨a, fd, ps, hm, Fu.kp, bi, fnD e2 Fu S hp ch fun X h1 h2 h3 h4 h5 => by
      subst h1 h2 h3 h4 h5
      exact ⟨ih, hc, hb⟩⟩
end DL
namespace DL
open PySem PySem.Spec PyProof.Rows L2

def defC (Γ : Gam) (ps : List Str) (fn : Fn) (st : Stmt) : Bool := C8.scC fn.N ps (defScope st) && decide (ps.length = fn.np) && chkSs Γ fn.N (defScope st) fn.body (defBody st)
theorem defAt_mk {K : PySem.W.Frag} {mg : Str → Option Value} {Γ : Gam} {F : List Fn} {f : Nat} {x : Str} {fn : Fn} {st : Stmt} {ps : List Str} {a : Addr} {oc kV dc pm cd ct : Value} {od an : Option Addr} {sl : Array (Option Value)}
    (hf : F[f]? = some fn) (hm : mg x = some (.ref a)) (l : K.lookup a = some ⟨oc, od, .func (PySem.W.fnOf x x (defArgs st) (defBody st) (defScope st) .none kV dc pm an cd ct), sl⟩) (c : PySem.W.codeIn K cd x = true) (kp : PySem.W.keepIn K (.ref a) = true)
    (ch : defC Γ ps fn st = true) (hΓ : Γ.fns[f]? = some (x, fn.np))
    (hb : ∀ (kV doc pm : Value) (an : Option Addr) (cdv ct : Value) (us : List Value), us.length = ps.length → bindArgs (PySem.W.fnOf x x (defArgs st) (defBody st) (defScope st) .none kV doc pm an cdv ct) ⟨us, []⟩ = pure (ps.zip us)) : DefAt K mg Γ F f x := by
  unfold defC at ch
  simp only [Bool.and_eq_true] at ch
  have Fu := fun_mk (st := st) l c kp
  exact ⟨fn, st, a, _, ps, hΓ, hf, hm, Fu, C8.fnScope_by ch.1.1, of_decide_eq_true ch.1.2, ch.2, Fu.binds hb⟩
theorem law_fn {P : Program} {w : World} {K : PySem.W.Frag} {mg : Str → Option Value} {base : Heap} {Γ : Gam} {F : List Fn} {G : List D} {k f : Nat} {x y : Str} {fn : Fn} {st : Stmt} {a : Addr} {oc kV dc pm cd ct : Value} {od an : Option Addr} {sl : Array (Option Value)}
    (hd : ∀ (f : Nat) (x : Str) (n : Nat), Γ.fns[f]? = some (x, n) → DefAt K mg Γ F f x)
    (hc : ∀ (g : Nat) (x : Str) (d : D), Γ.cns[g]? = some (x, d) → G[g]? = some d ∧ ∃ (v : V) (u : Value), mg x = some u ∧ RelV v u ∧ ∀ α H, RelD K α H d v)
    (hb : ∀ x ∈ Γ.blt, mg x = none)
    (hf : F[f]? = some fn) (l : K.lookup a = some ⟨oc, od, .func (PySem.W.fnOf x x (defArgs st) (defBody st) (defScope st) .none kV dc pm an cd ct), sl⟩) (c : PySem.W.codeIn K cd x = true) (kp : PySem.W.keepIn K (.ref a) = true)
    (ch : defC Γ [y] fn st = true) : FnOk P w K mg base CX0 (k + 1) a (PySem.W.fnOf x x (defArgs st) (defBody st) (defScope st) .none kV dc pm an cd ct) [y] (spD K 1 (run F G (k + 1) f)) := by
  unfold defC at ch
  simp only [Bool.and_eq_true, decide_eq_true_eq] at ch
  have e := ch.1.2
  have q := fnD (G := G) (k := k) (P := P) (w := w) (mg := mg) (base := base) hf (fun_mk (st := st) l c kp) (C8.fnScope_by ch.1.1) e ch.2 fun X h1 h2 h3 h4 h5 => by
    subst h1 h2 h3 h4 h5
    exact ⟨prog_ok hd hc hb k, hc, hb⟩
  have e : 1 = fn.np := e
  rw [← e] at q
  exact q
theorem law_walk {l : PySem.W.OpenLaw} {q : Program} {loose : List Str} {XP : (Str → Option Value) → Heap → Prop} {YP : World → Heap → Prop} {d : DefRec} {K : Params → PySem.W.Frag} {F : List Fn} {G : List D} {k f : Nat} {x : Str} (hn : l.most = some 63) (hdf : d.params.defaults = [])
    (hY : ∀ (w : World) (h : Heap), YP w h → (K w.params).In h) (hr : Room k callerA)
    (FF : ∀ (w : World) (mg : Str → Option Value) (fa : Addr) (h : Heap), (K w.params).In h → h.Ns mainGlobals mg → mg d.name = some (.ref fa) →
      ∃ fd : FuncData, (∀ (s : Shared) (u : Value), BindsTo s fd ⟨[u], []⟩ [(x, u)]) ∧ ∀ base : Heap, (K w.params).In base → base.Ns mainGlobals mg → FnOk l.prog w (K w.params) mg base CX0 k fa fd [x] (spD (K w.params) 1 (run F G k f)))
    (law : ∀ ns : List Int, ns.length ≤ 63 → ∃ h, run F G k f [.ro (ns.map .int)] [] = .ok (.v (.bl true)) h) :
    PySem.W.WalkO q loose XP YP l.row.toRowW d [] (fun f vs => PySem.call f vs) :=
  L2.walk_of (n := 63) (k := k) (x := x) (CX := fun _ => CX0) (sp := fun w => spD (K w.params) 1 (run F G k f)) hn (by decide) hdf hr hY FF (fun w H a ns hl hO hS => by
    refine ⟨[], [], [.ro (ns.map .int)], ⟨rfl, List.nodup_nil, fun n o a e => by cases e⟩, ⟨_, [], rfl, ⟨a, _, rfl, ?_, relInts ns⟩, rfl⟩, rfl, ?_⟩
    · rcases hS with (h | ⟨o, h⟩) | h
      · rcases hO a with z | ⟨o, us, z⟩
        · rw [z] at h; cases h
        · rw [z] at h; cases h
      · exact .inl ⟨o, h⟩
      · exact .inr h
    · obtain ⟨h, e⟩ := law ns hl
      rw [e]
      exact fun _ _ v _ _ r _ => r) fun _ _ _ _ _ z => z
end DL
namespace DL
open PySem PySem.Spec PyProof.Rows L2

def Ok {A : Type} (r : R A) (P : A → Hd → Prop) : Prop := ∃ a h, r = .ok a h ∧ P a h
theorem Ok.eq {A : Type} {r : R A} {P : A → Hd → Prop} {a : A} {h : Hd} (e : r = .ok a h) (q : P a h) : Ok r P := ⟨a, h, e, q⟩
theorem Ok.mono {A : Type} {r : R A} {P Q : A → Hd → Prop} (k : Ok r P) (m : ∀ a h, P a h → Q a h) : Ok r Q := let ⟨a, h, e, p⟩ := k; ⟨a, h, e, m a h p⟩
theorem Ok.bind {A B : Type} {r : R A} {f : A → Hd → R B} {Q : B → Hd → Prop} (k : Ok r fun a h => Ok (f a h) Q) : Ok (r.bind f) Q := by
  obtain ⟨a, h, e, b, h', e', q⟩ := k
  exact ⟨b, h', by rw [e]; exact e', q⟩
section
variable {C : Cls} {G : List D} {σ : Sd} {h : Hd} {Q : Fl → Hd → Prop} {s : Sm} {ss : List Sm}
def Thn (C : Cls) (G : List D) (ss : List Sm) (Q : Fl → Hd → Prop) : Fl → Hd → Prop := fun r h => match r with
  | .nx σ => Ok (sdns C G ss σ h) Q
  | r => Q r h
theorem Ok.stp (k : Ok (sdn C G s σ h) (Thn C G ss Q)) : Ok (sdns C G (s :: ss) σ h) Q := by
  obtain ⟨r, h1, e, q⟩ := k
  have e2 : sdns C G (s :: ss) σ h = sCons (sdn C G s) (sdns C G ss) σ h := rfl
  rw [e2]
  unfold sCons
  rw [e]
  cases r with
  | nx σ' => exact q
  | rt w => exact ⟨_, _, rfl, q⟩
  | bk σ' => exact ⟨_, _, rfl, q⟩
  | ct σ' => exact ⟨_, _, rfl, q⟩
theorem Ok.nx {σ' : Sd} {h1 : Hd} (e : sdn C G s σ h = .ok (.nx σ') h1) (k : Ok (sdns C G ss σ' h1) Q) : Ok (sdns C G (s :: ss) σ h) Q := .stp (.eq e k)
theorem Ok.nil (q : Q (.nx σ) h) : Ok (sdns C G [] σ h) Q := .eq (a := .nx σ) rfl q
theorem Ok.ret {e : Ex} {w : W} {h1 : Hd} (ee : (dn C G e).v σ h = .ok w h1) (q : Q (.rt w) h1) : Ok (sdns C G (.ret e :: ss) σ h) Q := by
  refine .stp (.eq (a := .rt w) (h := h1) ?_ q)
  show sRet (dn C G e).v σ h = _
  unfold sRet
  rw [ee]
  rfl
theorem Ok.app {a : List Sm} (k : Ok (sdns C G (a ++ ss) σ h) Q) : Ok (sdns C G a σ h) (Thn C G ss Q) := by
  induction a generalizing σ h with
  | nil => exact .nil k
  | cons s a ih =>
    obtain ⟨r, h1, e, q⟩ := k
    have e2 : sdns C G (s :: a ++ ss) σ h = sCons (sdn C G s) (sdns C G (a ++ ss)) σ h := rfl
    rw [e2] at e
    unfold sCons at e
    cases es : sdn C G s σ h with
    | ok r2 h2 =>
      rw [es] at e
      refine .stp (.eq es ?_)
      cases r2 with
      | nx σ' => exact ih ⟨r, h1, e, q⟩
      | rt w => cases e; exact q
      | bk σ' => cases e; exact q
      | ct σ' => cases e; exact q
    | ex => rw [es] at e; cases e
    | no => rw [es] at e; cases e
theorem Ok.if_ {c : Ex} {a b : List Sm} {t : Bool} {h1 : Hd} (e : (dn C G c).t σ h = .ok t h1) (kt : t = true → Ok (sdns C G (a ++ ss) σ h1) Q) (kf : t = false → Ok (sdns C G (b ++ ss) σ h1) Q) : Ok (sdns C G (.ite c a b :: ss) σ h) Q := by
  refine .stp ?_
  show Ok (sIf (dn C G c).t (sdns C G a) (sdns C G b) σ h) _
  unfold sIf
  rw [e]
  cases t with
  | true => exact .app (kt rfl)
  | false => exact .app (kf rfl)
theorem Ok.ifT {c : Ex} {a b : List Sm} {h1 : Hd} (e : (dn C G c).t σ h = .ok true h1) (k : Ok (sdns C G (a ++ ss) σ h1) Q) : Ok (sdns C G (.ite c a b :: ss) σ h) Q := .if_ e (fun _ => k) fun z => by cases z
theorem Ok.ifF {c : Ex} {a b : List Sm} {h1 : Hd} (e : (dn C G c).t σ h = .ok false h1) (k : Ok (sdns C G (b ++ ss) σ h1) Q) : Ok (sdns C G (.ite c a b :: ss) σ h) Q := .if_ e (fun z => by cases z) fun _ => k
end
def lsrc (n : Nat) : Src := .re fun i h => match h[n]? with
  | some (.lst xs) => some xs[i]?
  | _ => none
theorem src_obj {n : Nat} {h : Hd} {xs : List D} (e : h[n]? = some (.lst xs)) : (W.v (.obj n)).src h = some (lsrc n) := by
  simp only [W.src, e]
  rfl
def Walks (s : Src) (xs : List D) (ok : Hd → Prop) : Prop := match s with
  | .fx ys => ys = xs
  | .re g => xs.length < FU ∧ ∀ i h, ok h → g i h = some xs[i]?
theorem Walks.fx (xs : List D) : Walks (.fx xs) xs fun _ => True := rfl
theorem Walks.lst (n : Nat) {xs : List D} (hz : xs.length < FU) : Walks (lsrc n) xs fun h => h[n]? = some (.lst xs) := ⟨hz, fun i h e => by simp only [e]⟩
section
variable {Q : Fl → Hd → Prop}
def Trn (Q : Fl → Hd → Prop) (N : Sd → Hd → Prop) : Fl → Hd → Prop := fun r h => match r with
  | .nx σ => N σ h
  | .ct σ => N σ h
  | .bk σ => Q (.nx σ) h
  | .rt w => Q (.rt w) h
theorem forS_ok {s : Src} {xs : List D} {ok : Hd → Prop} {b : FT} {σ : Sd} {h : Hd} (I : Nat → Sd → Hd → Prop) (w : Walks s xs ok) (h0 : I 0 σ h) (hok : ∀ i σ h, I i σ h → ok h)
    (stp : ∀ i d σ h, xs[i]? = some d → I i σ h → Ok (b d σ h) (Trn Q (I (i + 1)))) (fin : ∀ σ h, I xs.length σ h → Q (.nx σ) h) : Ok (forS s b σ h) Q := by
  have re : ∀ (g : Nat → Hd → Option (Option D)) (n i m : Nat) (σ : Sd) (h : Hd), (∀ i h, ok h → g i h = some xs[i]?) → xs.length - i = n → i ≤ xs.length → n < m → I i σ h → Ok (forRe g b m i σ h) Q := by
    intro g n
    induction n with
    | zero =>
      intro i m σ h hg hn hi hm hI
      cases m with
      | zero => omega
      | succ m =>
        have e : i = xs.length := by omega
        subst e
        unfold forRe
        rw [hg _ _ (hok _ _ _ hI), List.getElem?_eq_none (Nat.le_refl _)]
        exact ⟨_, _, rfl, fin _ _ hI⟩
    | succ n ih =>
      intro i m σ h hg hn hi hm hI
      cases m with
      | zero => omega
      | succ m =>
        have hl : i < xs.length := by omega
        unfold forRe
        rw [hg _ _ (hok _ _ _ hI), List.getElem?_eq_getElem hl]
        refine Ok.bind ((stp i _ σ h (List.getElem?_eq_getElem hl) hI).mono fun r h' q => ?_)
        cases r with
        | nx σ' => exact ih (i + 1) m σ' h' hg (by omega) (by omega) (by omega) q
        | ct σ' => exact ih (i + 1) m σ' h' hg (by omega) (by omega) (by omega) q
        | bk σ' => exact ⟨_, _, rfl, q⟩
        | rt w => exact ⟨_, _, rfl, q⟩
  cases s with
  | fx ys =>
    have e : ys = xs := w
    subst e
    show Ok (forFx b ys σ h) Q
    have q := re (fun i _ => some ys[i]?) (ys.length - 0) 0 (ys.length - 0 + 1) σ h (fun _ _ _ => rfl) rfl (Nat.zero_le _) (Nat.lt_succ_self _) h0
    rw [forFx_re b ys 0 σ h (Nat.zero_le _)] at q
    exact q
  | re g => exact re g (xs.length - 0) 0 FU σ h w.2 rfl (Nat.zero_le _) (by have := w.1; omega) h0
theorem Ok.for_ {C : Cls} {G : List D} {t : Tg} {it : Ex} {b ss : List Sm} {σ : Sd} {h h1 : Hd} {s : Src} {xs : List D} {ok : Hd → Prop} (I : Nat → Sd → Hd → Prop) (e : (dn C G it).i σ h = .ok s h1) (w : Walks s xs ok) (h0 : I 0 σ h1) (hok : ∀ i σ h, I i σ h → ok h)
    (stp : ∀ i d σ h, xs[i]? = some d → I i σ h → ∃ σ', t.put d σ = some σ' ∧ Ok (sdns C G b σ' h) (Trn (Thn C G ss Q) (I (i + 1)))) (fin : ∀ σ h, I xs.length σ h → Ok (sdns C G ss σ h) Q) : Ok (sdns C G (.for_ t it b :: ss) σ h) Q := by
  refine .stp ?_
  show Ok (sFor (dn C G it).i t (sdns C G b) σ h) _
  unfold sFor
  rw [e]
  refine forS_ok I w h0 hok (fun i d σ h hd hI => ?_) fin
  obtain ⟨σ', ep, k⟩ := stp i d σ h hd hI
  simp only [turnS, ep]
  exact k
theorem whileF_ok {c : FB} {b : FSt} (I : Nat → Sd → Hd → Prop)
    (stp : ∀ n σ h, I n σ h → Ok (c σ h) fun t h1 => if t = true then Ok (b σ h1) (Trn Q fun σ' h' => ∃ m, m < n ∧ I m σ' h') else Q (.nx σ) h1) :
    ∀ (m n : Nat) (σ : Sd) (h : Hd), n < m → I n σ h → Ok (whileF c b m σ h) Q := by
  intro m
  induction m with
  | zero => intro n σ h hn _; omega
  | succ m ih =>
    intro n σ h hn hI
    unfold whileF
    refine Ok.bind ((stp n σ h hI).mono fun t h1 q => ?_)
    cases t with
    | false => exact ⟨_, _, rfl, q⟩
    | true =>
      refine Ok.bind (Ok.mono (show Ok (b σ h1) _ from q) fun r h' q => ?_)
      cases r with
      | nx σ' => obtain ⟨j, hj, hI⟩ := q; exact ih j σ' h' (by omega) hI
      | ct σ' => obtain ⟨j, hj, hI⟩ := q; exact ih j σ' h' (by omega) hI
      | bk σ' => exact ⟨_, _, rfl, q⟩
      | rt w => exact ⟨_, _, rfl, q⟩
theorem Ok.whl {C : Cls} {G : List D} {c : Ex} {b ss : List Sm} {σ : Sd} {h : Hd} (n : Nat) (hn : n < FU) (I : Nat → Sd → Hd → Prop) (h0 : I n σ h)
    (stp : ∀ n σ h, I n σ h → ∃ t h1, (dn C G c).t σ h = .ok t h1 ∧ (t = true → Ok (sdns C G b σ h1) (Trn (Thn C G ss Q) fun σ' h' => ∃ m, m < n ∧ I m σ' h')) ∧ (t = false → Ok (sdns C G ss σ h1) Q)) : Ok (sdns C G (.whl c b :: ss) σ h) Q := by
  refine .stp ?_
  show Ok (sWhile (dn C G c).t (sdns C G b) σ h) _
  refine whileF_ok I (fun n σ h hI => ?_) FU n σ h hn h0
  obtain ⟨t, h1, e, kt, kf⟩ := stp n σ h hI
  refine ⟨t, h1, e, ?_⟩
  cases t with
  | true => exact kt rfl
  | false => exact kf rfl
end
theorem compS_ok {s : Src} {xs : List D} {ok : Hd → Prop} {b : FC} {h : Hd} (I : Nat → List D → Hd → Prop) (w : Walks s xs ok) (h0 : I 0 [] h) (hok : ∀ i ys h, I i ys h → ok h)
    (stp : ∀ i d ys h, xs[i]? = some d → I i ys h → Ok (b d h) fun o h' => I (i + 1) (ys ++ o.toList) h') : Ok (compS s b h) (I xs.length) := by
  have re : ∀ (g : Nat → Hd → Option (Option D)) (n i m : Nat) (acc : List D) (h : Hd), (∀ i h, ok h → g i h = some xs[i]?) → xs.length - i = n → i ≤ xs.length → n < m → I i acc h → Ok (compRe g b m i h) fun r h' => I xs.length (acc ++ r) h' := by
    intro g n
    induction n with
    | zero =>
      intro i m acc h hg hn hi hm hI
      cases m with
      | zero => omega
      | succ m =>
        have e : i = xs.length := by omega
        subst e
        unfold compRe
        rw [hg _ _ (hok _ _ _ hI), List.getElem?_eq_none (Nat.le_refl _)]
        exact ⟨[], h, rfl, by show I xs.length (acc ++ []) h; rw [List.append_nil]; exact hI⟩
    | succ n ih =>
      intro i m acc h hg hn hi hm hI
      cases m with
      | zero => omega
      | succ m =>
        have hl : i < xs.length := by omega
        unfold compRe
        rw [hg _ _ (hok _ _ _ hI), List.getElem?_eq_getElem hl]
        refine Ok.bind ((stp i _ acc h (List.getElem?_eq_getElem hl) hI).mono fun o h' q => ?_)
        refine Ok.bind ((ih (i + 1) m _ h' hg (by omega) (by omega) (by omega) q).mono fun r h2 q2 => ⟨_, _, rfl, ?_⟩)
        cases o with
        | none => simpa using q2
        | some y => simpa using q2
  cases s with
  | fx ys =>
    have e : ys = xs := w
    subst e
    show Ok (compFx b ys h) _
    have q := re (fun i _ => some ys[i]?) (ys.length - 0) 0 (ys.length - 0 + 1) [] h (fun _ _ _ => rfl) rfl (Nat.zero_le _) (Nat.lt_succ_self _) h0
    rw [compFx_re b ys 0 h (Nat.zero_le _)] at q
    exact q
  | re g => exact re g (xs.length - 0) 0 FU [] h w.2 rfl (Nat.zero_le _) (by have := w.1; omega) h0
theorem lc_ok {C : Cls} {G : List D} {elt it : Ex} {tg : Tg} {c : Option Ex} {own : List Nat} {σ : Sd} {h h1 : Hd} {s : Src} {xs : List D} {ok : Hd → Prop} {Q : List D → Hd → Prop} (I : Nat → List D → Hd → Prop) (e : (dn C G it).i σ h = .ok s h1) (w : Walks s xs ok) (h0 : I 0 [] h1) (hok : ∀ i ys h, I i ys h → ok h)
    (stp : ∀ i d ys h, xs[i]? = some d → I i ys h → ∃ σ', tg.put d (wipeD σ own) = some σ' ∧ Ok (dnc C G c σ' h) fun t h' => if t = true then Ok (vSet (dn C G elt).v σ' h') (fun w h2 => ∃ y, w = .v y ∧ I (i + 1) (ys ++ [y]) h2) else I (i + 1) ys h')
    (fin : ∀ ys h, I xs.length ys h → ys.length ≤ sizeLine ∧ Q ys h) : ∃ ys h2, (dn C G (.lc elt tg it c own)).v σ h = .ok (.l ys) h2 ∧ Q ys h2 := by
  have q : Ok (compS s (turnF tg (dnc C G c) (dn C G elt).v own σ) h1) (I xs.length) := by
    refine compS_ok I w h0 hok fun i d ys h hd hI => ?_
    obtain ⟨σ', ep, k⟩ := stp i d ys h hd hI
    simp only [turnF, ep]
    refine Ok.bind (k.mono fun t h' q => ?_)
    cases t with
    | false => exact ⟨_, _, rfl, by simpa using q⟩
    | true =>
      refine Ok.bind (Ok.mono (show Ok (vSet (dn C G elt).v σ' h') _ from q) fun w h2 q2 => ?_)
      obtain ⟨y, rfl, hI⟩ := q2
      exact ⟨_, _, rfl, hI⟩
  obtain ⟨ys, h2, eq, hI⟩ := q
  obtain ⟨hz, hq⟩ := fin ys h2 hI
  refine ⟨ys, h2, ?_, hq⟩
  show vLc (dn C G it).i tg (dnc C G c) (dn C G elt).v own σ h = _
  unfold vLc
  rw [e]
  simp only [R.bind_ok, eq, if_pos hz]
theorem run_eq {F : List Fn} {G : List D} {k f : Nat} {fn : Fn} {ds : List D} {h : Hd} (e : F[f]? = some fn) (hl : ds.length = fn.np) : run F G (k + 1) f ds h = gc h (endB (sdns (run F G k) G fn.body (startD fn.N ds) h)) := by
  simp only [run, e, hl, if_true]
def Fin (h0 : Hd) (P : W → Hd → Prop) : Fl → Hd → Prop := fun r h => match r with
  | .rt w => Ok (gc h0 (.ok w h)) P
  | .nx _ => Ok (gc h0 (.ok (.v .non) h)) P
  | _ => False
theorem run_ok {F : List Fn} {G : List D} {k f : Nat} {fn : Fn} {ds : List D} {h : Hd} {P : W → Hd → Prop} (e : F[f]? = some fn) (hl : ds.length = fn.np) (b : Ok (sdns (run F G k) G fn.body (startD fn.N ds) h) (Fin h P)) : Ok (run F G (k + 1) f ds h) P := by
  rw [run_eq e hl]
  obtain ⟨r, h1, er, q⟩ := b
  rw [er]
  cases r with
  | rt w => exact q
  | nx σ => exact q
  | bk σ => exact q.elim
  | ct σ => exact q.elim
def Eld (h h1 : Hd) : Prop := h1.length = h.length ∧ ∀ (i : Nat) (o : O), h1[i]? = some o → h[i]? = some o ∨ o.low h.length = true
theorem Eld.elder {h h1 L : Hd} (e : Eld h h1) : Elder h (h1 ++ L) := fun i o hi eo => by
  rw [List.getElem?_append_left (by rw [e.1]; exact hi)] at eo
  exact e.2 i o eo
theorem Eld.take {h h1 L : Hd} (e : Eld h h1) : (h1 ++ L).take h.length = h1 := by rw [← e.1, List.take_left']; rfl
theorem Eld.refl (h : Hd) : Eld h h := ⟨rfl, fun _ _ e => .inl e⟩
theorem Eld.trans {h h1 h2 : Hd} (a : Eld h h1) (b : Eld h1 h2) : Eld h h2 := ⟨b.1.trans a.1, fun i o e => by
  rcases b.2 i o e with z | z
  · exact a.2 i o z
  · rw [a.1] at z; exact .inr z⟩
theorem Eld.set {h : Hd} (p : Nat) {o : O} (ho : o.low h.length = true) : Eld h (h.set p o) := ⟨by simp, fun i u e => by
  by_cases hp : i = p
  · subst hp
    by_cases hl : i < h.length
    · rw [List.getElem?_set_self hl] at e
      cases e
      exact .inr ho
    · rw [List.getElem?_eq_none (by simpa using hl)] at e
      cases e
  · rw [List.getElem?_set_ne (Ne.symm hp)] at e
    exact .inl e⟩
mutual
theorem low_of {n : Nat} : ∀ {d : D}, d.noObj = true → d.low n = true
  | .non, _ => rfl
  | .bl _, _ => rfl
  | .int _, _ => rfl
  | .str _, _ => rfl
  | .obj _, h => by cases h
  | .tup xs, h => lows_of (ds := xs) h
  | .ro xs, h => lows_of (ds := xs) h
theorem lows_of {n : Nat} : ∀ {ds : List D}, D.noObjs ds = true → D.lows n ds = true
  | [], _ => rfl
  | d :: ds, h => by
    have h : (d.noObj && D.noObjs ds) = true := h
    rw [Bool.and_eq_true] at h
    show (d.low n && D.lows n ds) = true
    rw [low_of h.1, lows_of h.2]
    rfl
end
theorem gc_v {h h1 L : Hd} {d : D} (e : Eld h h1) (hd : d.noObj = true) : gc h (.ok (.v d) (h1 ++ L)) = .ok (.v d) h1 := by
  have lw : d.low h.length = true := low_of hd
  simp only [gc]
  rw [if_pos e.elder]
  cases d with
  | obj m => cases hd
  | _ => simp only [gcW, lw, if_true, e.take]
theorem gc_l {h h1 L : Hd} {xs : List D} (e : Eld h h1) (hd : D.noObjs xs = true) : gc h (.ok (.l xs) (h1 ++ L)) = .ok (.l xs) h1 := by
  simp only [gc]
  rw [if_pos e.elder]
  simp only [gcW, lows_of hd, if_true, e.take]
theorem gc_o {h h1 L : Hd} {m : Nat} {xs : List D} (e : Eld h h1) (hm : h.length ≤ m) (hx : (h1 ++ L)[m]? = some (.lst xs)) (hd : D.noObjs xs = true) : gc h (.ok (.v (.obj m)) (h1 ++ L)) = .ok (.l xs) h1 := by
  simp only [gc]
  rw [if_pos e.elder]
  simp only [gcW, if_neg (Nat.not_lt.mpr hm), hx, lows_of hd, if_true, e.take]
end DL
namespace DL
open PySem PySem.Spec PyProof.Rows L2
section
variable {C : Cls} {G : List D} {σ : Sd} {h : Hd} {i : Nat} {a b c : Ex}
@[simp] theorem ev_var {d : D} (e : σ[i]? = some (some d)) : (dn C G (.var i)).v σ h = .ok (.v d) h := by
  show vVar i σ h = _
  simp only [vVar, e]
@[simp] theorem ev_non : (dn C G .non).v σ h = .ok (.v .non) h := rfl
@[simp] theorem ev_bl {x : Bool} : (dn C G (.bl x)).v σ h = .ok (.v (.bl x)) h := rfl
@[simp] theorem ev_int {x : Int} : (dn C G (.int x)).v σ h = .ok (.v (.int x)) h := rfl
@[simp] theorem ev_str {x : List Nat} : (dn C G (.str x)).v σ h = .ok (.v (.str x)) h := rfl
@[simp] theorem ev_dk : (dn C G .dk).v σ h = .ok (.v (.obj h.length)) (h ++ [.dK []]) := rfl
@[simp] theorem ev_dt : (dn C G .dt).v σ h = .ok (.v (.obj h.length)) (h ++ [.dT []]) := rfl
def evs (C : Cls) (G : List D) : List Ex → Sd → Hd → R (List D)
  | [], _, h => .ok [] h
  | e :: es, σ, h => ((dn C G e).v σ h).bind fun w h => (w.settle h).bind fun d h => (evs C G es σ h).bind fun ds h => .ok (d :: ds) h
theorem evs_eq : ∀ es : List Ex, vSeq ((dns C G es).map (·.v)) = evs C G es
  | [] => rfl
  | e :: es => by
    funext σ h
    show (((dn C G e).v σ h).bind fun w h => (w.settle h).bind fun d h => (vSeq ((dns C G es).map (·.v)) σ h).bind fun ds h => .ok (d :: ds) h) = _
    rw [evs_eq es]
    rfl
@[simp] theorem evs_nil : evs C G [] σ h = .ok [] h := rfl
@[simp] theorem evs_cons {e : Ex} {es : List Ex} : evs C G (e :: es) σ h = ((dn C G e).v σ h).bind fun w h => (w.settle h).bind fun d h => (evs C G es σ h).bind fun ds h => .ok (d :: ds) h := rfl
@[simp] theorem ev_tup {es : List Ex} : (dn C G (.tup es)).v σ h = (evs C G es σ h).bind fun ds h => if ds.length ≤ sizeLine then .ok (.v (.tup ds)) h else .no := by
  show vTup ((dns C G es).map (·.v)) σ h = _
  unfold vTup
  rw [evs_eq]
@[simp] theorem ev_lst {es : List Ex} : (dn C G (.lst es)).v σ h = (evs C G es σ h).bind fun ds h => if ds.length ≤ sizeLine then .ok (.l ds) h else .no := by
  show vLst ((dns C G es).map (·.v)) σ h = _
  unfold vLst
  rw [evs_eq]
@[simp] theorem ev_call {f : Nat} {es : List Ex} : (dn C G (.call f es)).v σ h = (evs C G es σ h).bind fun ds h => C f ds h := by
  show vCall (C f) [] ((dns C G es).map (·.v)) σ h = _
  unfold vCall
  rw [evs_eq]
  simp only [List.append_nil]
@[simp] theorem ev_bin {op : Operator} : (dn C G (.bin op a b)).v σ h = ((dn C G a).v σ h).bind fun x h => ((dn C G b).v σ h).bind fun y h => R.ofO (binop op x y h) h := rfl
@[simp] theorem ev_neg : (dn C G (.neg a)).v σ h = ((dn C G a).v σ h).bind fun x h => R.ofO (unop .USub x) h := rfl
@[simp] theorem ev_cmp {op : CmpOp} : (dn C G (.cmp op a b)).v σ h = ((dn C G (.cmp op a b)).t σ h).bind fun b h => .ok (.v (.bl b)) h := rfl
@[simp] theorem et_cmp {op : CmpOp} : (dn C G (.cmp op a b)).t σ h = ((dn C G a).v σ h).bind fun x h => ((dn C G b).v σ h).bind fun y h => R.ofO (cmpW op x y h) h := rfl
@[simp] theorem ev_and1 : (dn C G (.and_ [a])).v σ h = (dn C G a).v σ h := rfl
@[simp] theorem ev_and {es : List Ex} : (dn C G (.and_ (a :: b :: es))).v σ h = ((dn C G a).v σ h).bind fun w h => (R.ofO (w.truth h) h).bind fun t h => if t = true then (dn C G (.and_ (b :: es))).v σ h else .ok w h := rfl
@[simp] theorem et_and1 : (dn C G (.and_ [a])).t σ h = (dn C G a).t σ h := rfl
@[simp] theorem et_and {es : List Ex} : (dn C G (.and_ (a :: b :: es))).t σ h = ((dn C G a).t σ h).bind fun t h => if t = true then (dn C G (.and_ (b :: es))).t σ h else .ok false h := rfl
@[simp] theorem ev_or1 : (dn C G (.or_ [a])).v σ h = (dn C G a).v σ h := rfl
@[simp] theorem ev_or {es : List Ex} : (dn C G (.or_ (a :: b :: es))).v σ h = ((dn C G a).v σ h).bind fun w h => (R.ofO (w.truth h) h).bind fun t h => if t = true then .ok w h else (dn C G (.or_ (b :: es))).v σ h := rfl
@[simp] theorem et_or1 : (dn C G (.or_ [a])).t σ h = (dn C G a).t σ h := rfl
@[simp] theorem et_or {es : List Ex} : (dn C G (.or_ (a :: b :: es))).t σ h = ((dn C G a).t σ h).bind fun t h => if t = true then .ok true h else (dn C G (.or_ (b :: es))).t σ h := rfl
@[simp] theorem et_not : (dn C G (.not_ a)).t σ h = ((dn C G a).t σ h).bind fun t h => .ok (!t) h := rfl
@[simp] theorem ev_not : (dn C G (.not_ a)).v σ h = ((dn C G a).v σ h).bind fun w h => R.ofO ((w.truth h).map fun b => .v (.bl !b)) h := rfl
@[simp] theorem ev_ite : (dn C G (.ite c a b)).v σ h = ((dn C G c).t σ h).bind fun t h => if t = true then (dn C G a).v σ h else (dn C G b).v σ h := rfl
@[simp] theorem ev_ix : (dn C G (.ix a b)).v σ h = ((dn C G a).v σ h).bind fun x h => ((dn C G b).v σ h).bind fun y h => R.ofO (getIx x y h) h := rfl
def evo (C : Cls) (G : List D) (o : Option Ex) : Sd → Hd → R (Option Int) := partF (dno C G o)
@[simp] theorem evo_none : evo C G none σ h = .ok none h := rfl
@[simp] theorem evo_some : evo C G (some a) σ h = ((dn C G a).v σ h).bind fun w h => match w with
      | .v (.int i) => .ok (some i) h
      | _ => .no := rfl
@[simp] theorem ev_sl {lo hi : Option Ex} : (dn C G (.sl a lo hi)).v σ h = ((dn C G a).v σ h).bind fun x h => (evo C G lo σ h).bind fun l h => (evo C G hi σ h).bind fun u h => R.ofO (getSl x l u h) h := rfl
@[simp] theorem ev_rev : (dn C G (.rev a)).v σ h = ((dn C G a).v σ h).bind fun x h => R.ofO (revSl x h) h := rfl
@[simp] theorem ev_b1 {f : B1} : (dn C G (.b1 f a)).v σ h = ((dn C G a).v σ h).bind fun x h => R.ofO (bl1 f x h) h := rfl
@[simp] theorem ev_b2 {f : B2} : (dn C G (.b2 f a b)).v σ h = ((dn C G a).v σ h).bind fun x h => ((dn C G b).v σ h).bind fun y h => R.ofO (bl2 f x y) h := rfl
@[simp] theorem ev_isi {t : Ty} : (dn C G (.isi t a)).v σ h = ((dn C G a).v σ h).bind fun x h => (R.ofO (isTy t x h) h).bind fun b h => .ok (.v (.bl b)) h := by
  show (((dn C G a).v σ h).bind fun w h => R.ofO (isTy t w h) h).bind _ = _
  cases (dn C G a).v σ h <;> rfl
@[simp] theorem ev_m0 {m : M0} : (dn C G (.m0 m a)).v σ h = ((dn C G a).v σ h).bind fun x h => mt0 m x h := rfl
@[simp] theorem ev_append : (dn C G (.m1 .append a b)).v σ h = ((dn C G a).v σ h).bind fun x h => if isL x h = true then ((dn C G b).v σ h).bind fun w h => (w.settle h).bind fun d h => mt1 .append x (.v d) h else .no := by
  show (((dn C G a).v σ h).bind fun x h => if isL x h = true then (vSet (dn C G b).v σ h).bind fun y h => mt1 .append x y h else .no) = _
  congr 1
  funext x h1
  split
  · unfold vSet
    cases (dn C G b).v σ h1 with
    | ok w h2 => cases w <;> rfl
    | ex => rfl
    | no => rfl
  · rfl
@[simp] theorem ev_extend : (dn C G (.m1 .extend a b)).v σ h = ((dn C G a).v σ h).bind fun x h => if isL x h = true then ((dn C G b).v σ h).bind fun y h => mt1 .extend x y h else .no := rfl
@[simp] theorem ev_popAt : (dn C G (.m1 .pop a b)).v σ h = ((dn C G a).v σ h).bind fun x h => if isL x h = true then ((dn C G b).v σ h).bind fun y h => mt1 .pop x y h else .no := rfl
@[simp] theorem ev_get : (dn C G (.m1 .get a b)).v σ h = ((dn C G a).v σ h).bind fun x h => if isDk x h = true then ((dn C G b).v σ h).bind fun y h => mt1 .get x y h else .no := rfl
@[simp] theorem ev_join : (dn C G (.m1 .join a b)).v σ h = ((dn C G a).v σ h).bind fun x h => if isS x h = true then ((dn C G b).v σ h).bind fun y h => mt1 .join x y h else .no := rfl
@[simp] theorem ev_count : (dn C G (.m1 .count a b)).v σ h = ((dn C G a).v σ h).bind fun w h => (w.settle h).bind fun d h => if isL (.v d) h = true then ((dn C G b).v σ h).bind fun y h => mt1 .count (.v d) y h else .no := by
  show ((vSet (dn C G a).v σ h).bind fun x h => if isL x h = true then ((dn C G b).v σ h).bind fun y h => mt1 .count x y h else .no) = _
  unfold vSet
  cases (dn C G a).v σ h with
  | ok w h2 => cases w <;> rfl
  | ex => rfl
  | no => rfl
@[simp] theorem et_var : (dn C G (.var i)).t σ h = ((dn C G (.var i)).v σ h).bind fun w h => R.ofO (w.truth h) h := rfl
@[simp] theorem et_isi {t : Ty} : (dn C G (.isi t a)).t σ h = ((dn C G (.isi t a)).v σ h).bind fun w h => R.ofO (w.truth h) h := rfl
@[simp] theorem et_call {f : Nat} {es : List Ex} : (dn C G (.call f es)).t σ h = ((dn C G (.call f es)).v σ h).bind fun w h => R.ofO (w.truth h) h := rfl
@[simp] theorem et_ix : (dn C G (.ix a b)).t σ h = ((dn C G (.ix a b)).v σ h).bind fun w h => R.ofO (w.truth h) h := rfl
@[simp] theorem ei_var : (dn C G (.var i)).i σ h = ((dn C G (.var i)).v σ h).bind fun w h => R.ofO (w.src h) h := rfl
@[simp] theorem ei_ix : (dn C G (.ix a b)).i σ h = ((dn C G (.ix a b)).v σ h).bind fun w h => R.ofO (w.src h) h := rfl
@[simp] theorem ei_call {f : Nat} {es : List Ex} : (dn C G (.call f es)).i σ h = ((dn C G (.call f es)).v σ h).bind fun w h => R.ofO (w.src h) h := rfl
@[simp] theorem ei_tup {es : List Ex} : (dn C G (.tup es)).i σ h = ((dn C G (.tup es)).v σ h).bind fun w h => R.ofO (w.src h) h := rfl
@[simp] theorem ei_rev : (dn C G (.rev a)).i σ h = ((dn C G (.rev a)).v σ h).bind fun w h => R.ofO (w.src h) h := rfl
@[simp] theorem ei_sl {lo hi : Option Ex} : (dn C G (.sl a lo hi)).i σ h = ((dn C G (.sl a lo hi)).v σ h).bind fun w h => R.ofO (w.src h) h := rfl
@[simp] theorem ei_bin {op : Operator} : (dn C G (.bin op a b)).i σ h = ((dn C G (.bin op a b)).v σ h).bind fun w h => R.ofO (w.src h) h := rfl
def rgs (lo : Int) (n : Nat) : List D := (List.range n).map fun (k : Nat) => D.int (lo + k)
@[simp] theorem ei_rng1 : (dn C G (.rng1 a)).i σ h = ((dn C G a).v σ h).bind fun w h => match w with
  | .v (.int i) => R.ofO (rngSrc 0 i) h
  | _ => .no := rfl
@[simp] theorem ei_rng2 : (dn C G (.rng2 a b)).i σ h = ((dn C G a).v σ h).bind fun w h => ((dn C G b).v σ h).bind fun w' h => match w, w' with
  | .v (.int i), .v (.int j) => R.ofO (rngSrc i j) h
  | _, _ => .no := rfl
theorem rng_src {lo hi : Int} (h1 : -1000000000 ≤ lo) (h2 : lo ≤ 1000000000) (h3 : -1000000000 ≤ hi) (h4 : hi ≤ 1000000000) : rngSrc lo hi = some (.fx (rgs lo (hi - lo).toNat)) := by
  unfold rngSrc
  rw [if_pos (by omega)]
  rfl
theorem ints_get {lo : Int} {n i : Nat} {d : D} (e : (rgs lo n)[i]? = some d) : d = .int (lo + i) ∧ i < n := by
  unfold rgs at e
  rw [List.getElem?_map] at e
  by_cases hi : i < n
  · rw [List.getElem?_range hi] at e
    cases e
    exact ⟨rfl, hi⟩
  · rw [List.getElem?_eq_none (by simpa using hi)] at e
    cases e
theorem ints_len {lo : Int} {n : Nat} : (rgs lo n).length = n := by unfold rgs; simp
@[simp] theorem sd_ex : sdn C G (.ex a) σ h = ((dn C G a).v σ h).bind fun _ h => .ok (.nx σ) h := rfl
@[simp] theorem sd_set {t : Tg} : sdn C G (.set t a) σ h = ((dn C G a).v σ h).bind fun w h => (w.settle h).bind fun d h => match t.put d σ with
    | some σ' => .ok (.nx σ') h
    | none => .no := by
  show sPut t (dn C G a).v σ h = _
  unfold sPut vSet
  cases (dn C G a).v σ h with
  | ok w h2 => cases w <;> rfl
  | ex => rfl
  | no => rfl
@[simp] theorem sd_par {is : List Nat} {es : List Ex} : sdn C G (.par is es) σ h = (evs C G es σ h).bind fun ds h => match Tg.puts (is.map .nm) ds σ with
    | some σ' => .ok (.nx σ') h
    | none => .no := by
  show sPar is ((dns C G es).map (·.v)) σ h = _
  unfold sPar
  rw [evs_eq] <;> rfl
@[simp] theorem sd_aug {op : Operator} : sdn C G (.aug i op a) σ h = (vVar i σ h).bind fun x h => ((dn C G a).v σ h).bind fun y h => (augW op x y h).bind fun w h => match w with
    | .v d => .ok (.nx (σ.set i (some d))) h
    | .l _ => .no := rfl
@[simp] theorem vVar_eq {d : D} (e : σ[i]? = some (some d)) : vVar i σ h = .ok (.v d) h := by simp only [vVar, e]
@[simp] theorem sd_sub : sdn C G (.sub a b c) σ h = ((dn C G c).v σ h).bind fun w h => (w.settle h).bind fun d h => ((dn C G a).v σ h).bind fun o h => ((dn C G b).v σ h).bind fun i h => match setIx o i d h with
      | some h' => .ok (.nx σ) h'
      | none => .no := by
  show sSub (dn C G a).v (dn C G b).v (dn C G c).v σ h = _
  unfold sSub vSet
  cases (dn C G c).v σ h with
  | ok w h2 => cases w <;> rfl
  | ex => rfl
  | no => rfl
@[simp] theorem sd_augS {op : Operator} : sdn C G (.augS a b op c) σ h = ((dn C G a).v σ h).bind fun o h => ((dn C G b).v σ h).bind fun i h => (R.ofO (getIx o i h) h).bind fun x h => ((dn C G c).v σ h).bind fun y h => (augW op x y h).bind fun w h => match w with
    | .v d => match setIx o i d h with
      | some h' => .ok (.nx σ) h'
      | none => .no
    | .l _ => .no := rfl
@[simp] theorem put_nm {d : D} : Tg.put (.nm i) d σ = some (σ.set i (some d)) := rfl
@[simp] theorem put_tp {ts : List Tg} {ds : List D} : Tg.put (.tp ts) (.tup ds) σ = Tg.puts ts ds σ := rfl
@[simp] theorem puts_nil : Tg.puts [] [] σ = some σ := rfl
@[simp] theorem puts_cons {t : Tg} {ts : List Tg} {d : D} {ds : List D} : Tg.puts (t :: ts) (d :: ds) σ = (t.put d σ).bind fun σ' => Tg.puts ts ds σ' := by
  show (match t.put d σ with
      | some σ' => Tg.puts ts ds σ'
      | none => none) = _
  cases t.put d σ <;> rfl
@[simp] theorem wipe_nil : wipeD σ [] = σ := rfl
@[simp] theorem wipe_cons {v : Nat} {vs : List Nat} : wipeD σ (v :: vs) = (wipeD σ vs).set v none := rfl
end
section
variable {h : Hd}
@[simp] theorem b_add {x y : W} : binop .Add x y h = addW x y h := rfl
@[simp] theorem b_mul {x y : W} : binop .Mult x y h = mulW x y h := rfl
@[simp] theorem add_int {i j : Int} : addW (.v (.int i)) (.v (.int j)) h = some (.v (.int (i + j))) := rfl
@[simp] theorem add_str {s t : List Nat} : addW (.v (.str s)) (.v (.str t)) h = if s.length + t.length ≤ sizeLine then some (.v (.str (s ++ t))) else none := rfl
@[simp] theorem add_tup {s t : List D} : addW (.v (.tup s)) (.v (.tup t)) h = if s.length + t.length ≤ sizeLine then some (.v (.tup (s ++ t))) else none := rfl
@[simp] theorem add_ll {s t : List D} : addW (.l s) (.l t) h = if s.length + t.length ≤ sizeLine then some (.l (s ++ t)) else none := rfl
@[simp] theorem mul_int {i j : Int} : mulW (.v (.int i)) (.v (.int j)) h = if wide i || wide j then some (.v (.int (i * j))) else none := rfl
@[simp] theorem mul_str {s : List Nat} {k : Int} : mulW (.v (.str s)) (.v (.int k)) h = if -(2 ^ 63) ≤ k ∧ k ≤ 4096 ∧ s.length ≤ 4096 then some (.v (.str (List.replicate k.toNat s).flatten)) else none := rfl
@[simp] theorem mul_tp {s : List D} {k : Int} : mulW (.v (.tup s)) (.v (.int k)) h = if -(2 ^ 63) ≤ k ∧ k ≤ 1000 ∧ s.length ≤ 1000 then some (.v (.tup (List.replicate k.toNat s).flatten)) else none := rfl
@[simp] theorem b_sub {i j : Int} : binop .Sub (.v (.int i)) (.v (.int j)) h = some (.v (.int (i - j))) := rfl
@[simp] theorem b_fdiv {i j : Int} : binop .FloorDiv (.v (.int i)) (.v (.int j)) h = if 0 < j ∧ j < 2 ^ 64 then some (.v (.int (i / j))) else none := by
  show (if 0 < j ∧ j < 2 ^ 64 then some (i / j) else none).map _ = _
  split <;> rfl
@[simp] theorem b_mod {i j : Int} : binop .Mod (.v (.int i)) (.v (.int j)) h = if 0 < j then some (.v (.int (i % j))) else none := by
  show (if 0 < j then some (i % j) else none).map _ = _
  split <;> rfl
@[simp] theorem b_pow {i j : Int} : binop .Pow (.v (.int i)) (.v (.int j)) h = if 0 ≤ j ∧ j ≤ 1000000 ∧ i.natAbs < 2 ^ 64 then some (.v (.int (i ^ j.toNat))) else none := by
  show (if 0 ≤ j ∧ j ≤ 1000000 ∧ i.natAbs < 2 ^ 64 then some (i ^ j.toNat) else none).map _ = _
  split <;> rfl
@[simp] theorem u_neg {i : Int} : unop .USub (.v (.int i)) = some (.v (.int (-i))) := rfl
@[simp] theorem c_eqi {i j : Int} : cmpW .Eq (.v (.int i)) (.v (.int j)) h = some (decide (i = j)) := rfl
@[simp] theorem c_nei {i j : Int} : cmpW .NotEq (.v (.int i)) (.v (.int j)) h = some (!decide (i = j)) := rfl
@[simp] theorem c_eqs {i j : List Nat} : cmpW .Eq (.v (.str i)) (.v (.str j)) h = some (decide (i = j)) := rfl
@[simp] theorem c_nes {i j : List Nat} : cmpW .NotEq (.v (.str i)) (.v (.str j)) h = some (!decide (i = j)) := rfl
@[simp] theorem c_lti {i j : Int} : cmpW .Lt (.v (.int i)) (.v (.int j)) h = some (decide (i < j)) := rfl
@[simp] theorem c_lei {i j : Int} : cmpW .LtE (.v (.int i)) (.v (.int j)) h = some (decide (i ≤ j)) := rfl
@[simp] theorem c_gti {i j : Int} : cmpW .Gt (.v (.int i)) (.v (.int j)) h = some (decide (j < i)) := rfl
@[simp] theorem c_gei {i j : Int} : cmpW .GtE (.v (.int i)) (.v (.int j)) h = some (decide (j ≤ i)) := rfl
@[simp] theorem ix_str {s : List Nat} {i : Int} : getIx (.v (.str s)) (.v (.int i)) h = if s.length ≤ sizeLine then (atI s i).map fun c => .v (.str [c]) else none := rfl
@[simp] theorem ix_tup {s : List D} {i : Int} : getIx (.v (.tup s)) (.v (.int i)) h = (atI s i).map .v := rfl
@[simp] theorem ix_l {s : List D} {i : Int} : getIx (.l s) (.v (.int i)) h = (atI s i).map .v := rfl
@[simp] theorem ix_ro {s : List D} {i : Int} : getIx (.v (.ro s)) (.v (.int i)) h = (atI s i).map .v := rfl
@[simp] theorem ix_obj {n : Nat} {s : List D} {i : Int} (e : h[n]? = some (.lst s)) : getIx (.v (.obj n)) (.v (.int i)) h = (atI s i).map .v := by simp only [getIx, e]
theorem ixN_pos {n : Nat} {i : Int} (h0 : 0 ≤ i) (h1 : i < n) : ixN n i = some i.toNat := by
  unfold ixN
  rw [if_pos h0, if_pos (by omega)]
theorem ixN_neg {n : Nat} {i : Int} (h0 : i < 0) (h1 : -(n : Int) ≤ i) : ixN n i = some (i + n).toNat := by
  unfold ixN
  rw [if_neg (by omega), if_pos h1]
theorem atI_pos {α : Type} {s : List α} {i : Int} (h0 : 0 ≤ i) (h1 : i < s.length) : atI s i = s[i.toNat]? := by
  unfold atI
  rw [ixN_pos h0 h1]
  rfl
theorem atI_last {α : Type} {s : List α} {x : α} : atI (s ++ [x]) (-1) = some x := by
  unfold atI
  rw [ixN_neg (by omega) (by simp <;> omega)]
  have e : ((-1 : Int) + ((s ++ [x]).length : Nat)).toNat = s.length := by simp <;> omega
  rw [e]
  simp
@[simp] theorem set_obj {n : Nat} {s : List D} {i : Int} {d : D} (e : h[n]? = some (.lst s)) : setIx (.v (.obj n)) (.v (.int i)) d h = (ixN s.length i).map fun m => h.set n (.lst (s.set m d)) := by
  simp only [setIx, e]
  cases ixN s.length i <;> rfl
@[simp] theorem len_str {x : List Nat} : bl1 .len (.v (.str x)) h = if x.length ≤ sizeLine then some (.v (.int x.length)) else none := rfl
@[simp] theorem len_tup {x : List D} : bl1 .len (.v (.tup x)) h = some (.v (.int x.length)) := rfl
@[simp] theorem len_ro {x : List D} : bl1 .len (.v (.ro x)) h = some (.v (.int x.length)) := rfl
@[simp] theorem len_l {x : List D} : bl1 .len (.l x) h = some (.v (.int x.length)) := rfl
@[simp] theorem len_obj {n : Nat} {x : List D} (e : h[n]? = some (.lst x)) : bl1 .len (.v (.obj n)) h = some (.v (.int x.length)) := by simp only [bl1, e]
@[simp] theorem tup_obj {n : Nat} {x : List D} (e : h[n]? = some (.lst x)) : bl1 .tuple (.v (.obj n)) h = some (.v (.tup x)) := by simp only [bl1, W.seq, D.items, e, Option.map_some]
@[simp] theorem tup_l {x : List D} : bl1 .tuple (.l x) h = some (.v (.tup x)) := rfl
@[simp] theorem tup_tup {x : List D} : bl1 .tuple (.v (.tup x)) h = some (.v (.tup x)) := rfl
@[simp] theorem list_obj {n : Nat} {x : List D} (e : h[n]? = some (.lst x)) : bl1 .list (.v (.obj n)) h = some (.l x) := by simp only [bl1, W.seq, D.items, e, Option.map_some]
@[simp] theorem list_l {x : List D} : bl1 .list (.l x) h = some (.l x) := rfl
@[simp] theorem list_tup {x : List D} : bl1 .list (.v (.tup x)) h = some (.l x) := rfl
@[simp] theorem int_int {i : Int} : bl1 .int (.v (.int i)) h = some (.v (.int i)) := rfl
@[simp] theorem abs_int {i : Int} : bl1 .abs (.v (.int i)) h = some (.v (.int i.natAbs)) := rfl
@[simp] theorem sum_l {x : List D} : bl1 .sum (.l x) h = (intsOf x).map fun ns => .v (.int ns.sum) := rfl
theorem intsOf_map (ns : List Int) : intsOf (ns.map .int) = some ns := by
  induction ns with
  | nil => rfl
  | cons n ns ih => simp only [List.map_cons, intsOf, ih, Option.map_some]
theorem strsOf_map (ns : List (List Nat)) : strsOf (ns.map .str) = some ns := by
  induction ns with
  | nil => rfl
  | cons n ns ih => simp only [List.map_cons, strsOf, ih, Option.map_some]
theorem sorted_strs (ns : List (List Nat)) (hz : ns.length < 64) : bl1 .sorted (.l (ns.map .str)) h = some (.l ((sortS ns).map .str)) := by
  cases ns with
  | nil => simp [bl1, W.items, intsOf, sortI, sortS]
  | cons n ns =>
    show (match intsOf ((n :: ns).map D.str) with
      | some ns => some (W.l ((sortI ns).map .int))
      | none => match strsOf ((n :: ns).map D.str) with
        | some ss => if ss.length < 64 then some (.l ((sortS ss).map .str)) else none
        | none => none) = _
    rw [strsOf_map]
    show (if (n :: ns).length < 64 then some (W.l ((sortS (n :: ns)).map .str)) else none) = _
    rw [if_pos hz]
@[simp] theorem max_int {i j : Int} : bl2 .max (.v (.int i)) (.v (.int j)) = some (.v (.int (if j > i then j else i))) := rfl
@[simp] theorem min_int {i j : Int} : bl2 .min (.v (.int i)) (.v (.int j)) = some (.v (.int (if j < i then j else i))) := rfl
@[simp] theorem isL_obj {n : Nat} {x : List D} (e : h[n]? = some (.lst x)) : isL (.v (.obj n)) h = true := by simp only [isL, e]
@[simp] theorem isS_str {x : List Nat} : isS (.v (.str x)) h = true := rfl
@[simp] theorem app_obj {n : Nat} {x : List D} {d : D} (e : h[n]? = some (.lst x)) : mt1 .append (.v (.obj n)) (.v d) h = if x.length < sizeLine then .ok (.v .non) (h.set n (.lst (x ++ [d]))) else .no := by simp only [mt1, e]
@[simp] theorem ext_obj {n : Nat} {x y : List D} (e : h[n]? = some (.lst x)) : mt1 .extend (.v (.obj n)) (.l y) h = if x.length + y.length ≤ sizeLine then .ok (.v .non) (h.set n (.lst (x ++ y))) else .no := by simp only [mt1, e, W.lst]
theorem pop_obj {n : Nat} {x : List D} {y : D} (e : h[n]? = some (.lst (x ++ [y]))) : mt0 .pop (.v (.obj n)) h = .ok (.v y) (h.set n (.lst x)) := by
  have e2 : (x ++ [y])[(x ++ [y]).length - 1]? = some y := by simp
  simp only [mt0, e, e2, List.dropLast_concat]
@[simp] theorem rev_obj {n : Nat} {x : List D} (e : h[n]? = some (.lst x)) : mt0 .reverse (.v (.obj n)) h = .ok (.v .non) (h.set n (.lst x.reverse)) := by simp only [mt0, e]
@[simp] theorem revs_l {x : List D} : revSl (.l x) h = some (.l x.reverse) := rfl
@[simp] theorem revs_obj {n : Nat} {x : List D} (e : h[n]? = some (.lst x)) : revSl (.v (.obj n)) h = some (.l x.reverse) := by simp only [revSl, W.items, D.items, e, Option.map_some]
@[simp] theorem sl_tup {x : List D} {lo hi : Option Int} : getSl (.v (.tup x)) lo hi h = some (.v (.tup (cutL x lo hi))) := rfl
@[simp] theorem sl_str {x : List Nat} {lo hi : Option Int} : getSl (.v (.str x)) lo hi h = if x.length ≤ sizeLine then some (.v (.str (cutL x lo hi))) else none := rfl
@[simp] theorem sl_l {x : List D} {lo hi : Option Int} : getSl (.l x) lo hi h = some (.l (cutL x lo hi)) := rfl
@[simp] theorem sl_ro {x : List D} {lo hi : Option Int} : getSl (.v (.ro x)) lo hi h = some (.l (cutL x lo hi)) := rfl
@[simp] theorem sl_obj {n : Nat} {x : List D} {lo hi : Option Int} (e : h[n]? = some (.lst x)) : getSl (.v (.obj n)) lo hi h = some (.l (cutL x lo hi)) := by simp only [getSl, W.items, D.items, e, Option.map_some]
theorem cut_from {α : Type} (x : List α) (k : Nat) : cutL x (some (k : Int)) none = x.drop k := by
  unfold cutL
  rw [HT.sIx_nat, HT.sIx_none, List.take_of_length_le (by simp)]
  by_cases hk : k ≤ x.length
  · rw [Nat.min_eq_left hk]
  · rw [Nat.min_eq_right (by omega), List.drop_eq_nil_of_le (Nat.le_refl _), List.drop_eq_nil_of_le (by omega)]
theorem cut_to {α : Type} (x : List α) (k : Nat) : cutL x none (some (k : Int)) = x.take k := by
  unfold cutL
  rw [HT.sIx_nat, HT.sIx_none, List.drop_zero, Nat.sub_zero]
  by_cases hk : k ≤ x.length
  · rw [Nat.min_eq_left hk]
  · rw [Nat.min_eq_right (by omega), List.take_of_length_le (Nat.le_refl _), List.take_of_length_le (by omega)]
@[simp] theorem ty_bool_int {i : Int} : isTy .bool (.v (.int i)) h = some false := rfl
@[simp] theorem ty_bool_str {x : List Nat} : isTy .bool (.v (.str x)) h = some false := rfl
@[simp] theorem ty_bool_tuple {x : List D} : isTy .bool (.v (.tup x)) h = some false := rfl
@[simp] theorem ty_bool_bool {x : Bool} : isTy .bool (.v (.bl x)) h = some true := rfl
@[simp] theorem ty_bool_non : isTy .bool (.v .non) h = some false := rfl
@[simp] theorem ty_bool_lst {n : Nat} {x : List D} (e : h[n]? = some (.lst x)) : isTy .bool (.v (.obj n)) h = some false := by simp only [isTy, e]; rfl
@[simp] theorem ty_int_int {i : Int} : isTy .int (.v (.int i)) h = some true := rfl
@[simp] theorem ty_int_str {x : List Nat} : isTy .int (.v (.str x)) h = some false := rfl
@[simp] theorem ty_int_tuple {x : List D} : isTy .int (.v (.tup x)) h = some false := rfl
@[simp] theorem ty_int_bool {x : Bool} : isTy .int (.v (.bl x)) h = some true := rfl
@[simp] theorem ty_int_non : isTy .int (.v .non) h = some false := rfl
@[simp] theorem ty_int_lst {n : Nat} {x : List D} (e : h[n]? = some (.lst x)) : isTy .int (.v (.obj n)) h = some false := by simp only [isTy, e]; rfl
@[simp] theorem ty_str_int {i : Int} : isTy .str (.v (.int i)) h = some false := rfl
@[simp] theorem ty_str_str {x : List Nat} : isTy .str (.v (.str x)) h = some true := rfl
@[simp] theorem ty_str_tuple {x : List D} : isTy .str (.v (.tup x)) h = some false := rfl
@[simp] theorem ty_str_bool {x : Bool} : isTy .str (.v (.bl x)) h = some false := rfl
@[simp] theorem ty_str_non : isTy .str (.v .non) h = some false := rfl
@[simp] theorem ty_str_lst {n : Nat} {x : List D} (e : h[n]? = some (.lst x)) : isTy .str (.v (.obj n)) h = some false := by simp only [isTy, e]; rfl
@[simp] theorem ty_tuple_int {i : Int} : isTy .tuple (.v (.int i)) h = some false := rfl
@[simp] theorem ty_tuple_str {x : List Nat} : isTy .tuple (.v (.str x)) h = some false := rfl
@[simp] theorem ty_tuple_tuple {x : List D} : isTy .tuple (.v (.tup x)) h = some true := rfl
@[simp] theorem ty_tuple_bool {x : Bool} : isTy .tuple (.v (.bl x)) h = some false := rfl
@[simp] theorem ty_tuple_non : isTy .tuple (.v .non) h = some false := rfl
@[simp] theorem ty_tuple_lst {n : Nat} {x : List D} (e : h[n]? = some (.lst x)) : isTy .tuple (.v (.obj n)) h = some false := by simp only [isTy, e]; rfl
@[simp] theorem ty_list_int {i : Int} : isTy .list (.v (.int i)) h = some false := rfl
@[simp] theorem ty_list_str {x : List Nat} : isTy .list (.v (.str x)) h = some false := rfl
@[simp] theorem ty_list_tuple {x : List D} : isTy .list (.v (.tup x)) h = some false := rfl
@[simp] theorem ty_list_bool {x : Bool} : isTy .list (.v (.bl x)) h = some false := rfl
@[simp] theorem ty_list_non : isTy .list (.v .non) h = some false := rfl
@[simp] theorem ty_list_lst {n : Nat} {x : List D} (e : h[n]? = some (.lst x)) : isTy .list (.v (.obj n)) h = some true := by simp only [isTy, e]; rfl
@[simp] theorem ty_dict_int {i : Int} : isTy .dict (.v (.int i)) h = some false := rfl
@[simp] theorem ty_dict_str {x : List Nat} : isTy .dict (.v (.str x)) h = some false := rfl
@[simp] theorem ty_dict_tuple {x : List D} : isTy .dict (.v (.tup x)) h = some false := rfl
@[simp] theorem ty_dict_bool {x : Bool} : isTy .dict (.v (.bl x)) h = some false := rfl
@[simp] theorem ty_dict_non : isTy .dict (.v .non) h = some false := rfl
@[simp] theorem ty_dict_lst {n : Nat} {x : List D} (e : h[n]? = some (.lst x)) : isTy .dict (.v (.obj n)) h = some false := by simp only [isTy, e]; rfl
@[simp] theorem tr_bl {x : Bool} : (W.v (.bl x)).truth h = some x := rfl
@[simp] theorem tr_non : (W.v .non).truth h = some false := rfl
@[simp] theorem tr_int {x : Int} : (W.v (.int x)).truth h = some (x != 0) := rfl
@[simp] theorem tr_tup {x : List D} : (W.v (.tup x)).truth h = some !x.isEmpty := rfl
@[simp] theorem tr_l {x : List D} : (W.l x).truth h = some !x.isEmpty := rfl
@[simp] theorem tr_obj {n : Nat} {x : List D} (e : h[n]? = some (.lst x)) : (W.v (.obj n)).truth h = some !x.isEmpty := by simp only [W.truth, e]
@[simp] theorem wsrc_l {x : List D} : (W.l x).src h = some (.fx x) := rfl
@[simp] theorem wsrc_tup {x : List D} : (W.v (.tup x)).src h = some (.fx x) := rfl
@[simp] theorem wsrc_ro {x : List D} : (W.v (.ro x)).src h = some (.fx x) := rfl
@[simp] theorem wsrc_str {x : List Nat} : (W.v (.str x)).src h = some (.fx (x.map fun c => .str [c])) := rfl
@[simp] theorem aug_add {i j : Int} : augW .Add (.v (.int i)) (.v (.int j)) h = .ok (.v (.int (i + j))) h := rfl
@[simp] theorem aug_sub {i j : Int} : augW .Sub (.v (.int i)) (.v (.int j)) h = .ok (.v (.int (i - j))) h := rfl
@[simp] theorem get_loc {h1 L : Hd} {x : O} {n : Nat} (e : h1.length = n) : (h1 ++ x :: L)[n]? = some x := by subst e; simp
@[simp] theorem get_loc1 {h1 L : Hd} {x y : O} {n : Nat} (e : h1.length = n) : (h1 ++ x :: y :: L)[n + 1]? = some y := by subst e; simp
@[simp] theorem get_loc2 {h1 L : Hd} {x y z : O} {n : Nat} (e : h1.length = n) : (h1 ++ x :: y :: z :: L)[n + 2]? = some z := by subst e; simp
@[simp] theorem set_loc {h1 L : Hd} {x u : O} {n : Nat} (e : h1.length = n) : (h1 ++ x :: L).set n u = h1 ++ u :: L := by subst e; simp
@[simp] theorem set_loc1 {h1 L : Hd} {x y u : O} {n : Nat} (e : h1.length = n) : (h1 ++ x :: y :: L).set (n + 1) u = h1 ++ x :: u :: L := by subst e; simp
@[simp] theorem set_loc2 {h1 L : Hd} {x y z u : O} {n : Nat} (e : h1.length = n) : (h1 ++ x :: y :: z :: L).set (n + 2) u = h1 ++ x :: y :: u :: L := by subst e; simp
theorem get_lo {h1 L : Hd} {i : Nat} (hi : i < h1.length) : (h1 ++ L)[i]? = h1[i]? := List.getElem?_append_left hi
theorem set_lo {h1 L : Hd} {i : Nat} {u : O} (hi : i < h1.length) : (h1 ++ L).set i u = h1.set i u ++ L := List.set_append_left _ _ hi
end
end DL
namespace DL
open PySem PySem.Spec PyProof.Rows L2
section
variable {C : Cls} {G : List D} {elt it : Ex} {tg : Tg} {own : List Nat} {σ : Sd} {h h1 : Hd} {s : Src} {xs : List D} {ok : Hd → Prop} {P : W → Hd → Prop}
theorem ok_vset {f : FV} {d : D} {h1 : Hd} (e : f σ h = .ok (.v d) h1) (q : P (.v d) h1) : Ok (vSet f σ h) P := ⟨.v d, h1, by unfold vSet; rw [e]; rfl, q⟩
theorem Ok.lc0 (I : Nat → List D → Hd → Prop) (e : (dn C G it).i σ h = .ok s h1) (w : Walks s xs ok) (h0 : I 0 [] h1) (hok : ∀ i ys h, I i ys h → ok h)
    (stp : ∀ i d ys h, xs[i]? = some d → I i ys h → ∃ σ' y h2, tg.put d (wipeD σ own) = some σ' ∧ (dn C G elt).v σ' h = .ok (.v y) h2 ∧ I (i + 1) (ys ++ [y]) h2)
    (fin : ∀ ys h, I xs.length ys h → ys.length ≤ sizeLine ∧ P (.l ys) h) : Ok ((dn C G (.lc elt tg it none own)).v σ h) P := by
  obtain ⟨ys, h2, e2, q⟩ := lc_ok (C := C) (G := G) (elt := elt) (tg := tg) (c := none) (own := own) (Q := fun ys h => P (.l ys) h) I e w h0 hok (fun i d ys h hd hI => by
    obtain ⟨σ', y, h2, ep, ee, hI⟩ := stp i d ys h hd hI
    exact ⟨σ', ep, ⟨true, h, rfl, ok_vset ee ⟨y, rfl, hI⟩⟩⟩) fin
  exact ⟨_, _, e2, q⟩
theorem Ok.lc1 {c : Ex} (I : Nat → List D → Hd → Prop) (e : (dn C G it).i σ h = .ok s h1) (w : Walks s xs ok) (h0 : I 0 [] h1) (hok : ∀ i ys h, I i ys h → ok h)
    (stp : ∀ i d ys h, xs[i]? = some d → I i ys h → ∃ σ' t h1, tg.put d (wipeD σ own) = some σ' ∧ (dn C G c).t σ' h = .ok t h1 ∧ (t = true → ∃ y h2, (dn C G elt).v σ' h1 = .ok (.v y) h2 ∧ I (i + 1) (ys ++ [y]) h2) ∧ (t = false → I (i + 1) ys h1))
    (fin : ∀ ys h, I xs.length ys h → ys.length ≤ sizeLine ∧ P (.l ys) h) : Ok ((dn C G (.lc elt tg it (some c) own)).v σ h) P := by
  obtain ⟨ys, h2, e2, q⟩ := lc_ok (C := C) (G := G) (elt := elt) (tg := tg) (c := some c) (own := own) (Q := fun ys h => P (.l ys) h) I e w h0 hok (fun i d ys h hd hI => by
    obtain ⟨σ', t, h1, ep, et, kt, kf⟩ := stp i d ys h hd hI
    refine ⟨σ', ep, ⟨t, h1, et, ?_⟩⟩
    cases t with
    | true =>
      obtain ⟨y, h2, ee, hI⟩ := kt rfl
      exact ok_vset ee ⟨y, rfl, hI⟩
    | false => exact kf rfl) fin
  exact ⟨_, _, e2, q⟩
end
mutual
def D.sz : D → Nat
  | .str s => 1 + s.length
  | .tup xs => 1 + D.szs xs
  | _ => 1
def D.szs : List D → Nat
  | [] => 0
  | d :: ds => d.sz + D.szs ds
end
mutual
def D.tr : D → Bool
  | .str s => s.all fun c => decide (c < 1114112)
  | .int _ => true
  | .tup xs => D.trs xs
  | _ => false
def D.trs : List D → Bool
  | [] => true
  | d :: ds => d.tr && D.trs ds
end
theorem szs_app : ∀ xs ys : List D, D.szs (xs ++ ys) = D.szs xs + D.szs ys
  | [], ys => by show D.szs ys = 0 + _; omega
  | x :: xs, ys => by show x.sz + D.szs (xs ++ ys) = x.sz + D.szs xs + D.szs ys; rw [szs_app xs ys]; omega
theorem trs_app : ∀ xs ys : List D, D.trs (xs ++ ys) = (D.trs xs && D.trs ys)
  | [], ys => rfl
  | x :: xs, ys => by show (x.tr && D.trs (xs ++ ys)) = (x.tr && D.trs xs && D.trs ys); rw [trs_app xs ys, Bool.and_assoc]
theorem szs_rev : ∀ xs : List D, D.szs xs.reverse = D.szs xs
  | [] => rfl
  | x :: xs => by rw [List.reverse_cons, szs_app, szs_rev xs]; show D.szs xs + (x.sz + 0) = x.sz + D.szs xs; omega
theorem trs_mem : ∀ {xs : List D}, D.trs xs = true ↔ ∀ x ∈ xs, x.tr = true
  | [] => by simp [D.trs]
  | x :: xs => by
    show (x.tr && D.trs xs) = true ↔ _
    rw [Bool.and_eq_true, trs_mem (xs := xs)]
    simp
theorem szs_mem : ∀ {xs : List D} {x : D}, x ∈ xs → x.sz ≤ D.szs xs
  | y :: xs, x, h => by
    show x.sz ≤ y.sz + D.szs xs
    rcases List.mem_cons.mp h with e | h
    · rw [e]; omega
    · have := szs_mem h; omega
theorem szs_len : ∀ xs : List D, xs.length ≤ D.szs xs
  | [] => Nat.le_refl _
  | x :: xs => by
    have h1 := szs_len xs
    have h2 : 1 ≤ x.sz := by cases x <;> simp [D.sz]
    show xs.length + 1 ≤ x.sz + D.szs xs
    omega
theorem sz_pos (x : D) : 1 ≤ x.sz := by cases x <;> simp [D.sz]
theorem szs_cons (x : D) (xs : List D) : D.szs (x :: xs) = x.sz + D.szs xs := rfl
theorem sz_tup (xs : List D) : (D.tup xs).sz = 1 + D.szs xs := rfl
theorem szs_drop : ∀ (n : Nat) (xs : List D), D.szs (xs.drop n) ≤ D.szs xs
  | 0, xs => Nat.le_refl _
  | n + 1, [] => Nat.le_refl _
  | n + 1, x :: xs => by have := szs_drop n xs; show D.szs (xs.drop n) ≤ x.sz + D.szs xs; omega
mutual
theorem tr_no : ∀ {d : D}, d.tr = true → d.noObj = true
  | .str _, _ => rfl
  | .int _, _ => rfl
  | .tup xs, h => trs_no (ds := xs) h
  | .non, h => by cases h
  | .bl _, h => by cases h
  | .obj _, h => by cases h
  | .ro _, h => by cases h
theorem trs_no : ∀ {ds : List D}, D.trs ds = true → D.noObjs ds = true
  | [], _ => rfl
  | d :: ds, h => by
    have h : (d.tr && D.trs ds) = true := h
    rw [Bool.and_eq_true] at h
    show (d.noObj && D.noObjs ds) = true
    rw [tr_no h.1, trs_no h.2]
    rfl
end
mutual
theorem tr_py : ∀ {d : D}, d.tr = true → ∃ p, d.py = some p ∧ p.canLay0 = true ∧ p.depth ≤ d.sz
  | .str s, h => by
    have h : (s.all fun c => decide (c < 1114112)) = true := h
    exact ⟨.str (mkS s), rfl, by
      simp only [PyData.canLay0]
      show (s.toArray.all fun c => decide (c < 1114112)) = true
      rw [List.all_toArray]
      exact h, Nat.zero_le _⟩
  | .int i, _ => ⟨.int i, rfl, by simp [PyData.canLay0], Nat.zero_le _⟩
  | .tup xs, h => by
    obtain ⟨ps, e, c, dp⟩ := trs_py (ds := xs) h
    exact ⟨.tuple ps, by simp only [D.py, e, Option.map_some], by simpa only [PyData.canLay0] using c, by simp only [PyData.depth, D.sz]; omega⟩
  | .non, h => by cases h
  | .bl _, h => by cases h
  | .obj _, h => by cases h
  | .ro _, h => by cases h
theorem trs_py : ∀ {ds : List D}, D.trs ds = true → ∃ ps, D.pys ds = some ps ∧ PyData.canLayAll0 ps = true ∧ PyData.depthAll ps ≤ D.szs ds
  | [], _ => ⟨[], rfl, by simp [PyData.canLayAll0], by simp [PyData.depthAll, D.szs]⟩
  | d :: ds, h => by
    have h : (d.tr && D.trs ds) = true := h
    rw [Bool.and_eq_true] at h
    obtain ⟨p, e, c, dp⟩ := tr_py h.1
    obtain ⟨ps, es, cs, dps⟩ := trs_py h.2
    refine ⟨p :: ps, by simp only [D.pys, e, es], by simp only [PyData.canLayAll0, c, cs]; rfl, ?_⟩
    simp only [PyData.depthAll, D.szs]
    omega
end
end DL
namespace Wk32
open PySem PySem.Spec PyProof.Rows L2 DL
def top (i : Nat) : Stmt := PySem.Challenge.pw_wellbegun_k32_book_rows.main.body.getD i (.Pass ⟨0, 0, 0, 0⟩)
def f0 : Fn := ⟨1, ["book", "rows", "name", "manner", "arguments", "result", "wants", "own", "head", "string", "argument"],
  [.set (.nm 1) (.lc (.tup [(.var 2), (.var 8), (.int 0), (.var 6)]) (.tp [(.nm 2), (.nm 8), (.nm 6)]) (.ix (.var 0) (.int 2)) none [2, 6, 8]), .for_ (.tp [(.nm 2), (.nm 3), (.nm 4), (.nm 5), (.nm 6)]) (.ix (.var 0) (.int 3)) [.set (.nm 7) (.b1 .sum (.lc (.b1 .len (.var 9)) (.nm 9) (.call 1 [(.var 2), (.var 3), (.b1 .len (.var 4))]) none [9])), .ex (.m1 .append (.var 1) (.tup [(.str [104, 97, 100]), (.var 5), (.var 7), (.bin .Add (.b1 .tuple (.lc (.tup [(.str [104, 97, 100]), (.var 10)]) (.nm 10) (.var 4) none [10])) (.var 6))]))], .ret (.b1 .tuple (.var 1))]⟩
def f1 : Fn := ⟨3, ["name", "manner", "many", "opened"],
  [.ite (.and_ [(.cmp .Eq (.var 1) (.int 0)), (.cmp .Eq (.var 2) (.int 0))]) [.ret (.tup [(.var 0)])] [], .ite (.and_ [(.cmp .Eq (.var 1) (.int 1)), (.cmp .Eq (.var 2) (.int 1))]) [.ret (.tup [(.str []), (.bin .Add (.str [46]) (.var 0))])] [], .set (.nm 3) (.ite (.cmp .Eq (.var 1) (.int 0)) (.tup [(.bin .Add (.var 0) (.str [40]))]) (.tup [(.str []), (.bin .Add (.bin .Add (.str [46]) (.var 0)) (.str [40]))])), .ret (.bin .Add (.bin .Add (.var 3) (.bin .Mult (.tup [(.str [44])]) (.bin .Sub (.var 2) (.b1 .len (.var 3))))) (.tup [(.str [41])]))]⟩
def f2 : Fn := ⟨2, ["script", "salt", "cells", "cell"],
  [.set (.nm 2) (.lst []), .for_ (.nm 3) (.var 0) [.ex (.m1 .append (.var 2) (.ite (.cmp .GtE (.var 3) (.int 0)) (.bin .Mult (.int 2) (.b1 .int (.var 3))) (.bin .Sub (.int 1) (.bin .Mult (.int 2) (.b1 .int (.var 3))))))], .ret (.lst [(.var 2), (.int 0), (.var 1), (.int 0)])]⟩
def f3 : Fn := ⟨2, ["pool", "many", "cell", "digit"],
  [.ite (.and_ [(.cmp .Eq (.ix (.var 0) (.int 1)) (.int 0)), (.cmp .Lt (.ix (.var 0) (.int 3)) (.b1 .len (.ix (.var 0) (.int 0))))]) [.set (.nm 2) (.ix (.ix (.var 0) (.int 0)) (.ix (.var 0) (.int 3))), .augS (.var 0) (.int 3) .Add (.int 1), .ite (.cmp .GtE (.var 2) (.bin .Pow (.int 10) (.int 18))) [.sub (.var 0) (.int 1) (.var 2)] [.sub (.var 0) (.int 2) (.bin .Mod (.b1 .int (.bin .Add (.bin .Add (.bin .Mult (.ix (.var 0) (.int 2)) (.int 16807)) (.bin .Mult (.var 2) (.int 2))) (.int 5))) (.int 2147483647))]] [], .ite (.cmp .Gt (.ix (.var 0) (.int 1)) (.int 0)) [.set (.nm 3) (.bin .Mod (.b1 .int (.ix (.var 0) (.int 1))) (.var 1)), .sub (.var 0) (.int 1) (.bin .FloorDiv (.ix (.var 0) (.int 1)) (.var 1)), .ret (.var 3)] [], .sub (.var 0) (.int 2) (.bin .Mod (.b1 .int (.bin .Add (.bin .Mult (.ix (.var 0) (.int 2)) (.int 48271)) (.int 1013))) (.int 2147483647)), .ret (.bin .Mod (.b1 .int (.bin .FloorDiv (.ix (.var 0) (.int 2)) (.int 19))) (.var 1))]⟩
def f4 : Fn := ⟨3, ["pool", "signs", "most", "tail", "at"],
  [.set (.nm 3) (.str []), .for_ (.nm 4) (.rng1 (.call 3 [(.var 0), (.bin .Add (.var 2) (.int 1))])) [.set (.nm 3) (.bin .Add (.var 3) (.ix (.var 1) (.call 3 [(.var 0), (.b1 .len (.var 1))])))], .ret (.var 3)]⟩
def f5 : Fn := ⟨2, ["pool", "many", "capitals", "inner", "first", "step", "sign", "names", "k"],
  [.set (.nm 2) (.str [65, 66, 67, 68, 69, 70, 71, 72, 73, 74, 75, 76, 77, 78, 79, 80, 81, 82, 83, 84, 85, 86, 87, 88, 89, 90]), .set (.nm 3) (.str [97, 98, 99, 100, 101, 102, 103, 104, 105, 106, 107, 108, 109, 110, 111, 112, 113, 114, 115, 116, 117, 118, 119, 120, 121, 122, 65, 66, 67, 68, 69, 70, 71, 72, 73, 74, 75, 76, 77, 78, 79, 80, 81, 82, 83, 84, 85, 86, 87, 88, 89, 90, 48, 49, 50, 51, 52, 53, 54, 55, 56, 57]), .set (.nm 4) (.call 3 [(.var 0), (.int 26)]), .set (.nm 5) (.ix (.lst [(.int 1), (.int 3), (.int 5), (.int 7), (.int 9), (.int 11)]) (.call 3 [(.var 0), (.int 6)])), .ite (.and_ [(.cmp .LtE (.var 1) (.int 8)), (.cmp .Eq (.call 3 [(.var 0), (.int 3)]) (.int 0))]) [.set (.nm 6) (.ix (.var 3) (.call 3 [(.var 0), (.b1 .len (.var 3))])), .set (.nm 7) (.lc (.bin .Add (.ix (.var 2) (.var 4)) (.bin .Mult (.var 6) (.var 8))) (.nm 8) (.rng1 (.var 1)) none [8])] [.set (.nm 7) (.lc (.bin .Add (.ix (.var 2) (.bin .Mod (.bin .Add (.var 4) (.bin .Mult (.var 5) (.var 8))) (.int 26))) (.call 4 [(.var 0), (.var 3), (.int 7)])) (.nm 8) (.rng1 (.var 1)) none [8])], .ite (.cmp .Eq (.call 3 [(.var 0), (.int 2)]) (.int 0)) [.ex (.m0 .reverse (.var 7))] [], .ret (.var 7)]⟩
def f6 : Fn := ⟨1, ["pool", "signs", "first", "k"],
  [.set (.nm 1) (.str [97, 98, 99, 100, 101, 102, 103, 104, 105, 106, 107, 108, 109, 110, 111, 112, 113, 114, 115, 116, 117, 118, 119, 120, 121, 122]), .set (.nm 2) (.call 3 [(.var 0), (.int 26)]), .ret (.lc (.ix (.var 1) (.bin .Mod (.bin .Add (.var 2) (.bin .Mult (.int 7) (.var 3))) (.int 26))) (.nm 3) (.rng1 (.call 3 [(.var 0), (.int 5)])) none [3])]⟩
def f7 : Fn := ⟨1, ["form", "parts", "waiting", "part"],
  [.set (.nm 1) (.lst []), .set (.nm 2) (.lst [(.var 0)]), .whl (.var 2) [.set (.nm 3) (.m0 .pop (.var 2)), .ex (.m1 .append (.var 1) (.var 3)), .ite (.not_ (.isi .str (.var 3))) [.ex (.m1 .extend (.var 2) (.rev (.b1 .list (.sl (.var 3) (some (.int 1)) none))))] []], .ret (.var 1)]⟩
def f8 : Fn := ⟨1, ["tokens", "built", "name", "places", "part", "k"],
  [.set (.nm 1) (.lst []), .for_ (.tp [(.nm 2), (.nm 3)]) (.rev (.var 0)) [.ite (.cmp .Lt (.var 3) (.int 0)) [.ex (.m1 .append (.var 1) (.var 2))] [.set (.nm 4) (.lst [(.var 2)]), .for_ (.nm 5) (.rng1 (.var 3)) [.ex (.m1 .append (.var 4) (.m0 .pop (.var 1)))], .ex (.m1 .append (.var 1) (.b1 .tuple (.var 4)))]], .ret (.ix (.var 1) (.int 0))]⟩
def f9 : Fn := ⟨4, ["pool", "stems", "letters", "room", "tokens", "many", "left", "fitting", "stem"],
  [.set (.nm 4) (.lst []), .set (.nm 5) (.int 1), .whl (.cmp .Gt (.var 5) (.int 0)) [.set (.nm 6) (.bin .Add (.bin .Sub (.bin .Sub (.var 3) (.b1 .len (.var 4))) (.var 5)) (.int 1)), .set (.nm 7) (.lc (.var 8) (.nm 8) (.var 1) (some (.cmp .Lt (.ix (.var 8) (.int 1)) (.var 6))) [8]), .ite (.and_ [(.cmp .Gt (.b1 .len (.var 2)) (.int 0)), (.cmp .Eq (.call 3 [(.var 0), (.int 3)]) (.int 0))]) [.ex (.m1 .append (.var 4) (.tup [(.ix (.var 2) (.call 3 [(.var 0), (.b1 .len (.var 2))])), (.neg (.int 1))]))] [.ex (.m1 .append (.var 4) (.ix (.var 7) (.call 3 [(.var 0), (.b1 .len (.var 7))])))], .aug 5 .Add (.bin .Sub (.b2 .max (.int 0) (.ix (.ix (.var 4) (.neg (.int 1))) (.int 1))) (.int 1))], .ret (.call 8 [(.var 4)])]⟩
def f10 : Fn := ⟨3, ["pool", "stems", "letters", "way", "form", "stem", "ground", "parts", "k", "name", "places"],
  [.set (.nm 3) (.call 3 [(.var 0), (.int 4)]), .ite (.and_ [(.cmp .Eq (.var 3) (.int 0)), (.cmp .Gt (.b1 .len (.var 2)) (.int 0))]) [.ret (.ix (.var 2) (.int 0))] [], .ite (.and_ [(.cmp .Eq (.var 3) (.int 1)), (.cmp .Gt (.b1 .len (.var 2)) (.int 0))]) [.set (.nm 4) (.call 9 [(.var 0), (.var 1), (.sl (.var 2) (some (.neg (.int 1))) none), (.int 10)]), .ite (.cmp .LtE (.m1 .count (.call 7 [(.var 4)]) (.ix (.var 2) (.neg (.int 1)))) (.int 1)) [.ret (.var 4)] []] [], .ite (.cmp .Eq (.var 3) (.int 2)) [.set (.nm 5) (.ix (.var 1) (.call 3 [(.var 0), (.b1 .len (.var 1))])), .set (.nm 6) (.lc (.var 9) (.tp [(.nm 9), (.nm 10)]) (.var 1) (some (.cmp .Eq (.var 10) (.int 0))) [9, 10]), .set (.nm 7) (.lc (.ite (.cmp .Lt (.var 8) (.b1 .len (.var 2))) (.ix (.var 2) (.var 8)) (.tup [(.ix (.var 6) (.int 0))])) (.nm 8) (.rng1 (.ix (.var 5) (.int 1))) none [8]), .ret (.b1 .tuple (.bin .Add (.lst [(.ix (.var 5) (.int 0))]) (.var 7)))] [], .ret (.call 9 [(.var 0), (.var 1), (.lst []), (.int 10)])]⟩
def f11 : Fn := ⟨4, ["pool", "stems", "classes", "letters", "wants", "at"],
  [.ite (.cmp .Eq (.b1 .len (.var 2)) (.int 0)) [.ret (.tup [])] [], .set (.nm 4) (.lst []), .for_ (.nm 5) (.rng1 (.b2 .max (.int 0) (.bin .Sub (.call 3 [(.var 0), (.int 7)]) (.int 2)))) [.ex (.m1 .append (.var 4) (.tup [(.ix (.var 2) (.call 3 [(.var 0), (.b1 .len (.var 2))])), (.call 9 [(.var 0), (.var 1), (.var 3), (.bin .Add (.int 1) (.call 3 [(.var 0), (.int 10)]))])]))], .ret (.b1 .tuple (.var 4))]⟩
def f12 : Fn := ⟨3, ["pool", "stems", "classes", "signs", "name", "letters", "many", "manner", "forms", "at", "result"],
  [.set (.nm 3) (.str [97, 98, 99, 100, 101, 102, 103, 104, 105, 106, 107, 108, 109, 110, 111, 112, 113, 114, 115, 116, 117, 118, 119, 120, 121, 122, 48, 49, 50, 51, 52, 53, 54, 55, 56, 57]), .set (.nm 4) (.bin .Add (.ix (.var 3) (.call 3 [(.var 0), (.int 36)])) (.call 4 [(.var 0), (.var 3), (.int 7)])), .set (.nm 5) (.call 6 [(.var 0)]), .set (.nm 6) (.call 3 [(.var 0), (.int 5)]), .set (.nm 7) (.ite (.cmp .Eq (.var 6) (.int 0)) (.int 0) (.call 3 [(.var 0), (.int 2)])), .set (.nm 8) (.lst []), .for_ (.nm 9) (.rng1 (.var 6)) [.ex (.m1 .append (.var 8) (.call 9 [(.var 0), (.var 1), (.var 5), (.bin .Add (.int 1) (.call 3 [(.var 0), (.int 10)]))]))], .set (.nm 10) (.call 10 [(.var 0), (.var 1), (.var 5)]), .ret (.tup [(.var 4), (.var 7), (.b1 .tuple (.var 8)), (.var 10), (.call 11 [(.var 0), (.var 1), (.var 2), (.var 5)])])]⟩
def f13 : Fn := ⟨2, ["pool", "wide", "many", "names", "ground", "stems", "at", "classes", "rules", "makers", "places", "letters", "head", "name"],
  [.set (.nm 2) (.ite (.var 1) (.int 10) (.bin .Add (.int 1) (.call 3 [(.var 0), (.int 5)]))), .set (.nm 3) (.call 5 [(.var 0), (.var 2)]), .set (.nm 4) (.call 3 [(.var 0), (.var 2)]), .set (.nm 5) (.lst []), .for_ (.nm 6) (.rng1 (.var 2)) [.set (.nm 10) (.call 3 [(.var 0), (.int 4)]), .ex (.m1 .append (.var 5) (.tup [(.ix (.var 3) (.var 6)), (.ite (.cmp .Eq (.var 6) (.var 4)) (.int 0) (.var 10))]))], .set (.nm 7) (.b1 .sorted (.call 5 [(.var 0), (.ite (.var 1) (.int 6) (.call 3 [(.var 0), (.int 4)]))])), .set (.nm 8) (.lst []), .ite (.cmp .Gt (.b1 .len (.var 7)) (.int 0)) [.for_ (.nm 6) (.rng1 (.ite (.var 1) (.int 20) (.call 3 [(.var 0), (.int 5)]))) [.set (.nm 11) (.call 6 [(.var 0)]), .set (.nm 12) (.call 10 [(.var 0), (.var 5), (.var 11)]), .set (.nm 13) (.ix (.var 7) (.call 3 [(.var 0), (.b1 .len (.var 7))])), .ex (.m1 .append (.var 8) (.tup [(.var 13), (.var 12), (.call 11 [(.var 0), (.var 5), (.var 7), (.var 11)])]))]] [], .set (.nm 9) (.lst []), .for_ (.nm 6) (.rng1 (.ite (.var 1) (.int 30) (.call 3 [(.var 0), (.int 7)]))) [.ex (.m1 .append (.var 9) (.call 12 [(.var 0), (.var 5), (.var 7)]))], .ret (.tup [(.b1 .tuple (.var 5)), (.b1 .tuple (.var 7)), (.b1 .tuple (.var 8)), (.b1 .tuple (.var 9))])]⟩
def f14 : Fn := ⟨3, ["name", "manner", "many", "empty", "k"],
  [.set (.nm 3) (.lc (.str []) (.nm 4) (.rng1 (.var 2)) none [4]), .ite (.cmp .Eq (.var 1) (.int 0)) [.ret (.ite (.cmp .Gt (.var 2) (.int 0)) (.bin .Add (.bin .Add (.bin .Add (.var 0) (.str [40])) (.m1 .join (.str [44]) (.var 3))) (.str [41])) (.var 0))] [], .ret (.ite (.cmp .Gt (.var 2) (.int 1)) (.bin .Add (.bin .Add (.bin .Add (.bin .Add (.str [46]) (.var 0)) (.str [40])) (.m1 .join (.str [44]) (.sl (.var 3) (some (.int 1)) none))) (.str [41])) (.bin .Add (.str [46]) (.var 0)))]⟩
def f15 : Fn := ⟨1, ["book", "rows", "name", "head", "wants", "manner", "forms", "result", "asked", "own", "form"],
  [.set (.nm 1) (.lst []), .for_ (.tp [(.nm 2), (.nm 3), (.nm 4)]) (.ix (.var 0) (.int 2)) [.ex (.m1 .append (.var 1) (.tup [(.var 2), (.var 3), (.int 0), (.var 4)]))], .for_ (.tp [(.nm 2), (.nm 5), (.nm 6), (.nm 7), (.nm 4)]) (.ix (.var 0) (.int 3)) [.set (.nm 8) (.lc (.tup [(.str [104, 97, 100]), (.var 10)]) (.nm 10) (.var 6) none [10]), .set (.nm 9) (.b1 .len (.call 14 [(.var 2), (.var 5), (.b1 .len (.var 6))])), .ex (.m1 .append (.var 1) (.tup [(.str [104, 97, 100]), (.var 7), (.var 9), (.b1 .tuple (.bin .Add (.var 8) (.b1 .list (.var 4))))]))], .ret (.var 1)]⟩
def f16 : Fn := ⟨2, ["told", "due", "waiting", "one", "other", "k"],
  [.set (.nm 2) (.lst [(.tup [(.var 0), (.var 1)])]), .whl (.var 2) [.set (.tp [(.nm 3), (.nm 4)]) (.m0 .pop (.var 2)), .ite (.isi .str (.var 4)) [.ite (.or_ [(.not_ (.isi .str (.var 3))), (.cmp .NotEq (.var 3) (.var 4))]) [.ret (.bl false)] []] [.ite (.isi .int (.var 4)) [.ite (.or_ [(.not_ (.isi .int (.var 3))), (.isi .bool (.var 3)), (.cmp .NotEq (.var 3) (.var 4))]) [.ret (.bl false)] []] [.ite (.or_ [(.not_ (.isi .tuple (.var 3))), (.cmp .NotEq (.b1 .len (.var 3)) (.b1 .len (.var 4)))]) [.ret (.bl false)] [.ex (.m1 .extend (.var 2) (.lc (.tup [(.ix (.var 3) (.var 5)), (.ix (.var 4) (.var 5))]) (.nm 5) (.rng1 (.b1 .len (.var 4))) none [5]))]]]], .ret (.bl true)]⟩
def f17 : Fn := ⟨2, ["pool", "book", "makers", "at", "way", "stem", "name", "manner", "forms", "result", "wants", "places"],
  [.set (.nm 2) (.b1 .list (.ix (.var 1) (.int 3))), .ite (.cmp .Eq (.b1 .len (.var 2)) (.int 0)) [.set (.nm 5) (.ix (.lc (.var 6) (.tp [(.nm 6), (.nm 11)]) (.ix (.var 1) (.int 0)) (some (.cmp .Eq (.var 11) (.int 0))) [6, 11]) (.int 0)), .ret (.bin .Add (.sl (.var 1) none (some (.int 3))) (.tup [(.tup [(.tup [(.str [120]), (.int 0), (.tup []), (.tup [(.var 5)]), (.tup [])])])]))] [], .set (.nm 3) (.call 3 [(.var 0), (.b1 .len (.var 2))]), .set (.tp [(.nm 6), (.nm 7), (.nm 8), (.nm 9), (.nm 10)]) (.ix (.var 2) (.var 3)), .set (.nm 4) (.call 3 [(.var 0), (.int 3)]), .ite (.cmp .Eq (.var 4) (.int 0)) [.set (.nm 6) (.ite (.cmp .Lt (.b1 .len (.var 6)) (.int 8)) (.bin .Add (.var 6) (.str [113])) (.sl (.var 6) none (some (.int 7))))] [.ite (.and_ [(.cmp .Eq (.var 4) (.int 1)), (.cmp .Gt (.b1 .len (.var 8)) (.int 0))]) [.set (.nm 7) (.bin .Sub (.int 1) (.var 7))] [.ite (.cmp .Gt (.b1 .len (.var 8)) (.int 1)) [.set (.nm 8) (.sl (.var 8) (some (.int 1)) none)] [.set (.nm 8) (.bin .Add (.var 8) (.tup [(.var 9)]))]]], .sub (.var 2) (.var 3) (.tup [(.var 6), (.var 7), (.var 8), (.var 9), (.var 10)]), .ret (.bin .Add (.sl (.var 1) none (some (.int 3))) (.tup [(.b1 .tuple (.var 2))]))]⟩
def f18 : Fn := ⟨1, ["script", "pool", "wide", "book", "other", "asked"],
  [.set (.nm 1) (.call 2 [(.var 0), (.int 320017)]), .set (.nm 2) (.cmp .Eq (.call 3 [(.var 1), (.int 7)]) (.int 3)), .set (.nm 3) (.call 13 [(.var 1), (.var 2)]), .set (.nm 4) (.call 17 [(.var 1), (.var 3)]), .for_ (.nm 5) (.tup [(.var 3), (.var 4), (.var 3)]) [.ite (.not_ (.call 16 [(.call 0 [(.var 5)]), (.b1 .tuple (.call 15 [(.var 5)]))])) [.ret (.bl false)] []], .ret (.bl true)]⟩
def F : List Fn := [f0, f1, f2, f3, f4, f5, f6, f7, f8, f9, f10, f11, f12, f13, f14, f15, f16, f17, f18]
def Gm : Gam := ⟨[("book_rows", 1), ("own_strings", 3), ("_law_pool", 2), ("_law_draw", 2), ("_law_tail", 3), ("_law_names", 2), ("_law_letters", 1), ("_law_parts", 1), ("_law_built", 1), ("_law_form", 4), ("_law_head", 3), ("_law_wants", 4), ("_law_maker", 3), ("_law_book", 2), ("_law_written", 3), ("_law_rows", 1), ("_law_same", 2), ("_law_changed", 2), ("law", 1)],
  [],
  ["bool", "int", "isinstance", "len", "list", "max", "range", "sorted", "str", "sum", "tuple"]⟩
def G : List D := []
theorem c0 : defC Gm ["book"] f0 (top 1) = true := by decide +kernel
theorem c1 : defC Gm ["name", "manner", "many"] f1 (top 2) = true := by decide +kernel
theorem c2 : defC Gm ["script", "salt"] f2 (top 4) = true := by decide +kernel
theorem c3 : defC Gm ["pool", "many"] f3 (top 5) = true := by decide +kernel
theorem c4 : defC Gm ["pool", "signs", "most"] f4 (top 6) = true := by decide +kernel
theorem c5 : defC Gm ["pool", "many"] f5 (top 7) = true := by decide +kernel
theorem c6 : defC Gm ["pool"] f6 (top 8) = true := by decide +kernel
theorem c7 : defC Gm ["form"] f7 (top 9) = true := by decide +kernel
theorem c8 : defC Gm ["tokens"] f8 (top 10) = true := by decide +kernel
theorem c9 : defC Gm ["pool", "stems", "letters", "room"] f9 (top 11) = true := by decide +kernel
theorem c10 : defC Gm ["pool", "stems", "letters"] f10 (top 12) = true := by decide +kernel
theorem c11 : defC Gm ["pool", "stems", "classes", "letters"] f11 (top 13) = true := by decide +kernel
theorem c12 : defC Gm ["pool", "stems", "classes"] f12 (top 14) = true := by decide +kernel
theorem c13 : defC Gm ["pool", "wide"] f13 (top 15) = true := by decide +kernel
theorem c14 : defC Gm ["name", "manner", "many"] f14 (top 16) = true := by decide +kernel
theorem c15 : defC Gm ["book"] f15 (top 17) = true := by decide +kernel
theorem c16 : defC Gm ["told", "due"] f16 (top 18) = true := by decide +kernel
theorem c17 : defC Gm ["pool", "book"] f17 (top 19) = true := by decide +kernel
theorem c18 : defC Gm ["script"] f18 (top 20) = true := by decide +kernel
theorem all_mk {l : PySem.W.OpenLaw} {w : World} {K : PySem.W.Frag} {h : Heap} {mg : Str → Option Value} {fa a0 a1 a2 a3 a4 a5 a6 a7 a8 a9 a10 a11 a12 a13 a14 a15 a16 a17 a18 : Addr} (X : K.In h) (Gg : h.Ns mainGlobals mg) (hfa : mg "law" = some (.ref fa))
    {od0 an0 od1 an1 od2 an2 od3 an3 od4 an4 od5 an5 od6 an6 od7 an7 od8 an8 od9 an9 od10 an10 od11 an11 od12 an12 od13 an13 od14 an14 od15 an15 od16 an16 od17 an17 od18 an18 : Option Addr} {sl0 sl1 sl2 sl3 sl4 sl5 sl6 sl7 sl8 sl9 sl10 sl11 sl12 sl13 sl14 sl15 sl16 sl17 sl18 : Array (Option Value)} {oc0 kV0 dc0 pm0 cd0 ct0 oc1 kV1 dc1 pm1 cd1 ct1 oc2 kV2 dc2 pm2 cd2 ct2 oc3 kV3 dc3 pm3 cd3 ct3 oc4 kV4 dc4 pm4 cd4 ct4 oc5 kV5 dc5 pm5 cd5 ct5 oc6 kV6 dc6 pm6 cd6 ct6 oc7 kV7 dc7 pm7 cd7 ct7 oc8 kV8 dc8 pm8 cd8 ct8 oc9 kV9 dc9 pm9 cd9 ct9 oc10 kV10 dc10 pm10 cd10 ct10 oc11 kV11 dc11 pm11 cd11 ct11 oc12 kV12 dc12 pm12 cd12 ct12 oc13 kV13 dc13 pm13 cd13 ct13 oc14 kV14 dc14 pm14 cd14 ct14 oc15 kV15 dc15 pm15 cd15 ct15 oc16 kV16 dc16 pm16 cd16 ct16 oc17 kV17 dc17 pm17 cd17 ct17 oc18 kV18 dc18 pm18 cd18 ct18 : Value}
    (h0 : PySem.W.nsIn K mainGlobals "book_rows" = some (some (.ref a0))) (l0 : K.lookup a0 = some ⟨oc0, od0, .func (PySem.W.fnOf "book_rows" "book_rows" (defArgs (top 1)) (defBody (top 1)) (defScope (top 1)) .none kV0 dc0 pm0 an0 cd0 ct0), sl0⟩) (e0 : PySem.W.codeIn K cd0 "book_rows" = true) (k0 : PySem.W.keepIn K (.ref a0) = true)
    (h1 : PySem.W.nsIn K mainGlobals "own_strings" = some (some (.ref a1))) (l1 : K.lookup a1 = some ⟨oc1, od1, .func (PySem.W.fnOf "own_strings" "own_strings" (defArgs (top 2)) (defBody (top 2)) (defScope (top 2)) .none kV1 dc1 pm1 an1 cd1 ct1), sl1⟩) (e1 : PySem.W.codeIn K cd1 "own_strings" = true) (k1 : PySem.W.keepIn K (.ref a1) = true)
    (h2 : PySem.W.nsIn K mainGlobals "_law_pool" = some (some (.ref a2))) (l2 : K.lookup a2 = some ⟨oc2, od2, .func (PySem.W.fnOf "_law_pool" "_law_pool" (defArgs (top 4)) (defBody (top 4)) (defScope (top 4)) .none kV2 dc2 pm2 an2 cd2 ct2), sl2⟩) (e2 : PySem.W.codeIn K cd2 "_law_pool" = true) (k2 : PySem.W.keepIn K (.ref a2) = true)
    (h3 : PySem.W.nsIn K mainGlobals "_law_draw" = some (some (.ref a3))) (l3 : K.lookup a3 = some ⟨oc3, od3, .func (PySem.W.fnOf "_law_draw" "_law_draw" (defArgs (top 5)) (defBody (top 5)) (defScope (top 5)) .none kV3 dc3 pm3 an3 cd3 ct3), sl3⟩) (e3 : PySem.W.codeIn K cd3 "_law_draw" = true) (k3 : PySem.W.keepIn K (.ref a3) = true)
    (h4 : PySem.W.nsIn K mainGlobals "_law_tail" = some (some (.ref a4))) (l4 : K.lookup a4 = some ⟨oc4, od4, .func (PySem.W.fnOf "_law_tail" "_law_tail" (defArgs (top 6)) (defBody (top 6)) (defScope (top 6)) .none kV4 dc4 pm4 an4 cd4 ct4), sl4⟩) (e4 : PySem.W.codeIn K cd4 "_law_tail" = true) (k4 : PySem.W.keepIn K (.ref a4) = true)
    (h5 : PySem.W.nsIn K mainGlobals "_law_names" = some (some (.ref a5))) (l5 : K.lookup a5 = some ⟨oc5, od5, .func (PySem.W.fnOf "_law_names" "_law_names" (defArgs (top 7)) (defBody (top 7)) (defScope (top 7)) .none kV5 dc5 pm5 an5 cd5 ct5), sl5⟩) (e5 : PySem.W.codeIn K cd5 "_law_names" = true) (k5 : PySem.W.keepIn K (.ref a5) = true)
    (h6 : PySem.W.nsIn K mainGlobals "_law_letters" = some (some (.ref a6))) (l6 : K.lookup a6 = some ⟨oc6, od6, .func (PySem.W.fnOf "_law_letters" "_law_letters" (defArgs (top 8)) (defBody (top 8)) (defScope (top 8)) .none kV6 dc6 pm6 an6 cd6 ct6), sl6⟩) (e6 : PySem.W.codeIn K cd6 "_law_letters" = true) (k6 : PySem.W.keepIn K (.ref a6) = true)
    (h7 : PySem.W.nsIn K mainGlobals "_law_parts" = some (some (.ref a7))) (l7 : K.lookup a7 = some ⟨oc7, od7, .func (PySem.W.fnOf "_law_parts" "_law_parts" (defArgs (top 9)) (defBody (top 9)) (defScope (top 9)) .none kV7 dc7 pm7 an7 cd7 ct7), sl7⟩) (e7 : PySem.W.codeIn K cd7 "_law_parts" = true) (k7 : PySem.W.keepIn K (.ref a7) = true)
    (h8 : PySem.W.nsIn K mainGlobals "_law_built" = some (some (.ref a8))) (l8 : K.lookup a8 = some ⟨oc8, od8, .func (PySem.W.fnOf "_law_built" "_law_built" (defArgs (top 10)) (defBody (top 10)) (defScope (top 10)) .none kV8 dc8 pm8 an8 cd8 ct8), sl8⟩) (e8 : PySem.W.codeIn K cd8 "_law_built" = true) (k8 : PySem.W.keepIn K (.ref a8) = true)
    (h9 : PySem.W.nsIn K mainGlobals "_law_form" = some (some (.ref a9))) (l9 : K.lookup a9 = some ⟨oc9, od9, .func (PySem.W.fnOf "_law_form" "_law_form" (defArgs (top 11)) (defBody (top 11)) (defScope (top 11)) .none kV9 dc9 pm9 an9 cd9 ct9), sl9⟩) (e9 : PySem.W.codeIn K cd9 "_law_form" = true) (k9 : PySem.W.keepIn K (.ref a9) = true)
    (h10 : PySem.W.nsIn K mainGlobals "_law_head" = some (some (.ref a10))) (l10 : K.lookup a10 = some ⟨oc10, od10, .func (PySem.W.fnOf "_law_head" "_law_head" (defArgs (top 12)) (defBody (top 12)) (defScope (top 12)) .none kV10 dc10 pm10 an10 cd10 ct10), sl10⟩) (e10 : PySem.W.codeIn K cd10 "_law_head" = true) (k10 : PySem.W.keepIn K (.ref a10) = true)
    (h11 : PySem.W.nsIn K mainGlobals "_law_wants" = some (some (.ref a11))) (l11 : K.lookup a11 = some ⟨oc11, od11, .func (PySem.W.fnOf "_law_wants" "_law_wants" (defArgs (top 13)) (defBody (top 13)) (defScope (top 13)) .none kV11 dc11 pm11 an11 cd11 ct11), sl11⟩) (e11 : PySem.W.codeIn K cd11 "_law_wants" = true) (k11 : PySem.W.keepIn K (.ref a11) = true)
    (h12 : PySem.W.nsIn K mainGlobals "_law_maker" = some (some (.ref a12))) (l12 : K.lookup a12 = some ⟨oc12, od12, .func (PySem.W.fnOf "_law_maker" "_law_maker" (defArgs (top 14)) (defBody (top 14)) (defScope (top 14)) .none kV12 dc12 pm12 an12 cd12 ct12), sl12⟩) (e12 : PySem.W.codeIn K cd12 "_law_maker" = true) (k12 : PySem.W.keepIn K (.ref a12) = true)
    (h13 : PySem.W.nsIn K mainGlobals "_law_book" = some (some (.ref a13))) (l13 : K.lookup a13 = some ⟨oc13, od13, .func (PySem.W.fnOf "_law_book" "_law_book" (defArgs (top 15)) (defBody (top 15)) (defScope (top 15)) .none kV13 dc13 pm13 an13 cd13 ct13), sl13⟩) (e13 : PySem.W.codeIn K cd13 "_law_book" = true) (k13 : PySem.W.keepIn K (.ref a13) = true)
    (h14 : PySem.W.nsIn K mainGlobals "_law_written" = some (some (.ref a14))) (l14 : K.lookup a14 = some ⟨oc14, od14, .func (PySem.W.fnOf "_law_written" "_law_written" (defArgs (top 16)) (defBody (top 16)) (defScope (top 16)) .none kV14 dc14 pm14 an14 cd14 ct14), sl14⟩) (e14 : PySem.W.codeIn K cd14 "_law_written" = true) (k14 : PySem.W.keepIn K (.ref a14) = true)
    (h15 : PySem.W.nsIn K mainGlobals "_law_rows" = some (some (.ref a15))) (l15 : K.lookup a15 = some ⟨oc15, od15, .func (PySem.W.fnOf "_law_rows" "_law_rows" (defArgs (top 17)) (defBody (top 17)) (defScope (top 17)) .none kV15 dc15 pm15 an15 cd15 ct15), sl15⟩) (e15 : PySem.W.codeIn K cd15 "_law_rows" = true) (k15 : PySem.W.keepIn K (.ref a15) = true)
    (h16 : PySem.W.nsIn K mainGlobals "_law_same" = some (some (.ref a16))) (l16 : K.lookup a16 = some ⟨oc16, od16, .func (PySem.W.fnOf "_law_same" "_law_same" (defArgs (top 18)) (defBody (top 18)) (defScope (top 18)) .none kV16 dc16 pm16 an16 cd16 ct16), sl16⟩) (e16 : PySem.W.codeIn K cd16 "_law_same" = true) (k16 : PySem.W.keepIn K (.ref a16) = true)
    (h17 : PySem.W.nsIn K mainGlobals "_law_changed" = some (some (.ref a17))) (l17 : K.lookup a17 = some ⟨oc17, od17, .func (PySem.W.fnOf "_law_changed" "_law_changed" (defArgs (top 19)) (defBody (top 19)) (defScope (top 19)) .none kV17 dc17 pm17 an17 cd17 ct17), sl17⟩) (e17 : PySem.W.codeIn K cd17 "_law_changed" = true) (k17 : PySem.W.keepIn K (.ref a17) = true)
    (h18 : PySem.W.nsIn K mainGlobals "law" = some (some (.ref a18))) (l18 : K.lookup a18 = some ⟨oc18, od18, .func (PySem.W.fnOf "law" "law" (defArgs (top 20)) (defBody (top 20)) (defScope (top 20)) .none kV18 dc18 pm18 an18 cd18 ct18), sl18⟩) (e18 : PySem.W.codeIn K cd18 "law" = true) (k18 : PySem.W.keepIn K (.ref a18) = true)
    (z0 : PySem.W.nsIn K mainGlobals "bool" = some none)
    (z1 : PySem.W.nsIn K mainGlobals "int" = some none)
    (z2 : PySem.W.nsIn K mainGlobals "isinstance" = some none)
    (z3 : PySem.W.nsIn K mainGlobals "len" = some none)
    (z4 : PySem.W.nsIn K mainGlobals "list" = some none)
    (z5 : PySem.W.nsIn K mainGlobals "max" = some none)
    (z6 : PySem.W.nsIn K mainGlobals "range" = some none)
    (z7 : PySem.W.nsIn K mainGlobals "sorted" = some none)
    (z8 : PySem.W.nsIn K mainGlobals "str" = some none)
    (z9 : PySem.W.nsIn K mainGlobals "sum" = some none)
    (z10 : PySem.W.nsIn K mainGlobals "tuple" = some none)
    : ∃ fd : FuncData, (∀ (s : Shared) (v : Value), BindsTo s fd ⟨[v], []⟩ [("script", v)]) ∧ ∀ base : Heap, K.In base → base.Ns mainGlobals mg → FnOk l.prog w K mg base CX0 40 fa fd ["script"] (spD K 1 (run F G 40 18)) := by
  have ee := hfa.symm.trans (PySem.W.mg_of X Gg h18)
  cases ee
  have hd : ∀ (f : Nat) (x : Str) (n : Nat), Gm.fns[f]? = some (x, n) → DefAt K mg Gm F f x := by
    intro f x n hf
    match f, hf with
    | 0, hf =>
      have hf : (some ("book_rows", 1) : Option (Str × Nat)) = some (x, n) := hf
      cases hf
      exact defAt_mk (fn := f0) (ps := ["book"]) rfl (PySem.W.mg_of X Gg h0) l0 e0 k0 c0 rfl fun _ _ _ _ _ _ us hl => match us, hl with
        | [_], _ => rfl
    | 1, hf =>
      have hf : (some ("own_strings", 3) : Option (Str × Nat)) = some (x, n) := hf
      cases hf
      exact defAt_mk (fn := f1) (ps := ["name", "manner", "many"]) rfl (PySem.W.mg_of X Gg h1) l1 e1 k1 c1 rfl fun _ _ _ _ _ _ us hl => match us, hl with
        | [_, _, _], _ => rfl
    | 2, hf =>
      have hf : (some ("_law_pool", 2) : Option (Str × Nat)) = some (x, n) := hf
      cases hf
      exact defAt_mk (fn := f2) (ps := ["script", "salt"]) rfl (PySem.W.mg_of X Gg h2) l2 e2 k2 c2 rfl fun _ _ _ _ _ _ us hl => match us, hl with
        | [_, _], _ => rfl
    | 3, hf =>
      have hf : (some ("_law_draw", 2) : Option (Str × Nat)) = some (x, n) := hf
      cases hf
      exact defAt_mk (fn := f3) (ps := ["pool", "many"]) rfl (PySem.W.mg_of X Gg h3) l3 e3 k3 c3 rfl fun _ _ _ _ _ _ us hl => match us, hl with
        | [_, _], _ => rfl
    | 4, hf =>
      have hf : (some ("_law_tail", 3) : Option (Str × Nat)) = some (x, n) := hf
      cases hf
      exact defAt_mk (fn := f4) (ps := ["pool", "signs", "most"]) rfl (PySem.W.mg_of X Gg h4) l4 e4 k4 c4 rfl fun _ _ _ _ _ _ us hl => match us, hl with
        | [_, _, _], _ => rfl
    | 5, hf =>
      have hf : (some ("_law_names", 2) : Option (Str × Nat)) = some (x, n) := hf
      cases hf
      exact defAt_mk (fn := f5) (ps := ["pool", "many"]) rfl (PySem.W.mg_of X Gg h5) l5 e5 k5 c5 rfl fun _ _ _ _ _ _ us hl => match us, hl with
        | [_, _], _ => rfl
    | 6, hf =>
      have hf : (some ("_law_letters", 1) : Option (Str × Nat)) = some (x, n) := hf
      cases hf
      exact defAt_mk (fn := f6) (ps := ["pool"]) rfl (PySem.W.mg_of X Gg h6) l6 e6 k6 c6 rfl fun _ _ _ _ _ _ us hl => match us, hl with
        | [_], _ => rfl
    | 7, hf =>
      have hf : (some ("_law_parts", 1) : Option (Str × Nat)) = some (x, n) := hf
      cases hf
      exact defAt_mk (fn := f7) (ps := ["form"]) rfl (PySem.W.mg_of X Gg h7) l7 e7 k7 c7 rfl fun _ _ _ _ _ _ us hl => match us, hl with
        | [_], _ => rfl
    | 8, hf =>
      have hf : (some ("_law_built", 1) : Option (Str × Nat)) = some (x, n) := hf
      cases hf
      exact defAt_mk (fn := f8) (ps := ["tokens"]) rfl (PySem.W.mg_of X Gg h8) l8 e8 k8 c8 rfl fun _ _ _ _ _ _ us hl => match us, hl with
        | [_], _ => rfl
    | 9, hf =>
      have hf : (some ("_law_form", 4) : Option (Str × Nat)) = some (x, n) := hf
      cases hf
      exact defAt_mk (fn := f9) (ps := ["pool", "stems", "letters", "room"]) rfl (PySem.W.mg_of X Gg h9) l9 e9 k9 c9 rfl fun _ _ _ _ _ _ us hl => match us, hl with
        | [_, _, _, _], _ => rfl
    | 10, hf =>
      have hf : (some ("_law_head", 3) : Option (Str × Nat)) = some (x, n) := hf
      cases hf
      exact defAt_mk (fn := f10) (ps := ["pool", "stems", "letters"]) rfl (PySem.W.mg_of X Gg h10) l10 e10 k10 c10 rfl fun _ _ _ _ _ _ us hl => match us, hl with
        | [_, _, _], _ => rfl
    | 11, hf =>
      have hf : (some ("_law_wants", 4) : Option (Str × Nat)) = some (x, n) := hf
      cases hf
      exact defAt_mk (fn := f11) (ps := ["pool", "stems", "classes", "letters"]) rfl (PySem.W.mg_of X Gg h11) l11 e11 k11 c11 rfl fun _ _ _ _ _ _ us hl => match us, hl with
        | [_, _, _, _], _ => rfl
    | 12, hf =>
      have hf : (some ("_law_maker", 3) : Option (Str × Nat)) = some (x, n) := hf
      cases hf
      exact defAt_mk (fn := f12) (ps := ["pool", "stems", "classes"]) rfl (PySem.W.mg_of X Gg h12) l12 e12 k12 c12 rfl fun _ _ _ _ _ _ us hl => match us, hl with
        | [_, _, _], _ => rfl
    | 13, hf =>
      have hf : (some ("_law_book", 2) : Option (Str × Nat)) = some (x, n) := hf
      cases hf
      exact defAt_mk (fn := f13) (ps := ["pool", "wide"]) rfl (PySem.W.mg_of X Gg h13) l13 e13 k13 c13 rfl fun _ _ _ _ _ _ us hl => match us, hl with
        | [_, _], _ => rfl
    | 14, hf =>
      have hf : (some ("_law_written", 3) : Option (Str × Nat)) = some (x, n) := hf
      cases hf
      exact defAt_mk (fn := f14) (ps := ["name", "manner", "many"]) rfl (PySem.W.mg_of X Gg h14) l14 e14 k14 c14 rfl fun _ _ _ _ _ _ us hl => match us, hl with
        | [_, _, _], _ => rfl
    | 15, hf =>
      have hf : (some ("_law_rows", 1) : Option (Str × Nat)) = some (x, n) := hf
      cases hf
      exact defAt_mk (fn := f15) (ps := ["book"]) rfl (PySem.W.mg_of X Gg h15) l15 e15 k15 c15 rfl fun _ _ _ _ _ _ us hl => match us, hl with
        | [_], _ => rfl
    | 16, hf =>
      have hf : (some ("_law_same", 2) : Option (Str × Nat)) = some (x, n) := hf
      cases hf
      exact defAt_mk (fn := f16) (ps := ["told", "due"]) rfl (PySem.W.mg_of X Gg h16) l16 e16 k16 c16 rfl fun _ _ _ _ _ _ us hl => match us, hl with
        | [_, _], _ => rfl
    | 17, hf =>
      have hf : (some ("_law_changed", 2) : Option (Str × Nat)) = some (x, n) := hf
      cases hf
      exact defAt_mk (fn := f17) (ps := ["pool", "book"]) rfl (PySem.W.mg_of X Gg h17) l17 e17 k17 c17 rfl fun _ _ _ _ _ _ us hl => match us, hl with
        | [_, _], _ => rfl
    | 18, hf =>
      have hf : (some ("law", 1) : Option (Str × Nat)) = some (x, n) := hf
      cases hf
      exact defAt_mk (fn := f18) (ps := ["script"]) rfl (PySem.W.mg_of X Gg h18) l18 e18 k18 c18 rfl fun _ _ _ _ _ _ us hl => match us, hl with
        | [_], _ => rfl
    | n + 19, hf => cases hf
  have hb : ∀ x ∈ Gm.blt, mg x = none := by
    intro x hx
    have hx : x ∈ (["bool", "int", "isinstance", "len", "list", "max", "range", "sorted", "str", "sum", "tuple"] : List Str) := hx
    simp only [List.mem_cons, List.not_mem_nil, or_false] at hx
    rcases hx with rfl | rfl | rfl | rfl | rfl | rfl | rfl | rfl | rfl | rfl | rfl
    · exact PySem.W.mg_none_of X Gg z0
    · exact PySem.W.mg_none_of X Gg z1
    · exact PySem.W.mg_none_of X Gg z2
    · exact PySem.W.mg_none_of X Gg z3
    · exact PySem.W.mg_none_of X Gg z4
    · exact PySem.W.mg_none_of X Gg z5
    · exact PySem.W.mg_none_of X Gg z6
    · exact PySem.W.mg_none_of X Gg z7
    · exact PySem.W.mg_none_of X Gg z8
    · exact PySem.W.mg_none_of X Gg z9
    · exact PySem.W.mg_none_of X Gg z10
  exact ⟨_, fun s v => .of_eq rfl, fun base _ _ => law_fn (k := 39) (f := 18) (fn := f18) hd (fun g x d hg => by cases hg) hb rfl l18 e18 k18 c18⟩
end Wk32
namespace Wk32
open PySem PySem.Spec PyProof.Rows L2 DL
def Pool (h : Hd) : Prop := ∃ (cells : List Int) (a b c : Int), h[0]? = some (.lst (cells.map .int)) ∧ h[1]? = some (.lst [.obj 0, .int a, .int b, .int c]) ∧ 0 ≤ a ∧ 0 ≤ b ∧ 0 ≤ c ∧ cells.length ≤ 63 ∧ ∀ x ∈ cells, 0 ≤ x
structure Stp (h h' : Hd) : Prop where
  len : h'.length = h.length
  pool : Pool h'
  same : ∀ i, i ≠ 1 → h'[i]? = h[i]?
theorem Pool.two {h : Hd} (p : Pool h) : 2 ≤ h.length := by
  obtain ⟨_, _, _, _, _, e, _⟩ := p
  have := (List.getElem?_eq_some_iff.mp e).1
  omega
theorem Pool.app {h : Hd} (p : Pool h) (L : Hd) : Pool (h ++ L) := by
  have two := p.two
  obtain ⟨cells, a, b, c, e0, e1, r⟩ := p
  exact ⟨cells, a, b, c, by rw [get_lo (by omega)]; exact e0, by rw [get_lo (by omega)]; exact e1, r⟩
theorem Stp.refl {h : Hd} (p : Pool h) : Stp h h := ⟨rfl, p, fun _ _ => rfl⟩
theorem Stp.trans {h h1 h2 : Hd} (a : Stp h h1) (b : Stp h1 h2) : Stp h h2 := ⟨b.len.trans a.len, b.pool, fun i hi => (b.same i hi).trans (a.same i hi)⟩
theorem Stp.eld {h h1 : Hd} (s : Stp h h1) : Eld h h1 := ⟨s.len, fun i o e => by
  by_cases hi : i = 1
  · subst hi
    obtain ⟨_, a, b, c, _, e1, _⟩ := s.pool
    rw [e1] at e
    cases e
    have two := s.pool.two
    have l := s.len
    right
    show (decide (0 < h.length) && (true && (true && (true && true)))) = true
    rw [decide_eq_true (by omega)]
    rfl
  · rw [s.same i hi] at e
    exact .inl e⟩
theorem Stp.cut {h L h' : Hd} (two : 2 ≤ h.length) (s : Stp (h ++ L) h') : ∃ h1, h' = h1 ++ L ∧ Stp h h1 := by
  have l := s.len
  rw [List.length_append] at l
  refine ⟨h'.take h.length, ?_, ?_⟩
  · apply List.ext_getElem?
    intro i
    by_cases hi : i < h.length
    · rw [List.getElem?_append_left (by rw [List.length_take]; omega), List.getElem?_take_of_lt hi]
    · rw [s.same i (by omega), List.getElem?_append_right (by omega), List.getElem?_append_right (by rw [List.length_take]; omega), List.length_take]
      congr 1
      omega
  · refine ⟨by rw [List.length_take]; omega, ?_, fun i hi => ?_⟩
    · obtain ⟨cells, a, b, c, e0, e1, r⟩ := s.pool
      exact ⟨cells, a, b, c, by rw [List.getElem?_take_of_lt (by omega)]; exact e0, by rw [List.getElem?_take_of_lt (by omega)]; exact e1, r⟩
    · by_cases hl : i < h.length
      · rw [List.getElem?_take_of_lt hl, s.same i hi, get_lo hl]
      · rw [List.getElem?_eq_none (by rw [List.length_take]; omega), List.getElem?_eq_none (by omega)]
def Sp (r : Hd → R W) (P : W → Prop) : Prop := ∀ h, Pool h → ∃ w h', r h = .ok w h' ∧ Stp h h' ∧ P w
theorem Sp.app {r : Hd → R W} {P : W → Prop} (s : Sp r P) {h : Hd} (p : Pool h) (L : Hd) : ∃ w h', r (h ++ L) = .ok w (h' ++ L) ∧ Stp h h' ∧ P w := by
  obtain ⟨w, h', e, st, q⟩ := s (h ++ L) (p.app L)
  obtain ⟨h1, rfl, st2⟩ := st.cut p.two
  exact ⟨w, h1, e, st2, q⟩
theorem Stp.mk' {h : Hd} {cells : List Int} {a b c : Int} (e0 : h[0]? = some (.lst (cells.map .int))) (l2 : 1 < h.length) (ha : 0 ≤ a) (hb : 0 ≤ b) (hc : 0 ≤ c) (hl : cells.length ≤ 63) (hx : ∀ x ∈ cells, 0 ≤ x) :
    Stp h (h.set 1 (.lst [.obj 0, .int a, .int b, .int c])) :=
  ⟨by simp, ⟨cells, a, b, c, by simpa using e0, by simp [l2], ha, hb, hc, hl, hx⟩, fun i hi => by rw [List.getElem?_set_ne (Ne.symm hi)]⟩
theorem gc_v0 {h h1 : Hd} {d : D} (e : Eld h h1) (hd : d.noObj = true) : gc h (.ok (.v d) h1) = .ok (.v d) h1 := by
  have := gc_v (L := []) e hd
  rw [List.append_nil] at this
  exact this
theorem draw_sp (k : Nat) (m : Int) (h1 : 1 ≤ m) (h2 : m < 2 ^ 64) : Sp (run F G (k + 1) 3 [.obj 1, .int m]) fun w => ∃ d, w = .v (.int d) ∧ 0 ≤ d ∧ d < m := by
  intro h p
  obtain ⟨cells, a, b, c, e0, e1, ha, hb, hc, hl, hx⟩ := p
  have l2 : 1 < h.length := (List.getElem?_eq_some_iff.mp e1).1
  have i0 : ∀ {α : Type} (x y z w : α), atI [x, y, z, w] 0 = some x := fun _ _ _ _ => rfl
  have i1 : ∀ {α : Type} (x y z w : α), atI [x, y, z, w] 1 = some y := fun _ _ _ _ => rfl
  have i2 : ∀ {α : Type} (x y z w : α), atI [x, y, z, w] 2 = some z := fun _ _ _ _ => rfl
  have i3 : ∀ {α : Type} (x y z w : α), atI [x, y, z, w] 3 = some w := fun _ _ _ _ => rfl
  have n1 : ixN 4 1 = some 1 := rfl
  have n2 : ixN 4 2 = some 2 := rfl
  have n3 : ixN 4 3 = some 3 := rfl
  refine run_ok (fn := f3) rfl rfl ?_
  show Ok (sdns (run F G k) G f3.body [some (.obj 1), some (.int m), none, none] h) _
  unfold f3
  simp only []
  have rest : ∀ (x : Option D) (a b c : Int) (g : Hd), 0 ≤ a → 0 ≤ b → 0 ≤ c → g = h.set 1 (.lst [.obj 0, .int a, .int b, .int c]) → Ok (sdns (run F G k) G (f3.body.drop 1) [some (.obj 1), some (.int m), x, none] g) (Fin h fun w h' => Stp h h' ∧ ∃ d, w = .v (.int d) ∧ 0 ≤ d ∧ d < m) := by
    intro x a b c g ha hb hc eg
    have g1 : g[1]? = some (.lst [.obj 0, .int a, .int b, .int c]) := by rw [eg]; simp [l2]
    have gl : 1 < g.length := by rw [eg]; simpa using l2
    unfold f3
    simp only [List.drop_succ_cons, List.drop_zero]
    have m0 : 0 < m := by omega
    have mn : m < 18446744073709551616 := h2
    have dm : 0 ≤ a % m ∧ a % m < m := ⟨Int.emod_nonneg _ (by omega), Int.emod_lt_of_pos _ m0⟩
    refine Ok.if_ (t := decide (0 < a)) (h1 := g) (by simp [g1, i1]) (fun ht => ?_) (fun hf => ?_)
    · refine Ok.nx (σ' := [some (.obj 1), some (.int m), x, some (.int (a % m))]) (h1 := g) (by simp [g1, i1, m0]) ?_
      refine Ok.nx (σ' := [some (.obj 1), some (.int m), x, some (.int (a % m))]) (h1 := g.set 1 (.lst [.obj 0, .int (a / m), .int b, .int c])) (by simp [g1, i1, m0, mn, n1]) ?_
      refine Ok.ret (w := .v (.int (a % m))) (h1 := g.set 1 (.lst [.obj 0, .int (a / m), .int b, .int c])) (by simp) ?_
      have st : Stp h (g.set 1 (.lst [.obj 0, .int (a / m), .int b, .int c])) := by
        rw [eg, List.set_set]
        exact .mk' e0 l2 (Int.ediv_nonneg ha (by omega)) hb hc hl hx
      exact .eq (gc_v0 st.eld rfl) ⟨st, _, rfl, dm⟩
    · have b2 := Int.emod_nonneg (b * 48271 + 1013) (b := 2147483647) (by omega)
      have d2 : 0 ≤ ((b * 48271 + 1013) % 2147483647 / 19) % m ∧ ((b * 48271 + 1013) % 2147483647 / 19) % m < m := ⟨Int.emod_nonneg _ (by omega), Int.emod_lt_of_pos _ m0⟩
      have w1 : wide 48271 = true := by decide
      refine Ok.nx (σ' := [some (.obj 1), some (.int m), x, none]) (h1 := g.set 1 (.lst [.obj 0, .int a, .int ((b * 48271 + 1013) % 2147483647), .int c])) (by simp [g1, i2, n2, w1]) ?_
      refine Ok.ret (w := .v (.int (((b * 48271 + 1013) % 2147483647 / 19) % m))) (h1 := g.set 1 (.lst [.obj 0, .int a, .int ((b * 48271 + 1013) % 2147483647), .int c])) (by simp [gl, i2, m0]) ?_
      have st : Stp h (g.set 1 (.lst [.obj 0, .int a, .int ((b * 48271 + 1013) % 2147483647), .int c])) := by
        rw [eg, List.set_set]
        exact .mk' e0 l2 ha b2 hc hl hx
      exact .eq (gc_v0 st.eld rfl) ⟨st, _, rfl, d2⟩
  refine Ok.if_ (t := decide (a = 0) && decide (c < cells.length)) (h1 := h) ?_ (fun ht => ?_) (fun hf => ?_)
  · by_cases z : a = 0 <;> simp [e0, e1, i0, i1, i3, z]
  · simp only [Bool.and_eq_true, decide_eq_true_eq] at ht
    obtain ⟨ha0, hcl⟩ := ht
    have hcn : c.toNat < cells.length := by omega
    have ec : atI (cells.map D.int) c = some (.int cells[c.toNat]) := by
      rw [atI_pos hc (by simpa using hcl), List.getElem?_map, List.getElem?_eq_getElem hcn]
      rfl
    have v0 : 0 ≤ cells[c.toNat] := hx _ (List.getElem_mem _)
    generalize cells[c.toNat] = v at ec v0
    refine Ok.nx (σ' := [some (.obj 1), some (.int m), some (.int v), none]) (h1 := h) (by simp [e0, e1, i0, i3, ec]) ?_
    refine Ok.nx (σ' := [some (.obj 1), some (.int m), some (.int v), none]) (h1 := h.set 1 (.lst [.obj 0, .int a, .int b, .int (c + 1)])) (by simp [e1, i3, n3]) ?_
    refine Ok.if_ (t := decide (1000000000000000000 ≤ v)) (h1 := h.set 1 (.lst [.obj 0, .int a, .int b, .int (c + 1)])) (by simp) (fun ht => ?_) (fun hf => ?_)
    · refine Ok.nx (σ' := [some (.obj 1), some (.int m), some (.int v), none]) (h1 := h.set 1 (.lst [.obj 0, .int v, .int b, .int (c + 1)])) (by simp [l2, n1]) ?_
      exact rest _ v b (c + 1) _ v0 hb (by omega) rfl
    · have w1 : wide 16807 = true := by decide
      have w2 : wide 2 = true := by decide
      refine Ok.nx (σ' := [some (.obj 1), some (.int m), some (.int v), none]) (h1 := h.set 1 (.lst [.obj 0, .int a, .int ((b * 16807 + v * 2 + 5) % 2147483647), .int (c + 1)])) (by simp [l2, i2, n2, w1, w2]) ?_
      exact rest _ a _ (c + 1) _ ha (Int.emod_nonneg _ (by omega)) (by omega) rfl
  · exact rest _ a b c h ha hb hc (by
      have : h.set 1 (.lst [.obj 0, .int a, .int b, .int c]) = h := by
        apply List.ext_getElem?
        intro i
        by_cases hi : i = 1
        · subst hi; rw [List.getElem?_set_self l2, e1]
        · rw [List.getElem?_set_ne (Ne.symm hi)]
      exact this.symm)
end Wk32
namespace Wk32
open PySem PySem.Spec PyProof.Rows L2 DL
theorem atI_mem {α : Type} {s : List α} {i : Int} (h0 : 0 ≤ i) (h1 : i < s.length) : ∃ x, atI s i = some x ∧ x ∈ s ∧ s[i.toNat]? = some x := by
  have hl : i.toNat < s.length := by omega
  exact ⟨s[i.toNat], by rw [atI_pos h0 h1, List.getElem?_eq_getElem hl], List.getElem_mem _, List.getElem?_eq_getElem hl⟩
theorem rng0 {d : Int} (h0 : 0 ≤ d) (h1 : d ≤ 1000000000) : rngSrc 0 d = some (.fx (rgs 0 d.toNat)) := by
  have := rng_src (lo := 0) (hi := d) (by omega) (by omega) (by omega) h1
  rw [Int.sub_zero] at this
  exact this
theorem rg0 {n i : Nat} {d : D} (e : (rgs 0 n)[i]? = some d) : d = .int i ∧ i < n := by
  have := ints_get e
  rw [Int.zero_add] at this
  exact this
def Tx (n : Nat) (s : List Nat) : Prop := s.length ≤ n ∧ ∀ c ∈ s, c < 1114112
theorem Tx.line {n : Nat} {s : List Nat} (t : Tx n s) (h : n ≤ 1000) : s.length ≤ sizeLine := by
  rw [sizeLine_eq]
  have := t.1
  omega
theorem draw_at (k : Nat) (m : Int) (h1 : 1 ≤ m) (h2 : m ≤ 1000000) {h : Hd} (p : Pool h) (L : Hd) : ∃ d h', run F G (k + 1) 3 [.obj 1, .int m] (h ++ L) = .ok (.v (.int d)) (h' ++ L) ∧ Stp h h' ∧ 0 ≤ d ∧ d < m := by
  obtain ⟨w, h', e, s, d, rfl, q⟩ := (draw_sp k m h1 (by omega)).app p L
  exact ⟨d, h', e, s, q⟩
theorem draw_0 (k : Nat) (m : Int) (h1 : 1 ≤ m) (h2 : m ≤ 1000000) {h : Hd} (p : Pool h) : ∃ d h', run F G (k + 1) 3 [.obj 1, .int m] h = .ok (.v (.int d)) h' ∧ Stp h h' ∧ 0 ≤ d ∧ d < m := by
  obtain ⟨w, h', e, s, d, rfl, q⟩ := draw_sp k m h1 (by omega) h p
  exact ⟨d, h', e, s, q⟩
theorem tail_sp (k : Nat) {signs : List Nat} {most : Int} (hs : Tx 100 signs) (h1 : 1 ≤ signs.length) (m0 : 0 ≤ most) (m1 : most ≤ 100) : Sp (run F G (k + 2) 4 [.obj 1, .str signs, .int most]) fun w => ∃ t, w = .v (.str t) ∧ Tx most.toNat t := by
  intro h p
  have hz := hs.line (by omega)
  refine run_ok (fn := f4) rfl rfl ?_
  show Ok (sdns (run F G (k + 1)) G f4.body [some (.obj 1), some (.str signs), some (.int most), none, none] h) _
  unfold f4
  simp only []
  refine Ok.nx (σ' := [some (.obj 1), some (.str signs), some (.int most), some (.str []), none]) (h1 := h) (by simp) ?_
  obtain ⟨d, g1, e1, s1, d0, d1⟩ := draw_0 k (most + 1) (by omega) (by omega) p
  refine Ok.for_ (s := .fx (rgs 0 d.toNat)) (h1 := g1) (fun i σ g => ∃ t x, σ = [some (.obj 1), some (.str signs), some (.int most), some (.str t), x] ∧ Tx i t ∧ Stp h g) (by simp [e1, rng0 d0 (show d ≤ 1000000000 by omega)]) (.fx _)
    ⟨[], none, rfl, ⟨Nat.le_refl _, by simp⟩, s1⟩ (fun _ _ _ _ => trivial) ?_ ?_
  · rintro i x σ g hx ⟨t, y, rfl, ht, sg⟩
    obtain ⟨rfl, hi⟩ := rg0 hx
    obtain ⟨d', g2, e2, s2, b0, b1⟩ := draw_0 k signs.length (by omega) (by have := hs.1; omega) sg.pool
    obtain ⟨c, ec, mc, _⟩ := atI_mem b0 b1
    have tz : t.length + 1 ≤ sizeLine := by rw [sizeLine_eq]; have := ht.1; omega
    refine ⟨_, rfl, Ok.nx (σ' := [some (.obj 1), some (.str signs), some (.int most), some (.str (t ++ [c])), some (.int i)]) (h1 := g2) (by simp [hz, e2, ec, tz]) (Ok.nil ?_)⟩
    exact ⟨t ++ [c], _, rfl, ⟨by simpa using ht.1, fun z hz => by
      rcases List.mem_append.mp hz with q | q
      · exact ht.2 z q
      · rw [List.mem_singleton.mp q]; exact hs.2 c mc⟩, sg.trans s2⟩
  · rintro σ g ⟨t, x, rfl, ht, sg⟩
    refine Ok.ret (w := .v (.str t)) (h1 := g) (by simp) ?_
    rw [ints_len] at ht
    exact .eq (gc_v0 sg.eld rfl) ⟨sg, t, rfl, ⟨by have := ht.1; omega, ht.2⟩⟩
end Wk32
namespace Wk32
open PySem PySem.Spec PyProof.Rows L2 DL
def capS : List Nat := [65, 66, 67, 68, 69, 70, 71, 72, 73, 74, 75, 76, 77, 78, 79, 80, 81, 82, 83, 84, 85, 86, 87, 88, 89, 90]
def innS : List Nat := [97, 98, 99, 100, 101, 102, 103, 104, 105, 106, 107, 108, 109, 110, 111, 112, 113, 114, 115, 116, 117, 118, 119, 120, 121, 122, 65, 66, 67, 68, 69, 70, 71, 72, 73, 74, 75, 76, 77, 78, 79, 80, 81, 82, 83, 84, 85, 86, 87, 88, 89, 90, 48, 49, 50, 51, 52, 53, 54, 55, 56, 57]
theorem capT : Tx 100 capS := by refine ⟨by decide, by decide⟩
theorem innT : Tx 100 innS := by refine ⟨by decide, by decide⟩
theorem gc_l0 {h h1 : Hd} {xs : List D} (e : Eld h h1) (hd : D.noObjs xs = true) : gc h (.ok (.l xs) h1) = .ok (.l xs) h1 := by
  have := gc_l (L := []) e hd
  rw [List.append_nil] at this
  exact this
theorem noStrs : ∀ ns : List (List Nat), D.noObjs (ns.map D.str) = true
  | [] => rfl
  | n :: ns => noStrs ns
def Nms (n : Nat) (ys : List D) : Prop := ∃ ns : List (List Nat), ys = ns.map .str ∧ ns.length = n ∧ ∀ x ∈ ns, Tx 8 x
theorem Nms.push {n : Nat} {ys : List D} {x : List Nat} (a : Nms n ys) (hx : Tx 8 x) : Nms (n + 1) (ys ++ [.str x]) := by
  obtain ⟨ns, rfl, hl, hn⟩ := a
  exact ⟨ns ++ [x], by simp, by simp [hl], fun z hz => by
    rcases List.mem_append.mp hz with q | q
    · exact hn z q
    · rw [List.mem_singleton.mp q]; exact hx⟩
theorem names_sp (k : Nat) {many : Int} (m0 : 0 ≤ many) (m1 : many ≤ 10) : Sp (run F G (k + 3) 5 [.obj 1, .int many]) fun w => ∃ ys, w = .l ys ∧ Nms many.toNat ys := by
  intro h p
  refine run_ok (fn := f5) rfl rfl ?_
  show Ok (sdns (run F G (k + 2)) G f5.body [some (.obj 1), some (.int many), none, none, none, none, none, none, none] h) _
  unfold f5
  simp only []
  refine Ok.nx (σ' := [some (.obj 1), some (.int many), some (.str capS), none, none, none, none, none, none]) (h1 := h) (by simp [capS]) ?_
  refine Ok.nx (σ' := [some (.obj 1), some (.int many), some (.str capS), some (.str innS), none, none, none, none, none]) (h1 := h) (by simp [innS]) ?_
  have cl : capS.length = 26 := rfl
  have il : innS.length = 62 := rfl
  have cz : capS.length ≤ sizeLine := capT.line (by omega)
  have iz : innS.length ≤ sizeLine := innT.line (by omega)
  generalize hcap : capS = cap at cl cz
  have cT : Tx 100 cap := hcap ▸ capT
  generalize hinn : innS = inn at il iz
  have iT : Tx 100 inn := hinn ▸ innT
  obtain ⟨fi, g1, e1, s1, f0, f1⟩ := draw_0 (k + 1) 26 (by omega) (by omega) p
  refine Ok.nx (σ' := [some (.obj 1), some (.int many), some (.str cap), some (.str inn), some (.int fi), none, none, none, none]) (h1 := g1) (by simp [e1]) ?_
  obtain ⟨d2, g2, e2, s2, b0, b1⟩ := draw_0 (k + 1) 6 (by omega) (by omega) s1.pool
  have st : ∃ st : Int, atI [D.int 1, .int 3, .int 5, .int 7, .int 9, .int 11] d2 = some (.int st) ∧ 0 ≤ st ∧ st ≤ 11 := by
    have : d2 = 0 ∨ d2 = 1 ∨ d2 = 2 ∨ d2 = 3 ∨ d2 = 4 ∨ d2 = 5 := by omega
    rcases this with rfl | rfl | rfl | rfl | rfl | rfl
    · exact ⟨1, rfl, by omega, by omega⟩
    · exact ⟨3, rfl, by omega, by omega⟩
    · exact ⟨5, rfl, by omega, by omega⟩
    · exact ⟨7, rfl, by omega, by omega⟩
    · exact ⟨9, rfl, by omega, by omega⟩
    · exact ⟨11, rfl, by omega, by omega⟩
  obtain ⟨st, est, st0, st1⟩ := st
  refine Ok.nx (σ' := [some (.obj 1), some (.int many), some (.str cap), some (.str inn), some (.int fi), some (.int st), none, none, none]) (h1 := g2) (by simp [e2, est, sizeLine_eq]) ?_
  have s2 := s1.trans s2
  have rest : ∀ (x : Option D) (g : Hd) (ys : List D), Stp h g → Nms many.toNat ys →
      Ok (sdns (run F G (k + 2)) G (f5.body.drop 5) [some (.obj 1), some (.int many), some (.str cap), some (.str inn), some (.int fi), some (.int st), x, some (.obj g.length), none] (g ++ [.lst ys])) (Fin h fun w h' => Stp h h' ∧ ∃ ys, w = .l ys ∧ Nms many.toNat ys) := by
    intro x g ys sg hy
    unfold f5
    simp only [List.drop_succ_cons, List.drop_zero]
    obtain ⟨d, g3, e3, s3, c0, c1⟩ := draw_at (k + 1) 2 (by omega) (by omega) sg.pool [.lst ys]
    refine Ok.if_ (t := decide (d = 0)) (h1 := g3 ++ [.lst ys]) (by simp [e3]) (fun ht => ?_) (fun hf => ?_)
    · refine Ok.nx (σ' := [some (.obj 1), some (.int many), some (.str cap), some (.str inn), some (.int fi), some (.int st), x, some (.obj g.length), none]) (h1 := g3 ++ [.lst ys.reverse]) (by simp [s3.len]) ?_
      refine Ok.ret (w := .v (.obj g.length)) (h1 := g3 ++ [.lst ys.reverse]) (by simp) ?_
      obtain ⟨ns, rfl, hl, hn⟩ := hy
      have st := sg.trans s3
      exact .eq (gc_o (xs := (ns.map D.str).reverse) st.eld (by rw [sg.len]; exact Nat.le_refl _) (by simp [s3.len]) (by rw [← List.map_reverse]; exact noStrs _)) ⟨st, _, rfl, ns.reverse, by simp, by simpa using hl, by simpa using hn⟩
    · refine Ok.ret (w := .v (.obj g.length)) (h1 := g3 ++ [.lst ys]) (by simp) ?_
      obtain ⟨ns, rfl, hl, hn⟩ := hy
      have st := sg.trans s3
      exact .eq (gc_o (xs := ns.map D.str) st.eld (by rw [sg.len]; exact Nat.le_refl _) (by simp [s3.len]) (noStrs _)) ⟨st, _, rfl, ns, rfl, hl, hn⟩
  have one : ∀ (g : Hd), Stp h g → Ok (sdns (run F G (k + 2)) G (.set (.nm 7) (.lc (.bin .Add (.ix (.var 2) (.bin .Mod (.bin .Add (.var 4) (.bin .Mult (.var 5) (.var 8))) (.int 26))) (.call 4 [(.var 0), (.var 3), (.int 7)])) (.nm 8) (.rng1 (.var 1)) none [8]) :: f5.body.drop 5)
      [some (.obj 1), some (.int many), some (.str cap), some (.str inn), some (.int fi), some (.int st), none, none, none] g) (Fin h fun w h' => Stp h h' ∧ ∃ ys, w = .l ys ∧ Nms many.toNat ys) := by
    intro g sg
    refine Ok.stp ?_
    simp only [sd_set]
    refine Ok.bind (Ok.lc0 (s := .fx (rgs 0 many.toNat)) (h1 := g) (fun i ys g => Nms i ys ∧ Stp h g) (by simp [rng0 m0 (show many ≤ 1000000000 by omega)]) (.fx _) ⟨⟨[], rfl, rfl, by simp⟩, sg⟩ (fun _ _ _ _ => trivial) ?_ ?_)
    · rintro i d ys g hd ⟨hy, sg⟩
      obtain ⟨rfl, hi⟩ := rg0 hd
      obtain ⟨w, g4, e4, s4, t, rfl, ht⟩ := tail_sp k iT (by omega) (show (0 : Int) ≤ 7 by omega) (by omega) g sg.pool
      have w1 : wide st = true := by
        unfold wide
        rw [decide_eq_true (by omega), decide_eq_true (by omega)]
        rfl
      have q0 : 0 ≤ (fi + st * (i : Int)) % 26 := Int.emod_nonneg _ (by omega)
      have q1 : (fi + st * (i : Int)) % 26 < 26 := Int.emod_lt_of_pos _ (by omega)
      obtain ⟨c, ec, mc, _⟩ := atI_mem (s := cap) q0 (by omega)
      have tz : 1 + t.length ≤ sizeLine := by rw [sizeLine_eq]; have := ht.1; omega
      refine ⟨_, .str (c :: t), g4, rfl, by simp [w1, cz, ec, e4, tz], hy.push ⟨by have := ht.1; simp; omega, fun z hz => ?_⟩, sg.trans s4⟩
      rcases List.mem_cons.mp hz with q | q
      · rw [q]; exact cT.2 c mc
      · exact ht.2 z q
    · rintro ys g ⟨hy, sg⟩
      rw [ints_len] at hy
      refine ⟨by obtain ⟨ns, rfl, hl, _⟩ := hy; rw [List.length_map, sizeLine_eq]; omega, ?_⟩
      exact .eq rfl (rest none g ys sg hy)
  by_cases h8 : many ≤ 8
  · obtain ⟨d3, g3, e3, s3, c0, c1⟩ := draw_0 (k + 1) 3 (by omega) (by omega) s2.pool
    have s3 := s2.trans s3
    refine Ok.if_ (t := decide (d3 = 0)) (h1 := g3) (by simp [h8, e3]) (fun ht => ?_) (fun hf => ?_)
    · obtain ⟨d4, g4, e4, s4, a0, a1⟩ := draw_0 (k + 1) 62 (by omega) (by omega) s3.pool
      have s4 := s3.trans s4
      obtain ⟨c, ec, mc, _⟩ := atI_mem (s := inn) a0 (by omega)
      refine Ok.nx (σ' := [some (.obj 1), some (.int many), some (.str cap), some (.str inn), some (.int fi), some (.int st), some (.str [c]), none, none]) (h1 := g4) (by simp [sizeLine_eq, il, e4, ec]) ?_
      refine Ok.stp ?_
      simp only [sd_set]
      obtain ⟨b, eb, mb, _⟩ := atI_mem (s := cap) f0 (by omega)
      refine Ok.bind (Ok.lc0 (s := .fx (rgs 0 many.toNat)) (h1 := g4) (fun i ys g => Nms i ys ∧ g = g4) (by simp [rng0 m0 (show many ≤ 1000000000 by omega)]) (.fx _) ⟨⟨[], rfl, rfl, by simp⟩, rfl⟩ (fun _ _ _ _ => trivial) ?_ ?_)
      · rintro i d ys g hd ⟨hy, rfl⟩
        obtain ⟨rfl, hi⟩ := rg0 hd
        have k1 : (i : Int) ≤ 4096 := by omega
        have k0 : -9223372036854775808 ≤ (i : Int) := by omega
        have tz : 1 + i ≤ sizeLine := by rw [sizeLine_eq]; omega
        refine ⟨_, .str (b :: List.replicate i c), g, rfl, by simp [cz, eb, k0, k1, tz], hy.push ⟨by simp; omega, fun z hz => ?_⟩, rfl⟩
        rcases List.mem_cons.mp hz with q | q
        · rw [q]; exact cT.2 b mb
        · rw [(List.mem_replicate.mp q).2]; exact iT.2 c mc
      · rintro ys g ⟨hy, rfl⟩
        rw [ints_len] at hy
        refine ⟨by obtain ⟨ns, rfl, hl, _⟩ := hy; rw [List.length_map, sizeLine_eq]; omega, ?_⟩
        exact .eq rfl (rest (some (.str [c])) g ys s4 hy)
    · exact one g3 s3
  · refine Ok.ifF (h1 := g2) (by simp [h8]) ?_
    exact one g2 s2
end Wk32
namespace Wk32
open PySem PySem.Spec PyProof.Rows L2 DL
theorem letters_sp (k : Nat) : Sp (run F G (k + 2) 6 [.obj 1]) fun w => ∃ n ys, w = .l ys ∧ n ≤ 4 ∧ Nms n ys := by
  intro h p
  refine run_ok (fn := f6) rfl rfl ?_
  show Ok (sdns (run F G (k + 1)) G f6.body [some (.obj 1), none, none, none] h) _
  unfold f6
  simp only []
  have sT : Tx 100 (innS.take 26) := ⟨by decide, by decide⟩
  refine Ok.nx (σ' := [some (.obj 1), some (.str (innS.take 26)), none, none]) (h1 := h) (by simp [innS]) ?_
  have sl : (innS.take 26).length = 26 := rfl
  have sz := sT.line (by omega)
  generalize innS.take 26 = sg at sT sl sz
  obtain ⟨fi, g1, e1, s1, f0, f1⟩ := draw_0 k 26 (by omega) (by omega) p
  refine Ok.nx (σ' := [some (.obj 1), some (.str sg), some (.int fi), none]) (h1 := g1) (by simp [e1]) ?_
  refine Ok.stp ?_
  show Ok ((DL.R.bind _ _)) _
  obtain ⟨d, g2, e2, s2, d0, d1⟩ := draw_0 k 5 (by omega) (by omega) s1.pool
  have s2 := s1.trans s2
  refine Ok.bind (Ok.lc0 (s := .fx (rgs 0 d.toNat)) (h1 := g2) (fun i ys g => Nms i ys ∧ g = g2) (by simp [e2, rng0 d0 (show d ≤ 1000000000 by omega)]) (.fx _) ⟨⟨[], rfl, rfl, by simp⟩, rfl⟩ (fun _ _ _ _ => trivial) ?_ ?_)
  · rintro i x ys g hd ⟨hy, rfl⟩
    obtain ⟨rfl, hi⟩ := rg0 hd
    have w7 : wide 7 = true := by decide
    have q0 : 0 ≤ (fi + 7 * (i : Int)) % 26 := Int.emod_nonneg _ (by omega)
    have q1 : (fi + 7 * (i : Int)) % 26 < 26 := Int.emod_lt_of_pos _ (by omega)
    obtain ⟨c, ec, mc, _⟩ := atI_mem (s := sg) q0 (by omega)
    refine ⟨_, .str [c], g, rfl, by simp [w7, sz, ec], hy.push ⟨by simp, fun z hz => by rw [List.mem_singleton.mp hz]; exact sT.2 c mc⟩, rfl⟩
  · rintro ys g ⟨hy, rfl⟩
    rw [ints_len] at hy
    obtain ⟨ns, rfl, hl, hn⟩ := hy
    refine ⟨by rw [List.length_map, sizeLine_eq]; omega, ?_⟩
    exact .eq rfl (.eq (gc_l0 s2.eld (noStrs _)) ⟨s2, d.toNat, _, rfl, by omega, ns, rfl, hl, hn⟩)
end Wk32
namespace Wk32
open PySem PySem.Spec PyProof.Rows L2 DL
mutual
def fr : D → Bool
  | .str s => s.all fun c => decide (c < 1114112)
  | .tup xs => frs xs
  | _ => false
def frs : List D → Bool
  | [] => true
  | d :: ds => fr d && frs ds
end
mutual
theorem fr_tr : ∀ {d : D}, fr d = true → d.tr = true
  | .str _, h => h
  | .tup xs, h => frs_tr (ds := xs) h
  | .int _, h => by cases h
  | .non, h => by cases h
  | .bl _, h => by cases h
  | .obj _, h => by cases h
  | .ro _, h => by cases h
theorem frs_tr : ∀ {ds : List D}, frs ds = true → D.trs ds = true
  | [], _ => rfl
  | d :: ds, h => by
    have h : (fr d && frs ds) = true := h
    rw [Bool.and_eq_true] at h
    show (d.tr && D.trs ds) = true
    rw [fr_tr h.1, frs_tr h.2]
    rfl
end
theorem frs_mem : ∀ {xs : List D}, frs xs = true ↔ ∀ x ∈ xs, fr x = true
  | [] => by simp [frs]
  | x :: xs => by
    show (fr x && frs xs) = true ↔ _
    rw [Bool.and_eq_true, frs_mem (xs := xs)]
    simp
theorem fr_cases {d : D} (h : fr d = true) : (∃ s, d = .str s) ∨ ∃ xs, d = .tup xs ∧ frs xs = true := by
  cases d with
  | str s => exact .inl ⟨s, rfl⟩
  | tup xs => exact .inr ⟨xs, rfl, h⟩
  | _ => cases h
theorem snoc_of {α : Type} {xs : List α} (h : xs.isEmpty = false) : ∃ ys y, xs = ys ++ [y] := by
  have hn : xs ≠ [] := fun z => by rw [z] at h; cases h
  exact ⟨xs.dropLast, xs.getLast hn, (List.dropLast_concat_getLast hn).symm⟩
theorem parts_ok (k : Nat) {d : D} (hd : fr d = true) (hz : d.sz ≤ 1000) (h : Hd) : ∃ ys, run F G (k + 1) 7 [d] h = .ok (.l ys) h ∧ frs ys = true := by
  have main : Ok (run F G (k + 1) 7 [d] h) fun w h' => h' = h ∧ ∃ ys, w = .l ys ∧ frs ys = true := by
    refine run_ok (fn := f7) rfl rfl ?_
    show Ok (sdns (run F G k) G f7.body [some d, none, none, none] h) _
    unfold f7
    simp only []
    refine Ok.nx (σ' := [some d, some (.obj h.length), none, none]) (h1 := h ++ [.lst []]) (by simp [sizeLine_eq]) ?_
    refine Ok.nx (σ' := [some d, some (.obj h.length), some (.obj (h.length + 1)), none]) (h1 := h ++ [.lst [], .lst [d]]) (by simp [sizeLine_eq]) ?_
    refine Ok.whl d.sz (by unfold FU; omega) (fun n σ g => ∃ ps ws x, σ = [some d, some (.obj h.length), some (.obj (h.length + 1)), x] ∧ g = h ++ [.lst ps, .lst ws] ∧ frs ps = true ∧ frs ws = true ∧ D.szs ws ≤ n ∧ ps.length + n ≤ 1000)
      ⟨[], [d], none, rfl, rfl, rfl, by show (fr d && true) = true; rw [hd]; rfl, Nat.le_refl _, by simpa using hz⟩ ?_
    rintro n σ g ⟨ps, ws, x, rfl, rfl, hp, hw, hn, hl⟩
    refine ⟨!ws.isEmpty, h ++ [.lst ps, .lst ws], by simp, fun ht => ?_, fun hf => ?_⟩
    · obtain ⟨vs, y, rfl⟩ := snoc_of (by simpa using ht)
      have ly := szs_app vs [y]
      have hz1 : D.szs [y] = y.sz := by show y.sz + 0 = _; omega
      have hyp := sz_pos y
      have lv := szs_len vs
      have hwm := frs_mem.mp hw
      have pop : mt0 .pop (.v (.obj (h.length + 1))) (h ++ [.lst ps, .lst (vs ++ [y])]) = .ok (.v y) (h ++ [.lst ps, .lst vs]) := by
        rw [pop_obj (x := vs) (y := y) (by simp)]
        simp
      refine Ok.nx (σ' := [some d, some (.obj h.length), some (.obj (h.length + 1)), some y]) (h1 := h ++ [.lst ps, .lst vs]) (by simp [pop]) ?_
      have pl : ps.length < sizeLine := by rw [sizeLine_eq]; omega
      refine Ok.nx (σ' := [some d, some (.obj h.length), some (.obj (h.length + 1)), some y]) (h1 := h ++ [.lst (ps ++ [y]), .lst vs]) (by simp [pl]) ?_
      have hy : fr y = true := hwm y (by simp)
      have hp' : frs (ps ++ [y]) = true := frs_mem.mpr fun z hz => by
        rcases List.mem_append.mp hz with q | q
        · exact frs_mem.mp hp z q
        · rw [List.mem_singleton.mp q]; exact hy
      have hv : frs vs = true := frs_mem.mpr fun z hz => hwm z (by simp [hz])
      rcases fr_cases hy with ⟨s, rfl⟩ | ⟨xs, rfl, hxs⟩
      · refine Ok.ifF (h1 := h ++ [.lst (ps ++ [.str s]), .lst vs]) (by simp) (Ok.nil ?_)
        exact ⟨n - 1, by omega, ps ++ [.str s], vs, _, rfl, rfl, hp', hv, by omega, by simp; omega⟩
      · have e1 : cutL xs (some 1) none = xs.drop 1 := cut_from xs 1
        have sx := szs_drop 1 xs
        have lx := szs_len (xs.drop 1)
        have st := sz_tup xs
        have hz2 : vs.length + (xs.length - 1) ≤ sizeLine := by
          rw [sizeLine_eq]
          rw [List.length_drop] at lx
          omega
        refine Ok.ifT (h1 := h ++ [.lst (ps ++ [.tup xs]), .lst vs]) (by simp) (Ok.nx (σ' := [some d, some (.obj h.length), some (.obj (h.length + 1)), some (.tup xs)]) (h1 := h ++ [.lst (ps ++ [.tup xs]), .lst (vs ++ (xs.drop 1).reverse)]) (by simp [e1, hz2]) (Ok.nil ?_))
        refine ⟨n - 1, by omega, ps ++ [.tup xs], vs ++ (xs.drop 1).reverse, _, rfl, rfl, hp', frs_mem.mpr fun z hz => ?_, ?_, by simp; omega⟩
        · rcases List.mem_append.mp hz with q | q
          · exact frs_mem.mp hv z q
          · exact frs_mem.mp hxs z (List.mem_of_mem_drop (List.mem_reverse.mp q))
        · rw [szs_app, szs_rev]
          omega
    · refine Ok.ret (w := .v (.obj h.length)) (h1 := h ++ [.lst ps, .lst ws]) (by simp) ?_
      exact .eq (gc_o (xs := ps) (Eld.refl h) (Nat.le_refl _) (by simp) (trs_no (frs_tr hp))) ⟨rfl, ps, rfl, hp⟩
  obtain ⟨w, h', e, rfl, ys, rfl, q⟩ := main
  exact ⟨ys, e, q⟩
end Wk32
namespace Wk32
open PySem PySem.Spec PyProof.Rows L2 DL
def Own (h g : Hd) : Prop := ∃ L, g = h ++ L
theorem Own.le {h g : Hd} (o : Own h g) : h.length ≤ g.length := by obtain ⟨L, rfl⟩ := o; simp
theorem Own.get {h g : Hd} (o : Own h g) {i : Nat} (hi : i < h.length) : g[i]? = h[i]? := by obtain ⟨L, rfl⟩ := o; exact get_lo hi
theorem Own.set {h g : Hd} (o : Own h g) {i : Nat} (hi : h.length ≤ i) (u : O) : Own h (g.set i u) := by
  obtain ⟨L, rfl⟩ := o
  exact ⟨L.set (i - h.length) u, by rw [List.set_append_right _ _ hi]⟩
theorem Own.app {h g : Hd} (o : Own h g) (L : Hd) : Own h (g ++ L) := by
  obtain ⟨M, rfl⟩ := o
  exact ⟨M ++ L, by rw [List.append_assoc]⟩
theorem lt_of_get {h : Hd} {i : Nat} {o : O} (e : h[i]? = some o) : i < h.length := (List.getElem?_eq_some_iff.mp e).1
def tok (t : List Nat × Int) : D := .tup [.str t.1, .int t.2]
inductive Vr : List (List Nat × Int) → Int → Prop
  | nil : Vr [] 1
  | cons {r : List (List Nat × Int)} {m : Int} {s : List Nat} {p : Int} : Vr r m → 0 < m → Tx 8 s → -1 ≤ p → p ≤ 3 → Vr ((s, p) :: r) (m + max 0 p - 1)
theorem txfr {n : Nat} {s : List Nat} (t : Tx n s) : fr (.str s) = true := by
  show (s.all fun c => decide (c < 1114112)) = true
  rw [List.all_eq_true]
  exact fun c hc => decide_eq_true (t.2 c hc)
theorem frs_app (xs ys : List D) : frs (xs ++ ys) = (frs xs && frs ys) := by
  induction xs with
  | nil => rfl
  | cons x xs ih => show (fr x && frs (xs ++ ys)) = (fr x && frs xs && frs ys); rw [ih, Bool.and_assoc]
theorem built_ok (k : Nat) {rt : List (List Nat × Int)} (hv : Vr rt 0) (hl : rt.length ≤ 10) {h : Hd} {m : Nat} (hm : h[m]? = some (.lst (rt.reverse.map tok))) : ∃ d, run F G (k + 1) 8 [.obj m] h = .ok (.v d) h ∧ fr d = true ∧ d.sz ≤ 100 := by
  have main : Ok (run F G (k + 1) 8 [.obj m] h) fun w h' => h' = h ∧ ∃ d, w = .v d ∧ fr d = true ∧ d.sz ≤ 100 := by
    refine run_ok (fn := f8) rfl rfl ?_
    show Ok (sdns (run F G k) G f8.body [some (.obj m), none, none, none, none, none] h) _
    unfold f8
    simp only []
    have ml := lt_of_get hm
    refine Ok.nx (σ' := [some (.obj m), some (.obj h.length), none, none, none, none]) (h1 := h ++ [.lst []]) (by simp [sizeLine_eq]) ?_
    have xe : (rt.reverse.map tok).reverse = rt.map tok := by rw [List.map_reverse, List.reverse_reverse]
    refine Ok.for_ (s := .fx (rt.map tok)) (xs := rt.map tok) (h1 := h ++ [.lst []]) (fun i σ g => ∃ bs n p pt kk, σ = [some (.obj m), some (.obj h.length), n, p, pt, kk] ∧ Own h g ∧ g[h.length]? = some (.lst bs) ∧ Vr (rt.drop i) bs.length ∧ frs bs = true ∧ D.szs bs ≤ 10 * i)
      (by
        have e : (h ++ [O.lst []])[m]? = some (.lst (rt.reverse.map tok)) := by rw [get_lo ml]; exact hm
        simp [e, xe]) (.fx _) ⟨[], none, none, none, none, rfl, ⟨_, rfl⟩, by simp, hv, rfl, Nat.le_refl _⟩ (fun _ _ _ _ => trivial) ?_ ?_
    · rintro i d σ g hd ⟨bs, n, p, pt, kk, rfl, ow, gb, hV, hb, hz⟩
      rw [List.getElem?_map] at hd
      obtain ⟨⟨s, pl⟩, et, rfl⟩ := Option.map_eq_some_iff.mp hd
      obtain ⟨il, ei⟩ := List.getElem?_eq_some_iff.mp et
      rw [List.drop_eq_getElem_cons il, ei] at hV
      generalize hbl : (bs.length : Int) = bl at hV
      cases hV with
      | @cons _ m' _ _ hV hm' hs p0 p1 =>
        have bl' := lt_of_get gb
        have sz := szs_len bs
        refine ⟨_, rfl, ?_⟩
        refine Ok.if_ (t := decide (pl < 0)) (h1 := g) (by simp) (fun ht => ?_) (fun hf => ?_)
        · have ht := of_decide_eq_true ht
          have lz : bs.length < sizeLine := by rw [sizeLine_eq]; omega
          refine Ok.nx (σ' := [some (.obj m), some (.obj h.length), some (.str s), some (.int pl), pt, kk]) (h1 := g.set h.length (.lst (bs ++ [.str s]))) (by simp [gb, lz]) (Ok.nil ?_)
          refine ⟨bs ++ [.str s], _, _, _, _, rfl, ow.set (Nat.le_refl _) _, by rw [List.getElem?_set_self bl'], ?_, by rw [frs_app, hb]; show (true && (fr (.str s) && true)) = true; rw [txfr hs]; rfl, ?_⟩
          · have : ((bs ++ [D.str s]).length : Int) = m' := by rw [List.length_append]; simp; omega
            rw [this]
            exact hV
          · rw [szs_app]
            have := hs.1
            show D.szs bs + ((1 + s.length) + 0) ≤ _
            omega
        · have hf := of_decide_eq_false hf
          refine Ok.nx (σ' := [some (.obj m), some (.obj h.length), some (.str s), some (.int pl), some (.obj g.length), kk]) (h1 := g ++ [.lst [.str s]]) (by simp [sizeLine_eq]) ?_
          refine Ok.for_ (s := .fx (rgs 0 pl.toNat)) (h1 := g ++ [.lst [.str s]]) (fun j σ g' => ∃ vs pp kk, σ = [some (.obj m), some (.obj h.length), some (.str s), some (.int pl), some (.obj g.length), kk] ∧ Own h g' ∧ g'[h.length]? = some (.lst vs) ∧ g'[g.length]? = some (.lst pp) ∧ vs.length + j = bs.length ∧ pp.length = j + 1 ∧ frs vs = true ∧ frs pp = true ∧ D.szs vs + D.szs pp = D.szs bs + (1 + s.length))
            (by simp [rng0 (show 0 ≤ pl by omega) (show pl ≤ 1000000000 by omega)]) (.fx _)
            ⟨bs, [.str s], kk, rfl, ow.app _, by rw [get_lo bl']; exact gb, by simp, rfl, rfl, hb, by show (fr (.str s) && true) = true; rw [txfr hs]; rfl, rfl⟩ (fun _ _ _ _ => trivial) ?_ ?_
          · rintro j x σ g' hx ⟨vs, pp, kk, rfl, ow', gb', gq', hl1, hl2, hf1, hf2, hz2⟩
            obtain ⟨rfl, hj⟩ := rg0 hx
            have ne : vs.isEmpty = false := by
              cases vs with
              | nil => simp at hl1; omega
              | cons _ _ => rfl
            obtain ⟨us, y, rfl⟩ := snoc_of ne
            have gb2 := lt_of_get gb'
            have gq2 := lt_of_get gq'
            have pop := pop_obj gb'
            have gq3 : (g'.set h.length (.lst us))[g.length]? = some (.lst pp) := by rw [List.getElem?_set_ne (by omega)]; exact gq'
            have lz : pp.length < sizeLine := by rw [sizeLine_eq]; omega
            refine ⟨_, rfl, ?_⟩
            refine Ok.nx (σ' := [some (.obj m), some (.obj h.length), some (.str s), some (.int pl), some (.obj g.length), some (.int j)]) (h1 := (g'.set h.length (.lst us)).set g.length (.lst (pp ++ [y]))) (by simp [isL_obj gq', pop, gq3, lz]) (Ok.nil ?_)
            rw [frs_app, Bool.and_eq_true] at hf1
            have z1 := szs_app us [y]
            have z2 := szs_app pp [y]
            refine ⟨us, pp ++ [y], _, rfl, (ow'.set (Nat.le_refl _) _).set (by omega) _, by rw [List.getElem?_set_ne (by omega), List.getElem?_set_self gb2], by rw [List.getElem?_set_self (by simpa using gq2)], by simp at hl1; omega, by simp; omega, hf1.1, by rw [frs_app, hf2]; exact hf1.2, by omega⟩
          · rintro σ g' ⟨vs, pp, kk, rfl, ow', gb', gq', hl1, hl2, hf1, hf2, hz2⟩
            rw [ints_len] at hl1
            have gb2 := lt_of_get gb'
            have lz : vs.length < sizeLine := by rw [sizeLine_eq]; omega
            refine Ok.nx (σ' := [some (.obj m), some (.obj h.length), some (.str s), some (.int pl), some (.obj g.length), kk]) (h1 := g'.set h.length (.lst (vs ++ [.tup pp]))) (by simp [isL_obj gb', gq', app_obj gb', lz]) (Ok.nil ?_)
            refine ⟨vs ++ [.tup pp], _, _, _, _, rfl, ow'.set (Nat.le_refl _) _, by rw [List.getElem?_set_self gb2], ?_, by rw [frs_app, hf1]; show (frs pp && true) = true; rw [hf2]; rfl, ?_⟩
            · have : ((vs ++ [D.tup pp]).length : Int) = m' := by rw [List.length_append]; simp; omega
              rw [this]
              exact hV
            · rw [szs_app]
              have := hs.1
              show D.szs vs + ((1 + D.szs pp) + 0) ≤ _
              omega
    · rintro σ g ⟨bs, n, p, pt, kk, rfl, ow, gb, hV, hb, hz⟩
      rw [List.length_map] at hV hz
      rw [List.drop_eq_nil_of_le (Nat.le_refl _)] at hV
      generalize hbl : (bs.length : Int) = bl at hV
      cases hV
      cases bs with
      | nil => simp at hbl
      | cons b bs =>
        have hb0 : fr b = true := frs_mem.mp hb b (by simp)
        have hz0 : b.sz ≤ 100 := by have := szs_mem (xs := b :: bs) (x := b) (by simp); omega
        have a0 : atI (b :: bs) 0 = some b := by rw [atI_pos (Int.le_refl _) (by simp <;> omega)] <;> rfl
        refine Ok.ret (w := .v b) (h1 := g) (by simp [gb, a0]) ?_
        obtain ⟨L, rfl⟩ := ow
        exact .eq (gc_v (Eld.refl h) (tr_no (fr_tr hb0))) ⟨rfl, b, rfl, hb0, hz0⟩
  obtain ⟨w, h', e, rfl, d, rfl, q⟩ := main
  exact ⟨d, e, q⟩
end Wk32
namespace Wk32
open PySem PySem.Spec PyProof.Rows L2 DL
def Dr (h g : Hd) : Prop := ∃ h1 L, g = h1 ++ L ∧ Stp h h1
theorem Dr.refl {h : Hd} (p : Pool h) : Dr h h := ⟨h, [], by simp, Stp.refl p⟩
theorem Dr.pool {h g : Hd} (d : Dr h g) : Pool g := by obtain ⟨h1, L, rfl, s⟩ := d; exact s.pool.app L
theorem Dr.step {h g g' : Hd} (d : Dr h g) (s : Stp g g') : Dr h g' := by
  obtain ⟨h1, L, rfl, s1⟩ := d
  obtain ⟨h2, rfl, s2⟩ := s.cut s1.pool.two
  exact ⟨h2, L, rfl, s1.trans s2⟩
theorem Dr.of {h g : Hd} (s : Stp h g) : Dr h g := ⟨g, [], by simp, s⟩
theorem Dr.le {h g : Hd} (d : Dr h g) : h.length ≤ g.length := by obtain ⟨h1, L, rfl, s⟩ := d; rw [List.length_append, s.len]; omega
theorem Dr.get {h g : Hd} (d : Dr h g) {i : Nat} {o : O} (e : h[i]? = some o) (hi : i ≠ 1) : g[i]? = some o := by
  obtain ⟨h1, L, rfl, s⟩ := d
  rw [get_lo (by rw [s.len]; exact lt_of_get e), s.same i hi, e]
theorem Dr.set {h g : Hd} (d : Dr h g) {i : Nat} (hi : h.length ≤ i) (u : O) : Dr h (g.set i u) := by
  obtain ⟨h1, L, rfl, s⟩ := d
  exact ⟨h1, L.set (i - h1.length) u, by rw [List.set_append_right _ _ (by rw [s.len]; exact hi)], s⟩
theorem Dr.app {h g : Hd} (d : Dr h g) (M : Hd) : Dr h (g ++ M) := by
  obtain ⟨h1, L, rfl, s⟩ := d
  exact ⟨h1, L ++ M, by rw [List.append_assoc], s⟩
theorem Dr.own {h g g' : Hd} (d : Dr h g) (o : Own g g') : Dr h g' := by obtain ⟨L, rfl⟩ := o; exact d.app L
theorem Dr.v {h g : Hd} (d : Dr h g) {x : D} (hx : x.noObj = true) {P : W → Prop} (q : P (.v x)) : Ok (gc h (.ok (.v x) g)) fun w h' => Stp h h' ∧ P w := by
  obtain ⟨h1, L, rfl, s⟩ := d
  exact .eq (gc_v s.eld hx) ⟨s, q⟩
theorem Dr.l {h g : Hd} (d : Dr h g) {xs : List D} (hx : D.noObjs xs = true) {P : W → Prop} (q : P (.l xs)) : Ok (gc h (.ok (.l xs) g)) fun w h' => Stp h h' ∧ P w := by
  obtain ⟨h1, L, rfl, s⟩ := d
  exact .eq (gc_l s.eld hx) ⟨s, q⟩
theorem Dr.o {h g : Hd} (d : Dr h g) {n : Nat} {xs : List D} (hn : h.length ≤ n) (e : g[n]? = some (.lst xs)) (hx : D.noObjs xs = true) {P : W → Prop} (q : P (.l xs)) : Ok (gc h (.ok (.v (.obj n)) g)) fun w h' => Stp h h' ∧ P w := by
  obtain ⟨h1, L, rfl, s⟩ := d
  exact .eq (gc_o s.eld hn e hx) ⟨s, q⟩
def Stems (xs : List D) : Prop := ∃ ts : List (List Nat × Int), xs = ts.map tok ∧ ts.length ≤ 10 ∧ (∀ t ∈ ts, Tx 8 t.1 ∧ 0 ≤ t.2 ∧ t.2 ≤ 3) ∧ ∃ s, (s, (0 : Int)) ∈ ts
theorem tok_ix (t : List Nat × Int) : atI [D.str t.1, D.int t.2] 1 = some (.int t.2) := rfl
theorem form_sp (k : Nat) {room : Int} (r0 : 1 ≤ room) (r1 : room ≤ 10) {h : Hd} (p : Pool h) {sp lp n : Nat} {stems ls : List D} (hs : h[sp]? = some (.lst stems)) (sp1 : sp ≠ 1) (hS : Stems stems) (hl : h[lp]? = some (.lst ls)) (lp1 : lp ≠ 1) (hL : Nms n ls) (n4 : n ≤ 4) :
    ∃ d h', run F G (k + 2) 9 [.obj 1, .obj sp, .obj lp, .int room] h = .ok (.v d) h' ∧ Stp h h' ∧ fr d = true ∧ d.sz ≤ 100 := by
  obtain ⟨ts, rfl, tl, hts, s0, hs0⟩ := hS
  have lsn : ls.length = n := by obtain ⟨ns, rfl, hl, _⟩ := hL; simp [hl]
  have main : Ok (run F G (k + 2) 9 [.obj 1, .obj sp, .obj lp, .int room] h) fun w h' => Stp h h' ∧ ∃ d, w = .v d ∧ fr d = true ∧ d.sz ≤ 100 := by
    refine run_ok (fn := f9) rfl rfl ?_
    show Ok (sdns (run F G (k + 1)) G f9.body [some (.obj 1), some (.obj sp), some (.obj lp), some (.int room), none, none, none, none, none] h) _
    unfold f9
    simp only []
    refine Ok.nx (σ' := [some (.obj 1), some (.obj sp), some (.obj lp), some (.int room), some (.obj h.length), none, none, none, none]) (h1 := h ++ [.lst []]) (by simp [sizeLine_eq]) ?_
    refine Ok.nx (σ' := [some (.obj 1), some (.obj sp), some (.obj lp), some (.int room), some (.obj h.length), some (.int 1), none, none, none]) (h1 := h ++ [.lst []]) (by simp) ?_
    refine Ok.whl 10 (by unfold FU; omega) (fun c σ g => ∃ rt many x6 x7 x8, σ = [some (.obj 1), some (.obj sp), some (.obj lp), some (.int room), some (.obj h.length), some (.int many), x6, x7, x8] ∧ Dr h g ∧ g[h.length]? = some (.lst (rt.reverse.map tok)) ∧ Vr rt many ∧ 0 ≤ many ∧ (rt.length : Int) + many ≤ room ∧ room ≤ (rt.length : Int) + (c : Int))
      ⟨[], 1, none, none, none, rfl, (Dr.refl p).app _, by simp, .nil, by omega, by simpa using r0, by simpa using r1⟩ ?_
    rintro c σ g ⟨rt, many, x6, x7, x8, rfl, dr, gt, hV, hm, hr, hc⟩
    refine ⟨decide (0 < many), g, by simp, fun ht => ?_, fun hf => ?_⟩
    · have ht := of_decide_eq_true ht
      have tl2 : (rt.reverse.map tok).length = rt.length := by simp
      refine Ok.nx (σ' := [some (.obj 1), some (.obj sp), some (.obj lp), some (.int room), some (.obj h.length), some (.int many), some (.int (room - rt.length - many + 1)), x7, x8]) (h1 := g) (by simp [gt]) ?_
      generalize hlf : room - (rt.length : Int) - many + 1 = left
      have gs := dr.get hs sp1
      have gl := dr.get hl lp1
      refine Ok.stp ?_
      simp only [sd_set]
      refine Ok.bind (Ok.lc1 (s := lsrc sp) (xs := ts.map tok) (h1 := g) (ok := fun g => g[sp]? = some (.lst (ts.map tok))) (fun i ys g' => g' = g ∧ (∃ us : List (List Nat × Int), ys = us.map tok ∧ us.length ≤ i ∧ (∀ u ∈ us, Tx 8 u.1 ∧ 0 ≤ u.2 ∧ u.2 ≤ 3 ∧ u.2 < left)) ∧ ∀ j, j < i → ts[j]? = some (s0, 0) → ys ≠ [])
        (by simp [src_obj gs]) (Walks.lst sp (by rw [List.length_map]; unfold FU; omega)) ⟨rfl, ⟨[], rfl, Nat.le_refl _, by simp⟩, fun j hj => by omega⟩ (fun i ys g' hI => by rw [hI.1]; exact gs) ?_ ?_)
      · rintro i d ys g' hd ⟨rfl, ⟨us, rfl, ul, hu⟩, hne⟩
        rw [List.getElem?_map] at hd
        obtain ⟨t, et, rfl⟩ := Option.map_eq_some_iff.mp hd
        obtain ⟨tx, t0, t3⟩ := hts t (List.mem_of_getElem? et)
        refine ⟨_, decide (t.2 < left), g', rfl, by simp [tok, tok_ix], fun hh => ?_, fun hh => ?_⟩
        · have hh := of_decide_eq_true hh
          exact ⟨tok t, g', by simp, rfl, ⟨us ++ [t], by simp, by simpa using ul, fun u hu' => by
            rcases List.mem_append.mp hu' with q | q
            · exact hu u q
            · rw [List.mem_singleton.mp q]; exact ⟨tx, t0, t3, hh⟩⟩, fun j hj ej => by simp⟩
        · have hh := of_decide_eq_false hh
          refine ⟨rfl, ⟨us, rfl, by omega, hu⟩, fun j hj ej => ?_⟩
          by_cases hji : j = i
          · subst hji
            rw [et] at ej
            cases ej
            have : (0 : Int) < left := by omega
            exact absurd this hh
          · exact hne j (by omega) ej
      · rintro ys g' ⟨rfl, ⟨us, rfl, ul, hu⟩, hne⟩
        rw [List.length_map] at ul hne
        have un : us ≠ [] := fun z => by
          obtain ⟨j, hj, ej⟩ := List.getElem_of_mem hs0
          exact hne j hj (by rw [List.getElem?_eq_getElem hj, ej]) (by rw [z]; rfl)
        have upos : 0 < us.length := List.length_pos_iff.mpr un
        refine ⟨by rw [List.length_map, sizeLine_eq]; omega, ?_⟩
        refine .eq (a := .nx [some (.obj 1), some (.obj sp), some (.obj lp), some (.int room), some (.obj h.length), some (.int many), some (.int left), some (.obj g'.length), x8]) (h := g' ++ [.lst (us.map tok)]) (by simp) ?_
        have dr1 : Dr h (g' ++ [.lst (us.map tok)]) := dr.app _
        have gle := lt_of_get gt
        have gt1 : (g' ++ [O.lst (us.map tok)])[h.length]? = some (.lst (rt.reverse.map tok)) := by rw [get_lo gle]; exact gt
        have gl1 : (g' ++ [O.lst (us.map tok)])[lp]? = some (.lst ls) := by rw [get_lo (lt_of_get gl)]; exact gl
        have gf1 : (g' ++ [O.lst (us.map tok)])[g'.length]? = some (.lst (us.map tok)) := by simp
        have lne : g'.length ≠ 1 := by have := dr.pool.two; omega
        have hne1 : h.length ≠ 1 := by have := p.two; omega
        generalize hg1 : g' ++ [O.lst (us.map tok)] = g1 at dr1 gt1 gl1 gf1
        generalize g'.length = q at gf1 lne
        have rest : ∀ (s : List Nat) (pl : Int) (g2 : Hd), Tx 8 s → -1 ≤ pl → pl ≤ 3 → pl < left → Dr h g2 → g2[h.length]? = some (.lst (rt.reverse.map tok ++ [tok (s, pl)])) →
            Ok (sdns (run F G (k + 1)) G [.aug 5 .Add (.bin .Sub (.b2 .max (.int 0) (.ix (.ix (.var 4) (.neg (.int 1))) (.int 1))) (.int 1))] [some (.obj 1), some (.obj sp), some (.obj lp), some (.int room), some (.obj h.length), some (.int many), some (.int left), some (.obj q), x8] g2)
              (Trn (Thn (run F G (k + 1)) G [.ret (.call 8 [(.var 4)])] (Fin h fun w h' => Stp h h' ∧ ∃ d, w = .v d ∧ fr d = true ∧ d.sz ≤ 100)) fun σ' h' => ∃ m, m < c ∧ ∃ rt many x6 x7 x8, σ' = [some (.obj 1), some (.obj sp), some (.obj lp), some (.int room), some (.obj h.length), some (.int many), x6, x7, x8] ∧ Dr h h' ∧ h'[h.length]? = some (.lst (rt.reverse.map tok)) ∧ Vr rt many ∧ 0 ≤ many ∧ (rt.length : Int) + many ≤ room ∧ room ≤ (rt.length : Int) + (m : Int)) := by
          intro s pl g2 hsT hp0 hp1 hpl dr2 gt2
          have mx : (if pl > 0 then pl else 0) = max 0 pl := by split <;> omega
          refine Ok.nx (σ' := [some (.obj 1), some (.obj sp), some (.obj lp), some (.int room), some (.obj h.length), some (.int (many + (max 0 pl - 1))), some (.int left), some (.obj q), x8]) (h1 := g2) ?_ (Ok.nil ?_)
          · simp only [gt_iff_lt] at mx
            have a1 : atI (rt.reverse.map tok ++ [tok (s, pl)]) (-1) = some (tok (s, pl)) := DL.atI_last
            have a2 : atI [D.str s, D.int pl] 1 = some (.int pl) := rfl
            simp only [List.map_reverse] at gt2 a1
            simp [gt2, a1, mx]
            simp [tok, a2, mx]
          · refine ⟨c - 1, by omega, (s, pl) :: rt, many + (max 0 pl - 1), _, _, _, rfl, dr2, by rw [gt2]; simp, ?_, by omega, by simp; omega, by simp; omega⟩
            have e : many + (max 0 pl - 1) = many + max 0 pl - 1 := by omega
            rw [e]
            exact .cons hV ht hsT hp0 hp1
        have tz : rt.length < sizeLine := by rw [sizeLine_eq]; omega
        have tz2 : rt.length < 16777216 := by omega
        have stem : ∀ g2, Dr h g2 → g2[h.length]? = some (.lst (rt.reverse.map tok)) → g2[q]? = some (.lst (us.map tok)) →
            Ok (sdns (run F G (k + 1)) G [.ex (.m1 .append (.var 4) (.ix (.var 7) (.call 3 [(.var 0), (.b1 .len (.var 7))]))), .aug 5 .Add (.bin .Sub (.b2 .max (.int 0) (.ix (.ix (.var 4) (.neg (.int 1))) (.int 1))) (.int 1))] [some (.obj 1), some (.obj sp), some (.obj lp), some (.int room), some (.obj h.length), some (.int many), some (.int left), some (.obj q), x8] g2)
              (Trn (Thn (run F G (k + 1)) G [.ret (.call 8 [(.var 4)])] (Fin h fun w h' => Stp h h' ∧ ∃ d, w = .v d ∧ fr d = true ∧ d.sz ≤ 100)) fun σ' h' => ∃ m, m < c ∧ ∃ rt many x6 x7 x8, σ' = [some (.obj 1), some (.obj sp), some (.obj lp), some (.int room), some (.obj h.length), some (.int many), x6, x7, x8] ∧ Dr h h' ∧ h'[h.length]? = some (.lst (rt.reverse.map tok)) ∧ Vr rt many ∧ 0 ≤ many ∧ (rt.length : Int) + many ≤ room ∧ room ≤ (rt.length : Int) + (m : Int)) := by
          intro g2 dr2 gt2 gf2
          obtain ⟨d, g3, e3, s3, d0, d1⟩ := draw_0 k us.length (by omega) (by omega) dr2.pool
          obtain ⟨u, eu, mu, _⟩ := atI_mem (s := us) d0 d1
          have eu2 : atI (us.map tok) d = some (tok u) := by
            unfold atI at eu ⊢
            rw [List.length_map]
            cases hix : ixN us.length d with
            | none => rw [hix] at eu; cases eu
            | some j =>
              rw [hix] at eu
              have eu : us[j]? = some u := eu
              show (us.map tok)[j]? = _
              rw [List.getElem?_map, eu]
              rfl
          have gt3 : g3[h.length]? = some (.lst (rt.reverse.map tok)) := by rw [s3.same _ hne1]; exact gt2
          have gf3 : g3[q]? = some (.lst (us.map tok)) := by rw [s3.same _ lne]; exact gf2
          obtain ⟨ux, u0, u3, ulf⟩ := hu u mu
          refine Ok.nx (σ' := [some (.obj 1), some (.obj sp), some (.obj lp), some (.int room), some (.obj h.length), some (.int many), some (.int left), some (.obj q), x8]) (h1 := g3.set h.length (.lst (rt.reverse.map tok ++ [tok u]))) (by
            simp only [List.map_reverse] at gt2 gt3
            simp [isL_obj gt2, gf2, e3, gf3, eu2, app_obj gt3, tz]) ?_
          exact rest u.1 u.2 _ ux (by omega) u3 ulf ((dr2.step s3).set (Nat.le_refl _) _) (by rw [List.getElem?_set_self (lt_of_get gt3)])
        by_cases n0 : n = 0
        · refine Ok.ifF (h1 := g1) (by simp [gl1, lsn, n0]) ?_
          exact stem g1 dr1 gt1 gf1
        · obtain ⟨d, g3, e3, s3, d0, d1⟩ := draw_0 k 3 (by omega) (by omega) dr1.pool
          have gt3 : g3[h.length]? = some (.lst (rt.reverse.map tok)) := by rw [s3.same _ hne1]; exact gt1
          have gf3 : g3[q]? = some (.lst (us.map tok)) := by rw [s3.same _ lne]; exact gf1
          have gl3 : g3[lp]? = some (.lst ls) := by rw [s3.same _ lp1]; exact gl1
          have npos : 0 < n := by omega
          refine Ok.if_ (t := decide (d = 0)) (h1 := g3) (by simp [gl1, lsn, npos, e3]) (fun hd0 => ?_) (fun hd0 => ?_)
          · obtain ⟨d5, g5, e5, s5, b0, b1⟩ := draw_0 k n (by omega) (by omega) (dr1.step s3).pool
            obtain ⟨ns, rfl, nl, hns⟩ := hL
            obtain ⟨s, es, ms, _⟩ := atI_mem (s := ns) b0 (by omega)
            have es2 : atI (ns.map D.str) d5 = some (.str s) := by
              unfold atI at es ⊢
              rw [List.length_map]
              cases hix : ixN ns.length d5 with
              | none => rw [hix] at es; cases es
              | some j =>
                rw [hix] at es
                have es : ns[j]? = some s := es
                show (ns.map D.str)[j]? = _
                rw [List.getElem?_map, es]
                rfl
            have gt5 : g5[h.length]? = some (.lst (rt.reverse.map tok)) := by rw [s5.same _ hne1]; exact gt3
            have gl5 : g5[lp]? = some (.lst (ns.map .str)) := by rw [s5.same _ lp1]; exact gl3
            refine Ok.nx (σ' := [some (.obj 1), some (.obj sp), some (.obj lp), some (.int room), some (.obj h.length), some (.int many), some (.int left), some (.obj q), x8]) (h1 := g5.set h.length (.lst (rt.reverse.map tok ++ [tok (s, -1)]))) (by
              simp only [List.map_reverse] at gt3 gt5
              simp [isL_obj gt3, gl3, nl, e5, gl5, es2, app_obj gt5, tz2, sizeLine_eq, tok]) ?_
            exact rest s (-1) _ (hns s ms) (by omega) (by omega) (by omega) (((dr1.step s3).step s5).set (Nat.le_refl _) _) (by rw [List.getElem?_set_self (lt_of_get gt5)])
          · exact stem g3 (dr1.step s3) gt3 gf3
    · have hf := of_decide_eq_false hf
      have m0 : many = 0 := by omega
      subst m0
      obtain ⟨d, ed, fd, zd⟩ := built_ok k hV (by omega) gt
      refine Ok.ret (w := .v d) (h1 := g) (by simp [ed]) ?_
      exact dr.v (tr_no (fr_tr fd)) ⟨d, rfl, fd, zd⟩
  obtain ⟨w, h', e, s, d, rfl, q⟩ := main
  exact ⟨d, h', e, s, q⟩
end Wk32
namespace Wk32
open PySem PySem.Spec PyProof.Rows L2 DL
theorem atI_mp {α β : Type} (f : α → β) (xs : List α) (i : Int) : atI (xs.map f) i = (atI xs i).map f := by
  unfold atI
  rw [List.length_map]
  cases ixN xs.length i with
  | none => rfl
  | some j => show (xs.map f)[j]? = (xs[j]?).map f; rw [List.getElem?_map]
theorem cut_last {α : Type} (xs : List α) (x : α) : cutL (xs ++ [x]) (some (-1)) none = [x] := by
  have e : HT.sIx (xs ++ [x]).length 0 (some (-1)) = xs.length := by
    show (if (-1 : Int) < 0 then ((-1 : Int) + ((xs ++ [x]).length : Nat)).toNat else min (-1 : Int).toNat (xs ++ [x]).length) = _
    rw [if_pos (by omega), List.length_append, List.length_singleton]
    omega
  unfold cutL
  rw [e, HT.sIx_none, List.drop_left', List.length_append]
  · simp
  · rfl
theorem cnt_ok {ys : List D} {s : List Nat} {h : Hd} (hy : frs ys = true) (hs : Tx 8 s) : ∃ i, cntW (.v (.str s)) ys h = some i := by
  obtain ⟨ps, e, c, _⟩ := trs_py (frs_tr hy)
  obtain ⟨p, ep, cp, _⟩ := tr_py (fr_tr (txfr hs))
  have ep2 : (W.v (.str s)).py h = some p := ep
  cases ep
  exact ⟨_, by unfold cntW; rw [e, ep2]; exact if_pos ⟨c, cp, Nat.zero_le _⟩⟩
theorem stem_ix (t : List Nat × Int) : atI [D.str t.1, D.int t.2] 0 = some (.str t.1) := rfl
theorem head_sp (k : Nat) {h : Hd} (p : Pool h) {sp lp n : Nat} {stems ls : List D} (hs : h[sp]? = some (.lst stems)) (sp1 : sp ≠ 1) (hS : Stems stems) (hl : h[lp]? = some (.lst ls)) (lp1 : lp ≠ 1) (hL : Nms n ls) (n4 : n ≤ 4) :
    ∃ d h', run F G (k + 3) 10 [.obj 1, .obj sp, .obj lp] h = .ok (.v d) h' ∧ Stp h h' ∧ fr d = true ∧ d.sz ≤ 100 := by
  have lsn : ls.length = n := by obtain ⟨ns, rfl, hl, _⟩ := hL; simp [hl]
  have main : Ok (run F G (k + 3) 10 [.obj 1, .obj sp, .obj lp] h) fun w h' => Stp h h' ∧ ∃ d, w = .v d ∧ fr d = true ∧ d.sz ≤ 100 := by
    refine run_ok (fn := f10) rfl rfl ?_
    show Ok (sdns (run F G (k + 2)) G f10.body [some (.obj 1), some (.obj sp), some (.obj lp), none, none, none, none, none, none, none, none] h) _
    have last : ∀ (way : Int) (x4 x5 x6 x7 : Option D) (g : Hd), Dr h g → Ok (sdns (run F G (k + 2)) G [.ret (.call 9 [(.var 0), (.var 1), (.lst []), (.int 10)])] [some (.obj 1), some (.obj sp), some (.obj lp), some (.int way), x4, x5, x6, x7, none, none, none] g) (Fin h fun w h' => Stp h h' ∧ ∃ d, w = .v d ∧ fr d = true ∧ d.sz ≤ 100) := by
      intro way x4 x5 x6 x7 g dr
      have gs := dr.get hs sp1
      have two := dr.pool.two
      obtain ⟨d, g2, e2, s2, fd, zd⟩ := form_sp k (room := 10) (by omega) (by omega) (dr.app [.lst []]).pool (sp := sp) (lp := g.length) (n := 0) (by rw [get_lo (lt_of_get gs)]; exact gs) sp1 hS (by simp) (by omega) ⟨[], rfl, rfl, by simp⟩ (by omega)
      refine Ok.ret (w := .v d) (h1 := g2) (by simp [sizeLine_eq, e2]) ?_
      exact ((dr.app _).step s2).v (tr_no (fr_tr fd)) ⟨d, rfl, fd, zd⟩
    unfold f10
    simp only []
    obtain ⟨way, g1, e1, s1, w0, w1⟩ := draw_0 (k + 1) 4 (by omega) (by omega) p
    have dr := Dr.of s1
    have gs := dr.get hs sp1
    have gl := dr.get hl lp1
    refine Ok.nx (σ' := [some (.obj 1), some (.obj sp), some (.obj lp), some (.int way), none, none, none, none, none, none, none]) (h1 := g1) (by simp [e1]) ?_
    refine Ok.if_ (t := decide (way = 0) && decide (0 < n)) (h1 := g1) (by by_cases z : way = 0 <;> simp [gl, lsn, z]) (fun ht => ?_) (fun hf => ?_)
    · simp only [Bool.and_eq_true, decide_eq_true_eq] at ht
      obtain ⟨ns, rfl, nl, hns⟩ := hL
      obtain ⟨s, es, ms, _⟩ := atI_mem (s := ns) (i := 0) (by omega) (by omega)
      have es2 : atI (ns.map D.str) 0 = some (.str s) := by rw [atI_mp, es]; rfl
      refine Ok.ret (w := .v (.str s)) (h1 := g1) (by simp [gl, es2]) ?_
      exact dr.v rfl ⟨_, rfl, txfr (hns s ms), by have := (hns s ms).1; show 1 + s.length ≤ 100; omega⟩
    · have third : ∀ (x4 : Option D) (g : Hd), Dr h g → Ok (sdns (run F G (k + 2)) G (f10.body.drop 3) [some (.obj 1), some (.obj sp), some (.obj lp), some (.int way), x4, none, none, none, none, none, none] g) (Fin h fun w h' => Stp h h' ∧ ∃ d, w = .v d ∧ fr d = true ∧ d.sz ≤ 100) := by
        intro x4 g dr
        have gs := dr.get hs sp1
        have gl := dr.get hl lp1
        unfold f10
        simp only [List.drop_succ_cons, List.drop_zero]
        refine Ok.if_ (t := decide (way = 2)) (h1 := g) (by simp) (fun ht => ?_) (fun hf => last _ _ _ _ _ _ dr)
        obtain ⟨ts, rfl, tl, hts, s0, hs0⟩ := hS
        have tpos : 0 < ts.length := List.length_pos_of_mem hs0
        obtain ⟨d, g2, e2, s2, d0, d1⟩ := draw_0 (k + 1) ts.length (by omega) (by omega) dr.pool
        obtain ⟨t, et, mt, _⟩ := atI_mem (s := ts) d0 d1
        have et2 : atI (ts.map tok) d = some (tok t) := by rw [atI_mp, et]; rfl
        obtain ⟨tx, t0, t3⟩ := hts t mt
        have dr2 := dr.step s2
        have gs2 := dr2.get hs sp1
        have gl2 := dr2.get hl lp1
        refine Ok.nx (σ' := [some (.obj 1), some (.obj sp), some (.obj lp), some (.int way), x4, some (tok t), none, none, none, none, none]) (h1 := g2) (by simp [gs, e2, gs2, et2]) ?_
        refine Ok.stp ?_
        simp only [sd_set]
        refine Ok.bind (Ok.lc1 (s := lsrc sp) (xs := ts.map tok) (h1 := g2) (ok := fun g => g[sp]? = some (.lst (ts.map tok))) (fun i ys g' => g' = g2 ∧ (∃ us : List (List Nat), ys = us.map .str ∧ us.length ≤ i ∧ ∀ u ∈ us, Tx 8 u) ∧ ∀ j, j < i → ts[j]? = some (s0, 0) → ys ≠ [])
          (by simp [src_obj gs2]) (Walks.lst sp (by rw [List.length_map]; unfold FU; omega)) ⟨rfl, ⟨[], rfl, Nat.le_refl _, by simp⟩, fun j hj => by omega⟩ (fun i ys g' hI => by rw [hI.1]; exact gs2) ?_ ?_)
        · rintro i y ys g' hd ⟨rfl, ⟨us, rfl, ul, hu⟩, hne⟩
          rw [List.getElem?_map] at hd
          obtain ⟨u, eu, rfl⟩ := Option.map_eq_some_iff.mp hd
          obtain ⟨ux, u0, u3⟩ := hts u (List.mem_of_getElem? eu)
          refine ⟨_, decide (u.2 = 0), g', rfl, by simp, fun hh => ?_, fun hh => ?_⟩
          · exact ⟨.str u.1, g', by simp, rfl, ⟨us ++ [u.1], by simp, by simpa using ul, fun z hz => by
              rcases List.mem_append.mp hz with q | q
              · exact hu z q
              · rw [List.mem_singleton.mp q]; exact ux⟩, fun j hj ej => by simp⟩
          · have hh := of_decide_eq_false hh
            refine ⟨rfl, ⟨us, rfl, by omega, hu⟩, fun j hj ej => ?_⟩
            by_cases hji : j = i
            · subst hji
              rw [eu] at ej
              cases ej
              exact absurd rfl hh
            · exact hne j (by omega) ej
        · rintro ys g' ⟨rfl, ⟨us, rfl, ul, hu⟩, hne⟩
          rw [List.length_map] at ul hne
          have un : us ≠ [] := fun z => by
            obtain ⟨j, hj, ej⟩ := List.getElem_of_mem hs0
            exact hne j hj (by rw [List.getElem?_eq_getElem hj, ej]) (by rw [z]; rfl)
          have upos : 0 < us.length := List.length_pos_iff.mpr un
          obtain ⟨u, eu, mu, _⟩ := atI_mem (s := us) (i := 0) (by omega) (by omega)
          have eu2 : atI (us.map D.str) 0 = some (.str u) := by rw [atI_mp, eu]; rfl
          refine ⟨by rw [List.length_map, sizeLine_eq]; omega, ?_⟩
          refine .eq (a := .nx [some (.obj 1), some (.obj sp), some (.obj lp), some (.int way), x4, some (tok t), some (.obj g'.length), none, none, none, none]) (h := g' ++ [.lst (us.map .str)]) (by simp) ?_
          have dr3 : Dr h (g' ++ [.lst (us.map .str)]) := dr2.app _
          have gl3 : (g' ++ [O.lst (us.map .str)])[lp]? = some (.lst ls) := by rw [get_lo (lt_of_get gl2)]; exact gl2
          have gg3 : (g' ++ [O.lst (us.map .str)])[g'.length]? = some (.lst (us.map .str)) := by simp
          generalize g' ++ [O.lst (us.map .str)] = g3 at dr3 gl3 gg3
          have a1 : atI [D.str t.1, D.int t.2] 1 = some (.int t.2) := rfl
          refine Ok.stp ?_
          simp only [sd_set]
          refine Ok.bind (Ok.lc0 (s := .fx (rgs 0 t.2.toNat)) (h1 := g3) (fun i ys g => g = g3 ∧ ys.length = i ∧ frs ys = true ∧ D.szs ys ≤ 10 * i) (by simp [tok, a1, rng0 t0 (show t.2 ≤ 1000000000 by omega)]) (.fx _) ⟨rfl, rfl, rfl, Nat.le_refl _⟩ (fun _ _ _ _ => trivial) ?_ ?_)
          · rintro i y ys g4 hd ⟨rfl, yl, fy, zy⟩
            obtain ⟨rfl, hi⟩ := rg0 hd
            obtain ⟨ns, rfl, nl, hns⟩ := hL
            by_cases hin : i < n
            · obtain ⟨s, es, ms, _⟩ := atI_mem (s := ns) (i := (i : Int)) (by omega) (by omega)
              have es2 : atI (ns.map D.str) (i : Int) = some (.str s) := by rw [atI_mp, es]; rfl
              refine ⟨_, .str s, g4, rfl, by simp [gl3, nl, hin, es2], rfl, by simp [yl], by rw [frs_app, fy]; show (true && (fr _ && true)) = true; rw [txfr (hns s ms)]; rfl, ?_⟩
              rw [szs_app]
              have := (hns s ms).1
              show D.szs ys + ((1 + s.length) + 0) ≤ _
              omega
            · refine ⟨_, .tup [.str u], g4, rfl, by simp [gl3, nl, hin, gg3, eu2, sizeLine_eq], rfl, by simp [yl], by rw [frs_app, fy]; show (true && ((fr _ && true) && true)) = true; rw [txfr (hu u mu)]; rfl, ?_⟩
              rw [szs_app]
              have := (hu u mu).1
              show D.szs ys + ((1 + ((1 + u.length) + 0)) + 0) ≤ _
              omega
          · rintro ys g4 ⟨rfl, yl, fy, zy⟩
            rw [ints_len] at yl zy
            refine ⟨by rw [sizeLine_eq]; omega, ?_⟩
            refine .eq (a := .nx [some (.obj 1), some (.obj sp), some (.obj lp), some (.int way), x4, some (tok t), some (.obj g'.length), some (.obj g4.length), none, none, none]) (h := g4 ++ [.lst ys]) (by simp) ?_
            have a0 : atI [D.str t.1, D.int t.2] 0 = some (.str t.1) := rfl
            have gy : (g4 ++ [O.lst ys])[g4.length]? = some (.lst ys) := by simp
            have yz : 1 + ys.length ≤ 16777216 := by omega
            refine Ok.ret (w := .v (.tup (.str t.1 :: ys))) (h1 := g4 ++ [.lst ys]) ?_ ?_
            · have ad : addW (.l [.str t.1]) (.v (.obj g4.length)) (g4 ++ [O.lst ys]) = some (.l (.str t.1 :: ys)) := by
                simp only [addW, W.lst, gy]
                rw [if_pos (by rw [sizeLine_eq]; simp; omega)]
                rfl
              simp [tok, a0, sizeLine_eq, ad]
            · have f1 : frs (D.str t.1 :: ys) = true := by show (fr _ && frs ys) = true; rw [txfr tx, fy]; rfl
              refine (dr3.app _).v (x := .tup (.str t.1 :: ys)) (tr_no (d := .tup (.str t.1 :: ys)) (frs_tr f1)) ⟨_, rfl, f1, ?_⟩
              have := tx.1
              show 1 + ((1 + t.1.length) + D.szs ys) ≤ 100
              omega
      refine Ok.if_ (t := decide (way = 1) && decide (0 < n)) (h1 := g1) (by by_cases z : way = 1 <;> simp [gl, lsn, z]) (fun ht => ?_) (fun hf => third _ _ dr)
      simp only [Bool.and_eq_true, decide_eq_true_eq] at ht
      obtain ⟨ns, rfl, nl, hns⟩ := hL
      obtain ⟨ms, s, rfl⟩ := snoc_of (xs := ns) (by cases ns with | nil => simp at nl; omega | cons _ _ => rfl)
      have hsT : Tx 8 s := hns s (by simp)
      have c1 : cutL ((ms ++ [s]).map D.str) (some (-1)) none = [.str s] := by rw [List.map_append]; exact cut_last _ _
      have a1 : atI ((ms ++ [s]).map D.str) (-1) = some (.str s) := by rw [List.map_append]; exact DL.atI_last
      have two := dr.pool.two
      obtain ⟨d, g2, e2, s2, fd, zd⟩ := form_sp k (room := 10) (by omega) (by omega) (dr.app [.lst [.str s]]).pool (sp := sp) (lp := g1.length) (n := 1) (by rw [get_lo (lt_of_get gs)]; exact gs) sp1 hS (by simp) (by omega) ⟨[s], rfl, rfl, by simpa using hsT⟩ (by omega)
      refine Ok.nx (σ' := [some (.obj 1), some (.obj sp), some (.obj lp), some (.int way), some d, none, none, none, none, none, none]) (h1 := g2) (by
        simp only [List.map_append, List.map_cons, List.map_nil] at gl c1
        simp [gl, c1, e2]) ?_
      have dr2 := (dr.app [.lst [.str s]]).step s2
      have gl2 := dr2.get hl lp1
      obtain ⟨ys, ey, fy⟩ := parts_ok (k + 1) fd (by omega) g2
      obtain ⟨i, ei⟩ := cnt_ok (h := g2 ++ [.lst ys]) fy hsT
      have gy : (g2 ++ [O.lst ys])[g2.length]? = some (.lst ys) := by simp
      have gl3 : (g2 ++ [O.lst ys])[lp]? = some (.lst ((ms ++ [s]).map D.str)) := by rw [get_lo (lt_of_get gl2)]; exact gl2
      have ec : DL.mt1 .count (.v (.obj g2.length)) (.v (.str s)) (g2 ++ [O.lst ys]) = .ok (.v (.int i)) (g2 ++ [O.lst ys]) := by
        simp only [DL.mt1, gy, ei, Option.map_some]
        rfl
      refine Ok.if_ (t := decide (i ≤ 1)) (h1 := g2 ++ [.lst ys]) (by
        simp only [List.map_append, List.map_cons, List.map_nil] at gl3 a1
        simp [ey, gl3, a1, ec]) (fun hc => ?_) (fun hc => third _ _ (dr2.app _))
      refine Ok.ret (w := .v d) (h1 := g2 ++ [.lst ys]) (by simp) ?_
      exact (dr2.app _).v (tr_no (fr_tr fd)) ⟨d, rfl, fd, zd⟩
  obtain ⟨w, h', e, s, d, rfl, q⟩ := main
  exact ⟨d, h', e, s, q⟩
end Wk32
namespace Wk32
open PySem PySem.Spec PyProof.Rows L2 DL
theorem nms_at {n : Nat} {ls : List D} (hL : Nms n ls) {i : Int} (h0 : 0 ≤ i) (h1 : i < n) : ∃ s, atI ls i = some (.str s) ∧ Tx 8 s := by
  obtain ⟨ns, rfl, nl, hns⟩ := hL
  obtain ⟨s, es, ms, _⟩ := atI_mem (s := ns) h0 (by omega)
  exact ⟨s, by rw [atI_mp, es]; rfl, hns s ms⟩
theorem nms_len {n : Nat} {ls : List D} (hL : Nms n ls) : ls.length = n := by obtain ⟨ns, rfl, hl, _⟩ := hL; simp [hl]
theorem wants_sp (k : Nat) {h : Hd} (p : Pool h) {sp lp cp n m : Nat} {stems ls cs : List D} (hs : h[sp]? = some (.lst stems)) (sp1 : sp ≠ 1) (hS : Stems stems) (hl : h[lp]? = some (.lst ls)) (lp1 : lp ≠ 1) (hL : Nms n ls) (n4 : n ≤ 4)
    (hcp : h[cp]? = some (.lst cs)) (cp1 : cp ≠ 1) (hC : Nms m cs) (m6 : m ≤ 6) :
    ∃ ws h', run F G (k + 3) 11 [.obj 1, .obj sp, .obj cp, .obj lp] h = .ok (.v (.tup ws)) h' ∧ Stp h h' ∧ D.trs ws = true ∧ D.szs ws ≤ 600 := by
  have cl := nms_len hC
  have main : Ok (run F G (k + 3) 11 [.obj 1, .obj sp, .obj cp, .obj lp] h) fun w h' => Stp h h' ∧ ∃ ws, w = .v (.tup ws) ∧ D.trs ws = true ∧ D.szs ws ≤ 600 := by
    refine run_ok (fn := f11) rfl rfl ?_
    show Ok (sdns (run F G (k + 2)) G f11.body [some (.obj 1), some (.obj sp), some (.obj cp), some (.obj lp), none, none] h) _
    unfold f11
    simp only []
    refine Ok.if_ (t := decide (m = 0)) (h1 := h) (by simp [hcp, cl]) (fun ht => ?_) (fun hf => ?_)
    · refine Ok.ret (w := .v (.tup [])) (h1 := h) (by simp [sizeLine_eq]) ?_
      exact (Dr.refl p).v (x := .tup []) rfl ⟨[], rfl, rfl, by show 0 ≤ 600; omega⟩
    · have hf := of_decide_eq_false hf
      refine Ok.nx (σ' := [some (.obj 1), some (.obj sp), some (.obj cp), some (.obj lp), some (.obj h.length), none]) (h1 := h ++ [.lst []]) (by simp [sizeLine_eq]) ?_
      have dr0 : Dr h (h ++ [.lst []]) := (Dr.refl p).app _
      have ne1 : h.length ≠ 1 := by have := p.two; omega
      obtain ⟨d, g1, e1, s1, d0, d1⟩ := draw_0 (k + 1) 7 (by omega) (by omega) dr0.pool
      have mx : (if 2 < d then d - 2 else 0) = max 0 (d - 2) := by split <;> omega
      refine Ok.for_ (s := .fx (rgs 0 (max 0 (d - 2)).toNat)) (h1 := g1) (fun i σ g => ∃ ws x, σ = [some (.obj 1), some (.obj sp), some (.obj cp), some (.obj lp), some (.obj h.length), x] ∧ Dr h g ∧ g[h.length]? = some (.lst ws) ∧ D.trs ws = true ∧ ws.length = i ∧ D.szs ws ≤ 120 * i)
        (by simp [e1, mx, rng0 (show 0 ≤ max 0 (d - 2) by omega) (show max 0 (d - 2) ≤ 1000000000 by omega)]) (.fx _) ⟨[], none, rfl, dr0.step s1, by rw [s1.same _ ne1]; simp, rfl, rfl, Nat.le_refl _⟩ (fun _ _ _ _ => trivial) ?_ ?_
      · rintro i x σ g hx ⟨ws, y, rfl, dr, gw, tw, wl, zw⟩
        obtain ⟨rfl, hi⟩ := rg0 hx
        refine ⟨_, rfl, ?_⟩
        have gc := dr.get hcp cp1
        obtain ⟨d2, g2, e2, s2, a0, a1⟩ := draw_0 (k + 1) m (by omega) (by omega) dr.pool
        have dr2 := dr.step s2
        have gc2 := dr2.get hcp cp1
        obtain ⟨s, es, hsT⟩ := nms_at hC a0 a1
        obtain ⟨d3, g3, e3, s3, b0, b1⟩ := draw_0 (k + 1) 10 (by omega) (by omega) dr2.pool
        have dr3 := dr2.step s3
        obtain ⟨t, g4, e4, s4, ft, zt⟩ := form_sp k (room := 1 + d3) (by omega) (by omega) dr3.pool (dr3.get hs sp1) sp1 hS (dr3.get hl lp1) lp1 hL n4
        have dr4 := dr3.step s4
        have gw4 : g4[h.length]? = some (.lst ws) := by rw [s4.same _ ne1, s3.same _ ne1, s2.same _ ne1]; exact gw
        have wz : ws.length < sizeLine := by rw [sizeLine_eq]; omega
        have two2 : 2 ≤ sizeLine := by rw [sizeLine_eq]; omega
        refine Ok.nx (σ' := [some (.obj 1), some (.obj sp), some (.obj cp), some (.obj lp), some (.obj h.length), some (.int i)]) (h1 := g4.set h.length (.lst (ws ++ [.tup [.str s, t]]))) (by
          simp [isL_obj gw, gc, cl, e2, gc2, es, e3, e4, two2, app_obj gw4, wz]) (Ok.nil ?_)
        refine ⟨ws ++ [.tup [.str s, t]], _, rfl, dr4.set (Nat.le_refl _) _, by rw [List.getElem?_set_self (lt_of_get gw4)], ?_, by simp [wl], ?_⟩
        · rw [trs_app, tw]
          show (true && ((D.tr (.str s) && (t.tr && true)) && true)) = true
          rw [fr_tr (txfr hsT), fr_tr ft]
          rfl
        · rw [szs_app]
          have := hsT.1
          show D.szs ws + ((1 + ((1 + s.length) + (t.sz + 0))) + 0) ≤ _
          omega
      · rintro σ g ⟨ws, y, rfl, dr, gw, tw, wl, zw⟩
        rw [ints_len] at wl zw
        refine Ok.ret (w := .v (.tup ws)) (h1 := g) (by simp [gw]) ?_
        exact dr.v (x := .tup ws) (tr_no (d := .tup ws) tw) ⟨ws, rfl, tw, by omega⟩
  obtain ⟨w, h', e, s, ws, rfl, q⟩ := main
  exact ⟨ws, h', e, s, q⟩
def MakerOk (b : Nat) (d : D) : Prop := ∃ (nm : List Nat) (mn : Int) (fs : List D) (r : D) (ws : List D), d = .tup [.str nm, .int mn, .tup fs, r, .tup ws] ∧ Tx 8 nm ∧ (mn = 0 ∨ (mn = 1 ∧ fs ≠ [])) ∧ D.trs fs = true ∧ fs.length ≤ 5 ∧ D.szs fs ≤ b ∧ r.tr = true ∧ r.sz ≤ 100 ∧ D.trs ws = true ∧ D.szs ws ≤ 600
def sgn : List Nat := [97, 98, 99, 100, 101, 102, 103, 104, 105, 106, 107, 108, 109, 110, 111, 112, 113, 114, 115, 116, 117, 118, 119, 120, 121, 122, 48, 49, 50, 51, 52, 53, 54, 55, 56, 57]
theorem maker_sp (k : Nat) {h : Hd} (p : Pool h) {sp cp m : Nat} {stems cs : List D} (hs : h[sp]? = some (.lst stems)) (sp1 : sp ≠ 1) (hS : Stems stems) (hcp : h[cp]? = some (.lst cs)) (cp1 : cp ≠ 1) (hC : Nms m cs) (m6 : m ≤ 6) :
    ∃ d h', run F G (k + 4) 12 [.obj 1, .obj sp, .obj cp] h = .ok (.v d) h' ∧ Stp h h' ∧ MakerOk 500 d := by
  have main : Ok (run F G (k + 4) 12 [.obj 1, .obj sp, .obj cp] h) fun w h' => Stp h h' ∧ ∃ d, w = .v d ∧ MakerOk 500 d := by
    refine run_ok (fn := f12) rfl rfl ?_
    show Ok (sdns (run F G (k + 3)) G f12.body [some (.obj 1), some (.obj sp), some (.obj cp), none, none, none, none, none, none, none, none] h) _
    unfold f12
    simp only []
    have sT : Tx 100 sgn := ⟨by decide, by decide⟩
    have sl : sgn.length = 36 := rfl
    have sz := sT.line (by omega)
    refine Ok.nx (σ' := [some (.obj 1), some (.obj sp), some (.obj cp), some (.str sgn), none, none, none, none, none, none, none]) (h1 := h) (by simp [sgn]) ?_
    generalize sgn = sg at sT sl sz
    obtain ⟨d1, g1, e1, s1, a0, a1⟩ := draw_0 (k + 2) 36 (by omega) (by omega) p
    obtain ⟨c, ec, mc, _⟩ := atI_mem (s := sg) a0 (by omega)
    obtain ⟨w, g2, e2, s2, t, rfl, ht⟩ := tail_sp (k + 1) sT (by omega) (show (0 : Int) ≤ 7 by omega) (by omega) g1 s1.pool
    have tz : 1 + t.length ≤ sizeLine := by rw [sizeLine_eq]; have := ht.1; omega
    refine Ok.nx (σ' := [some (.obj 1), some (.obj sp), some (.obj cp), some (.str sg), some (.str (c :: t)), none, none, none, none, none, none]) (h1 := g2) (by simp [sz, e1, ec, e2, tz]) ?_
    have nT : Tx 8 (c :: t) := ⟨by have := ht.1; simp; omega, fun z hz => by
      rcases List.mem_cons.mp hz with q | q
      · rw [q]; exact sT.2 c mc
      · exact ht.2 z q⟩
    generalize c :: t = nm at nT
    obtain ⟨w, g3, e3, s3, n, ys, rfl, n4, hL⟩ := letters_sp (k + 1) g2 s2.pool
    have dr3 := ((Dr.of s1).step s2).step s3
    refine Ok.nx (σ' := [some (.obj 1), some (.obj sp), some (.obj cp), some (.str sg), some (.str nm), some (.obj g3.length), none, none, none, none, none]) (h1 := g3 ++ [.lst ys]) (by simp [e3]) ?_
    have dr4 : Dr h (g3 ++ [.lst ys]) := dr3.app _
    have gl4 : (g3 ++ [O.lst ys])[g3.length]? = some (.lst ys) := by simp
    have l1 : g3.length ≠ 1 := by have := dr3.pool.two; omega
    generalize g3 ++ [O.lst ys] = g4 at dr4 gl4
    generalize g3.length = lp at gl4 l1
    obtain ⟨many, g5, e5, s5, b0, b1⟩ := draw_0 (k + 2) 5 (by omega) (by omega) dr4.pool
    refine Ok.nx (σ' := [some (.obj 1), some (.obj sp), some (.obj cp), some (.str sg), some (.str nm), some (.obj lp), some (.int many), none, none, none, none]) (h1 := g5) (by simp [e5]) ?_
    have dr5 := dr4.step s5
    have gl5 : g5[lp]? = some (.lst ys) := by rw [s5.same _ l1]; exact gl4
    have rest : ∀ (mn : Int) (g : Hd), (mn = 0 ∨ (mn = 1 ∧ 0 < many)) → Dr h g → g[lp]? = some (.lst ys) → Ok (sdns (run F G (k + 3)) G (f12.body.drop 5) [some (.obj 1), some (.obj sp), some (.obj cp), some (.str sg), some (.str nm), some (.obj lp), some (.int many), some (.int mn), none, none, none] g) (Fin h fun w h' => Stp h h' ∧ ∃ d, w = .v d ∧ MakerOk 500 d) := by
      intro mn g hmn dr gl
      unfold f12
      simp only [List.drop_succ_cons, List.drop_zero]
      refine Ok.nx (σ' := [some (.obj 1), some (.obj sp), some (.obj cp), some (.str sg), some (.str nm), some (.obj lp), some (.int many), some (.int mn), some (.obj g.length), none, none]) (h1 := g ++ [.lst []]) (by simp [sizeLine_eq]) ?_
      have gle := dr.le
      have f1 : g.length ≠ 1 := by have := dr.pool.two; omega
      have gl' : (g ++ [O.lst []])[lp]? = some (.lst ys) := by rw [get_lo (lt_of_get gl)]; exact gl
      have gf' : (g ++ [O.lst []])[g.length]? = some (.lst []) := by simp
      have dr' : Dr h (g ++ [.lst []]) := dr.app _
      have lpq : lp ≠ g.length := by have := lt_of_get gl; omega
      generalize g ++ [O.lst []] = g1 at gl' gf' dr'
      generalize g.length = fp at gf' f1 lpq gle
      refine Ok.for_ (s := .fx (rgs 0 many.toNat)) (h1 := g1) (fun i σ g => ∃ fs x, σ = [some (.obj 1), some (.obj sp), some (.obj cp), some (.str sg), some (.str nm), some (.obj lp), some (.int many), some (.int mn), some (.obj fp), x, none] ∧ Dr h g ∧ g[lp]? = some (.lst ys) ∧ g[fp]? = some (.lst fs) ∧ D.trs fs = true ∧ fs.length = i ∧ D.szs fs ≤ 100 * i)
        (by simp [rng0 b0 (show many ≤ 1000000000 by omega)]) (.fx _) ⟨[], none, rfl, dr', gl', gf', rfl, rfl, Nat.le_refl _⟩ (fun _ _ _ _ => trivial) ?_ ?_
      · rintro i x σ g hx ⟨fs, y, rfl, dr, gl, gf, tf, fl, zf⟩
        obtain ⟨rfl, hi⟩ := rg0 hx
        refine ⟨_, rfl, ?_⟩
        obtain ⟨d3, g3, e3, s3, c0, c1⟩ := draw_0 (k + 2) 10 (by omega) (by omega) dr.pool
        have dr3 := dr.step s3
        have gl3 : g3[lp]? = some (.lst ys) := by rw [s3.same _ l1]; exact gl
        obtain ⟨t, g4, e4, s4, ft, zt⟩ := form_sp (k + 1) (room := 1 + d3) (by omega) (by omega) dr3.pool (dr3.get hs sp1) sp1 hS gl3 l1 hL n4
        have gf4 : g4[fp]? = some (.lst fs) := by rw [s4.same _ f1, s3.same _ f1]; exact gf
        have gl4 : g4[lp]? = some (.lst ys) := by rw [s4.same _ l1]; exact gl3
        have fz : fs.length < sizeLine := by rw [sizeLine_eq]; omega
        refine Ok.nx (σ' := [some (.obj 1), some (.obj sp), some (.obj cp), some (.str sg), some (.str nm), some (.obj lp), some (.int many), some (.int mn), some (.obj fp), some (.int i), none]) (h1 := g4.set fp (.lst (fs ++ [t]))) (by
          simp [isL_obj gf, e3, e4, app_obj gf4, fz]) (Ok.nil ?_)
        refine ⟨fs ++ [t], _, rfl, (dr3.step s4).set gle _, by rw [List.getElem?_set_ne (Ne.symm lpq)]; exact gl4, by rw [List.getElem?_set_self (lt_of_get gf4)], ?_, by simp [fl], ?_⟩
        · rw [trs_app, tf]
          show (true && (t.tr && true)) = true
          rw [fr_tr ft]
          rfl
        · rw [szs_app]
          show D.szs fs + (t.sz + 0) ≤ _
          omega
      · rintro σ g ⟨fs, y, rfl, dr, gl, gf, tf, fl, zf⟩
        rw [ints_len] at fl zf
        obtain ⟨r, g2, e2, s2, fr2, zr⟩ := head_sp k dr.pool (dr.get hs sp1) sp1 hS gl l1 hL n4
        have dr2 := dr.step s2
        have gf2 : g2[fp]? = some (.lst fs) := by rw [s2.same _ f1]; exact gf
        have gl2 : g2[lp]? = some (.lst ys) := by rw [s2.same _ l1]; exact gl
        refine Ok.nx (σ' := [some (.obj 1), some (.obj sp), some (.obj cp), some (.str sg), some (.str nm), some (.obj lp), some (.int many), some (.int mn), some (.obj fp), y, some r]) (h1 := g2) (by simp [e2]) ?_
        obtain ⟨ws, g3, e3, s3, tw, zw⟩ := wants_sp k dr2.pool (dr2.get hs sp1) sp1 hS gl2 l1 hL n4 (dr2.get hcp cp1) cp1 hC m6
        have five : 5 ≤ sizeLine := by rw [sizeLine_eq]; omega
        refine Ok.ret (w := .v (.tup [.str nm, .int mn, .tup fs, r, .tup ws])) (h1 := g3) (by simp [gf2, e3, five]) ?_
        have hr := fr_tr fr2
        refine (dr2.step s3).v (tr_no (d := .tup [.str nm, .int mn, .tup fs, r, .tup ws]) ?_) ⟨_, rfl, nm, mn, fs, r, ws, rfl, nT, ?_, tf, by omega, by omega, hr, zr, tw, zw⟩
        · show (D.tr (.str nm) && (true && (D.trs fs && (r.tr && (D.trs ws && true))))) = true
          rw [fr_tr (txfr nT), tf, hr, tw]
          rfl
        · rcases hmn with q | ⟨q, q2⟩
          · exact .inl q
          · exact .inr ⟨q, fun z => by rw [z] at fl; simp at fl; omega⟩
    by_cases m0 : many = 0
    · refine Ok.nx (σ' := [some (.obj 1), some (.obj sp), some (.obj cp), some (.str sg), some (.str nm), some (.obj lp), some (.int many), some (.int 0), none, none, none]) (h1 := g5) (by simp [m0]) ?_
      exact rest 0 g5 (.inl rfl) dr5 gl5
    · obtain ⟨d6, g6, e6, s6, c0, c1⟩ := draw_0 (k + 2) 2 (by omega) (by omega) dr5.pool
      refine Ok.nx (σ' := [some (.obj 1), some (.obj sp), some (.obj cp), some (.str sg), some (.str nm), some (.obj lp), some (.int many), some (.int d6), none, none, none]) (h1 := g6) (by simp [m0, e6]) ?_
      exact rest d6 g6 (by omega) (dr5.step s6) (by rw [s6.same _ l1]; exact gl5)
  obtain ⟨w, h', e, s, d, rfl, q⟩ := main
  exact ⟨d, h', e, s, q⟩
end Wk32
namespace Wk32
open PySem PySem.Spec PyProof.Rows L2 DL
def RuleOk (d : D) : Prop := ∃ (nm : List Nat) (hd : D) (ws : List D), d = .tup [.str nm, hd, .tup ws] ∧ Tx 8 nm ∧ hd.tr = true ∧ hd.sz ≤ 100 ∧ D.trs ws = true ∧ D.szs ws ≤ 600
theorem RuleOk.tr {d : D} (r : RuleOk d) : d.tr = true ∧ d.sz ≤ 800 := by
  obtain ⟨nm, hd, ws, rfl, nT, h1, h2, h3, h4⟩ := r
  refine ⟨?_, ?_⟩
  · show (D.tr (.str nm) && (hd.tr && (D.trs ws && true))) = true
    rw [fr_tr (txfr nT), h1, h3]
    rfl
  · have := nT.1
    show 1 + ((1 + nm.length) + (hd.sz + ((1 + D.szs ws) + 0))) ≤ 800
    omega
theorem MakerOk.tr {b : Nat} (hb : b ≤ 600) {d : D} (r : MakerOk b d) : d.tr = true ∧ d.sz ≤ 1500 := by
  obtain ⟨nm, mn, fs, r, ws, rfl, nT, h1, h2, h3, h4, h5, h6, h7, h8⟩ := r
  refine ⟨?_, ?_⟩
  · show (D.tr (.str nm) && (true && (D.trs fs && (r.tr && (D.trs ws && true))))) = true
    rw [fr_tr (txfr nT), h2, h5, h7]
    rfl
  · have := nT.1
    show 1 + ((1 + nm.length) + (1 + ((1 + D.szs fs) + (r.sz + ((1 + D.szs ws) + 0))))) ≤ 1500
    omega
structure BookOk (b : Nat) (d : D) : Prop where
  ex : ∃ stems cs rules makers : List D, d = .tup [.tup stems, .tup cs, .tup rules, .tup makers] ∧ Stems stems ∧ D.trs cs = true ∧ (∀ r ∈ rules, RuleOk r) ∧ (∀ m ∈ makers, MakerOk b m) ∧ rules.length ≤ 20 ∧ makers.length ≤ 30
theorem Stems.tr {xs : List D} (s : Stems xs) : D.trs xs = true := by
  obtain ⟨ts, rfl, _, hts, _⟩ := s
  rw [trs_mem]
  intro x hx
  obtain ⟨t, ht, rfl⟩ := List.mem_map.mp hx
  show (D.tr (.str t.1) && (true && true)) = true
  rw [fr_tr (txfr (hts t ht).1)]
  rfl
theorem Nms.tr {n : Nat} {xs : List D} (s : Nms n xs) : D.trs xs = true := by
  obtain ⟨ts, rfl, _, hts⟩ := s
  rw [trs_mem]
  intro x hx
  obtain ⟨t, ht, rfl⟩ := List.mem_map.mp hx
  exact fr_tr (txfr (hts t ht))
theorem BookOk.tr {b : Nat} (hb : b ≤ 600) {d : D} (bk : BookOk b d) : d.tr = true := by
  obtain ⟨stems, cs, rules, makers, rfl, h1, h2, h3, h4, _⟩ := bk.ex
  show (D.trs stems && (D.trs cs && (D.trs rules && (D.trs makers && true)))) = true
  rw [h1.tr, h2, trs_mem.mpr fun r hr => (h3 r hr).tr.1, trs_mem.mpr fun r hr => ((h4 r hr).tr hb).1]
  rfl
theorem cnt_sp (k : Nat) {b : Bool} {m1 m2 : Int} {σ : Sd} {g : Hd} (v0 : σ[0]? = some (some (.obj 1))) (v1 : σ[1]? = some (some (.bl b))) (p : Pool g) (h1 : 0 ≤ m1) (h2 : m1 ≤ 100) (h3 : 1 ≤ m2) (h4 : m2 ≤ 100) :
    ∃ (N : Nat) (g2 : Hd), (dn (run F G (k + 1)) G (.rng1 (.ite (.var 1) (.int m1) (.call 3 [.var 0, .int m2])))).i σ g = .ok (.fx (rgs 0 N)) g2 ∧ Stp g g2 ∧ N ≤ max m1.toNat m2.toNat := by
  cases b with
  | true => exact ⟨m1.toNat, g, by simp [v1, rng0 h1 (show m1 ≤ 1000000000 by omega)], Stp.refl p, by omega⟩
  | false =>
    obtain ⟨d, g2, e, s, d0, d1⟩ := draw_0 k m2 h3 (by omega) p
    exact ⟨d.toNat, g2, by simp [v0, v1, e, rng0 d0 (show d ≤ 1000000000 by omega)], s, by omega⟩
theorem Nms.sorted {n : Nat} {ns : List (List Nat)} (h : Nms n (ns.map D.str)) : Nms n ((sortS ns).map D.str) := by
  obtain ⟨ms, e, hl, hm⟩ := h
  have e2 : ns = ms := by
    have inj : ∀ xs ys : List (List Nat), xs.map D.str = ys.map D.str → xs = ys := by
      intro xs
      induction xs with
      | nil => intro ys h; cases ys with
        | nil => rfl
        | cons _ _ => cases h
      | cons x xs ih => intro ys h; cases ys with
        | nil => cases h
        | cons y ys =>
          simp only [List.map_cons, List.cons.injEq, D.str.injEq] at h
          rw [h.1, ih ys h.2]
    exact inj _ _ e
  subst e2
  have pm : (sortS ns).Perm ns := List.mergeSort_perm _ _
  exact ⟨sortS ns, rfl, by rw [pm.length_eq]; exact hl, fun x hx => hm x (pm.mem_iff.mp hx)⟩
theorem cls_sp (k : Nat) (b : Bool) {σ : Sd} {g : Hd} (v0 : σ[0]? = some (some (.obj 1))) (v1 : σ[1]? = some (some (.bl b))) (p : Pool g) :
    ∃ (q : Nat) (cs : List D) (g2 : Hd), (dn (run F G (k + 4)) G (.b1 .sorted (.call 5 [(.var 0), (.ite (.var 1) (.int 6) (.call 3 [(.var 0), (.int 4)]))]))).v σ g = .ok (.l cs) g2 ∧ Stp g g2 ∧ Nms q cs ∧ q ≤ 6 := by
  cases b with
  | true =>
    obtain ⟨w, g2, e2, s2, ys, rfl, hN⟩ := names_sp (k + 1) (show (0 : Int) ≤ 6 by omega) (by omega) g p
    obtain ⟨ns, rfl, nl, hns⟩ := id hN
    refine ⟨6, _, g2, ?_, s2, Nms.sorted hN, by omega⟩
    simp [v0, v1, e2]
    rw [sorted_strs ns (by simp at nl; omega)]
    rfl
  | false =>
    obtain ⟨d, g1, e1, s1, d0, d1⟩ := draw_0 (k + 3) 4 (by omega) (by omega) p
    obtain ⟨w, g2, e2, s2, ys, rfl, hN⟩ := names_sp (k + 1) d0 (by omega) g1 s1.pool
    obtain ⟨ns, rfl, nl, hns⟩ := id hN
    refine ⟨d.toNat, _, g2, ?_, s1.trans s2, Nms.sorted hN, by omega⟩
    simp [v0, v1, e1, e2]
    rw [sorted_strs ns (by omega)]
    rfl
theorem many_sp (k : Nat) (b : Bool) {h : Hd} (p : Pool h) : ∃ (m : Int) (g : Hd), (dn (run F G (k + 4)) G (.ite (.var 1) (.int 10) (.bin .Add (.int 1) (.call 3 [(.var 0), (.int 5)])))).v [some (.obj 1), some (.bl b), none, none, none, none, none, none, none, none, none, none, none, none] h = .ok (.v (.int m)) g ∧ Stp h g ∧ 1 ≤ m ∧ m ≤ 10 := by
  cases b with
  | true => exact ⟨10, h, by simp, Stp.refl p, by omega, by omega⟩
  | false =>
    obtain ⟨d, g2, e, s, d0, d1⟩ := draw_0 (k + 3) 5 (by omega) (by omega) p
    exact ⟨1 + d, g2, by simp [e], s, by omega, by omega⟩
theorem book_sp (k : Nat) (b : Bool) {h : Hd} (p : Pool h) : ∃ d h', run F G (k + 5) 13 [.obj 1, .bl b] h = .ok (.v d) h' ∧ Stp h h' ∧ BookOk 500 d := by
  have main : Ok (run F G (k + 5) 13 [.obj 1, .bl b] h) fun w h' => Stp h h' ∧ ∃ d, w = .v d ∧ BookOk 500 d := by
    refine run_ok (fn := f13) rfl rfl ?_
    show Ok (sdns (run F G (k + 4)) G f13.body [some (.obj 1), some (.bl b), none, none, none, none, none, none, none, none, none, none, none, none] h) _
    unfold f13
    simp only []
    have many := many_sp k b p
    obtain ⟨m, g1, e1, s1, m1, m10⟩ := many
    refine Ok.nx (σ' := [some (.obj 1), some (.bl b), some (.int m), none, none, none, none, none, none, none, none, none, none, none]) (h1 := g1) (by rw [sd_set, e1]; simp) ?_
    obtain ⟨w, g2, e2, s2, ys, rfl, hN⟩ := names_sp (k + 1) (show 0 ≤ m by omega) (by omega) g1 s1.pool
    refine Ok.nx (σ' := [some (.obj 1), some (.bl b), some (.int m), some (.obj g2.length), none, none, none, none, none, none, none, none, none, none]) (h1 := g2 ++ [.lst ys]) (by simp [e2]) ?_
    have dr : Dr h (g2 ++ [.lst ys]) := ((Dr.of s1).step s2).app _
    have gn : (g2 ++ [O.lst ys])[g2.length]? = some (.lst ys) := by simp
    have n1 : g2.length ≠ 1 := by have := s2.pool.two; omega
    have nle : h.length ≤ g2.length := ((Dr.of s1).step s2).le
    generalize g2 ++ [O.lst ys] = g3 at dr gn
    generalize g2.length = np at gn n1 nle
    obtain ⟨gr, g4, e4, s4, r0, r1⟩ := draw_0 (k + 3) m (by omega) (by omega) dr.pool
    refine Ok.nx (σ' := [some (.obj 1), some (.bl b), some (.int m), some (.obj np), some (.int gr), none, none, none, none, none, none, none, none, none]) (h1 := g4) (by simp [e4]) ?_
    have dr4 := dr.step s4
    have gn4 : g4[np]? = some (.lst ys) := by rw [s4.same _ n1]; exact gn
    refine Ok.nx (σ' := [some (.obj 1), some (.bl b), some (.int m), some (.obj np), some (.int gr), some (.obj g4.length), none, none, none, none, none, none, none, none]) (h1 := g4 ++ [.lst []]) (by simp [sizeLine_eq]) ?_
    have dr5 : Dr h (g4 ++ [.lst []]) := dr4.app _
    have gs5 : (g4 ++ [O.lst []])[g4.length]? = some (.lst []) := by simp
    have gn5 : (g4 ++ [O.lst []])[np]? = some (.lst ys) := by rw [get_lo (lt_of_get gn4)]; exact gn4
    have s1' : g4.length ≠ 1 := by have := dr4.pool.two; omega
    have sle : h.length ≤ g4.length := dr4.le
    have snp : np ≠ g4.length := by have := lt_of_get gn4; omega
    generalize g4 ++ [O.lst []] = g5 at dr5 gs5 gn5
    generalize g4.length = sp at gs5 s1' sle snp
    refine Ok.for_ (s := .fx (rgs 0 m.toNat)) (h1 := g5) (fun i σ g => ∃ (ts : List (List Nat × Int)) (x y : Option D), σ = [some (.obj 1), some (.bl b), some (.int m), some (.obj np), some (.int gr), some (.obj sp), x, none, none, none, y, none, none, none] ∧ Dr h g ∧ g[np]? = some (.lst ys) ∧ g[sp]? = some (.lst (ts.map tok)) ∧ ts.length = i ∧ (∀ t ∈ ts, Tx 8 t.1 ∧ 0 ≤ t.2 ∧ t.2 ≤ 3) ∧ (gr < i → ∃ s, (s, (0 : Int)) ∈ ts))
      (by simp [rng0 (show 0 ≤ m by omega) (show m ≤ 1000000000 by omega)]) (.fx _) ⟨[], none, none, rfl, dr5, gn5, gs5, rfl, by simp, fun z => by omega⟩ (fun _ _ _ _ => trivial) ?_ ?_
    · rintro i x σ g hx ⟨ts, y, z, rfl, dr, gn, gs, tl, hts, hg⟩
      obtain ⟨rfl, hi⟩ := rg0 hx
      refine ⟨_, rfl, ?_⟩
      obtain ⟨pl, g6, e6, s6, p0, p1⟩ := draw_0 (k + 3) 4 (by omega) (by omega) dr.pool
      have gn6 : g6[np]? = some (.lst ys) := by rw [s6.same _ n1]; exact gn
      have gs6 : g6[sp]? = some (.lst (ts.map tok)) := by rw [s6.same _ s1']; exact gs
      refine Ok.nx (σ' := [some (.obj 1), some (.bl b), some (.int m), some (.obj np), some (.int gr), some (.obj sp), some (.int i), none, none, none, some (.int pl), none, none, none]) (h1 := g6) (by simp [e6]) ?_
      obtain ⟨s, es, hs⟩ := nms_at hN (i := (i : Int)) (by omega) (by omega)
      have two2 : 2 ≤ sizeLine := by rw [sizeLine_eq]; omega
      have tz : ts.length < sizeLine := by rw [sizeLine_eq]; omega
      refine Ok.nx (σ' := [some (.obj 1), some (.bl b), some (.int m), some (.obj np), some (.int gr), some (.obj sp), some (.int i), none, none, none, some (.int pl), none, none, none]) (h1 := g6.set sp (.lst (ts.map tok ++ [tok (s, if (i : Int) = gr then 0 else pl)]))) (by
        by_cases hg2 : (i : Int) = gr
        · simp [isL_obj gs6, gn6, es, hg2, two2, app_obj gs6, tz, tok]
          simp [← hg2, es, two2, app_obj gs6, tz, gn6]
        · simp [isL_obj gs6, gn6, es, hg2, two2, app_obj gs6, tz, tok]) (Ok.nil ?_)
      refine ⟨ts ++ [(s, if (i : Int) = gr then 0 else pl)], _, _, rfl, (dr.step s6).set sle _, by rw [List.getElem?_set_ne (Ne.symm snp)]; exact gn6, by rw [List.getElem?_set_self (lt_of_get gs6), List.map_append]; rfl, by simp [tl], fun t ht => ?_, fun hlt => ?_⟩
      · rcases List.mem_append.mp ht with q | q
        · exact hts t q
        · rw [List.mem_singleton.mp q]
          refine ⟨hs, ?_, ?_⟩ <;> (show _ ≤ _; dsimp only; split <;> omega)
      · by_cases hg2 : (i : Int) = gr
        · exact ⟨s, List.mem_append_right _ (by rw [if_pos hg2]; exact List.mem_singleton_self _)⟩
        · obtain ⟨s', q⟩ := hg (by omega)
          exact ⟨s', List.mem_append_left _ q⟩
    · rintro σ g ⟨ts, y, z, rfl, dr, gn, gs, tl, hts, hg⟩
      rw [ints_len] at tl hg
      have hS : Stems (ts.map tok) := ⟨ts, rfl, by omega, hts, hg (by omega)⟩
      generalize ts.map tok = stems at gs hS
      obtain ⟨q, cs, g6, e6, s6, hC, q6⟩ := cls_sp k b (σ := [some (.obj 1), some (.bl b), some (.int m), some (.obj np), some (.int gr), some (.obj sp), y, none, none, none, z, none, none, none]) rfl rfl dr.pool
      refine Ok.nx (σ' := [some (.obj 1), some (.bl b), some (.int m), some (.obj np), some (.int gr), some (.obj sp), y, some (.obj g6.length), none, none, z, none, none, none]) (h1 := g6 ++ [.lst cs]) (by rw [sd_set, e6]; simp) ?_
      have dr6 := dr.step s6
      have gs6 : g6[sp]? = some (.lst stems) := by rw [s6.same _ s1']; exact gs
      have dr7 : Dr h (g6 ++ [.lst cs]) := dr6.app _
      have gc7 : (g6 ++ [O.lst cs])[g6.length]? = some (.lst cs) := by simp
      have gs7 : (g6 ++ [O.lst cs])[sp]? = some (.lst stems) := by rw [get_lo (lt_of_get gs6)]; exact gs6
      have c1 : g6.length ≠ 1 := by have := dr6.pool.two; omega
      have cle : h.length ≤ g6.length := dr6.le
      generalize g6 ++ [O.lst cs] = g7 at dr7 gc7 gs7
      generalize g6.length = cp at gc7 c1 cle
      have cl := nms_len hC
      refine Ok.nx (σ' := [some (.obj 1), some (.bl b), some (.int m), some (.obj np), some (.int gr), some (.obj sp), y, some (.obj cp), some (.obj g7.length), none, z, none, none, none]) (h1 := g7 ++ [.lst []]) (by simp [sizeLine_eq]) ?_
      have dr8 : Dr h (g7 ++ [.lst []]) := dr7.app _
      have gr8 : (g7 ++ [O.lst []])[g7.length]? = some (.lst []) := by simp
      have gs8 : (g7 ++ [O.lst []])[sp]? = some (.lst stems) := by rw [get_lo (lt_of_get gs7)]; exact gs7
      have gc8 : (g7 ++ [O.lst []])[cp]? = some (.lst cs) := by rw [get_lo (lt_of_get gc7)]; exact gc7
      have rr1 : g7.length ≠ 1 := by have := dr7.pool.two; omega
      have rle : h.length ≤ g7.length := dr7.le
      have rsp : sp ≠ g7.length := by have := lt_of_get gs7; omega
      have rcp : cp ≠ g7.length := by have := lt_of_get gc7; omega
      generalize g7 ++ [O.lst []] = g8 at dr8 gr8 gs8 gc8
      generalize g7.length = rp at gr8 rr1 rle rsp rcp
      have K : g8[sp]? = some (.lst stems) ∧ g8[cp]? = some (.lst cs) := ⟨gs8, gc8⟩
      have fin : ∀ (x6 xc xl xh xn : Option D) (rules : List D) (g : Hd), Dr h g → g[sp]? = some (.lst stems) → g[cp]? = some (.lst cs) → g[rp]? = some (.lst rules) → (∀ r ∈ rules, RuleOk r) → rules.length ≤ 20 →
          Ok (sdns (run F G (k + 4)) G (f13.body.drop 8) [some (.obj 1), some (.bl b), some (.int m), some (.obj np), some (.int gr), some (.obj sp), x6, some (.obj cp), some (.obj rp), none, z, xl, xh, xn] g) (Fin h fun w h' => Stp h h' ∧ ∃ d, w = .v d ∧ BookOk 500 d) := by
        intro x6 xc xl xh xn rules g dr gs gc gr' hR hRl
        unfold f13
        simp only [List.drop_succ_cons, List.drop_zero]
        refine Ok.nx (σ' := [some (.obj 1), some (.bl b), some (.int m), some (.obj np), some (.int gr), some (.obj sp), x6, some (.obj cp), some (.obj rp), some (.obj g.length), z, xl, xh, xn]) (h1 := g ++ [.lst []]) (by simp [sizeLine_eq]) ?_
        have dr1 : Dr h (g ++ [.lst []]) := dr.app _
        have gm1 : (g ++ [O.lst []])[g.length]? = some (.lst []) := by simp
        have gs1 : (g ++ [O.lst []])[sp]? = some (.lst stems) := by rw [get_lo (lt_of_get gs)]; exact gs
        have gc1 : (g ++ [O.lst []])[cp]? = some (.lst cs) := by rw [get_lo (lt_of_get gc)]; exact gc
        have gr1 : (g ++ [O.lst []])[rp]? = some (.lst rules) := by rw [get_lo (lt_of_get gr')]; exact gr'
        have mm1 : g.length ≠ 1 := by have := dr.pool.two; omega
        have mle : h.length ≤ g.length := dr.le
        have msp : sp ≠ g.length := by have := lt_of_get gs; omega
        have mcp : cp ≠ g.length := by have := lt_of_get gc; omega
        have mrp : rp ≠ g.length := by have := lt_of_get gr'; omega
        generalize g ++ [O.lst []] = g1 at dr1 gm1 gs1 gc1 gr1
        generalize g.length = mp at gm1 mm1 mle msp mcp mrp
        obtain ⟨N, g2, e2, s2, hN30⟩ := cnt_sp (k + 3) (b := b) (m1 := 30) (m2 := 7) (σ := [some (.obj 1), some (.bl b), some (.int m), some (.obj np), some (.int gr), some (.obj sp), x6, some (.obj cp), some (.obj rp), some (.obj mp), z, xl, xh, xn]) rfl rfl dr1.pool (by omega) (by omega) (by omega) (by omega)
        refine Ok.for_ (s := .fx (rgs 0 N)) (h1 := g2) (fun i σ g => ∃ (ms : List D) (x6 : Option D), σ = [some (.obj 1), some (.bl b), some (.int m), some (.obj np), some (.int gr), some (.obj sp), x6, some (.obj cp), some (.obj rp), some (.obj mp), z, xl, xh, xn] ∧ Dr h g ∧ g[sp]? = some (.lst stems) ∧ g[cp]? = some (.lst cs) ∧ g[rp]? = some (.lst rules) ∧ g[mp]? = some (.lst ms) ∧ (∀ d ∈ ms, MakerOk 500 d) ∧ ms.length = i)
          e2 (.fx _) ⟨[], _, rfl, dr1.step s2, by rw [s2.same _ s1']; exact gs1, by rw [s2.same _ c1]; exact gc1, by rw [s2.same _ rr1]; exact gr1, by rw [s2.same _ mm1]; exact gm1, by simp, rfl⟩ (fun _ _ _ _ => trivial) ?_ ?_
        · rintro i x σ g hx ⟨ms, x6, rfl, dr, gs, gc, gr', gm, hm, ml⟩
          obtain ⟨rfl, hi⟩ := rg0 hx
          refine ⟨_, rfl, ?_⟩
          obtain ⟨d, g3, e3, s3, hd⟩ := maker_sp k dr.pool gs s1' hS gc c1 hC q6
          have gm3 : g3[mp]? = some (.lst ms) := by rw [s3.same _ mm1]; exact gm
          have mz : ms.length < sizeLine := by rw [sizeLine_eq]; omega
          refine Ok.nx (σ' := [some (.obj 1), some (.bl b), some (.int m), some (.obj np), some (.int gr), some (.obj sp), some (.int i), some (.obj cp), some (.obj rp), some (.obj mp), z, xl, xh, xn]) (h1 := g3.set mp (.lst (ms ++ [d]))) (by simp [isL_obj gm, e3, app_obj gm3, mz]) (Ok.nil ?_)
          refine ⟨ms ++ [d], _, rfl, (dr.step s3).set mle _, by rw [List.getElem?_set_ne (Ne.symm msp), s3.same _ s1']; exact gs, by rw [List.getElem?_set_ne (Ne.symm mcp), s3.same _ c1]; exact gc, by rw [List.getElem?_set_ne (Ne.symm mrp), s3.same _ rr1]; exact gr', by rw [List.getElem?_set_self (lt_of_get gm3)], fun y hy => ?_, by simp [ml]⟩
          rcases List.mem_append.mp hy with q | q
          · exact hm y q
          · rw [List.mem_singleton.mp q]; exact hd
        · rintro σ g ⟨ms, x6, rfl, dr, gs, gc, gr', gm, hm, ml⟩
          rw [ints_len] at ml
          have bk : BookOk 500 (.tup [.tup stems, .tup cs, .tup rules, .tup ms]) := ⟨stems, cs, rules, ms, rfl, hS, hC.tr, hR, hm, hRl, by omega⟩
          have four : 4 ≤ sizeLine := by rw [sizeLine_eq]; omega
          refine Ok.ret (w := .v (.tup [.tup stems, .tup cs, .tup rules, .tup ms])) (h1 := g) (by simp [gs, gc, gr', gm, four]) ?_
          exact dr.v (tr_no (bk.tr (by omega))) ⟨_, rfl, bk⟩
      refine Ok.if_ (t := decide (0 < q)) (h1 := g8) (by simp [gc8, cl]) (fun ht => ?_) (fun hf => ?_)
      · have ht := of_decide_eq_true ht
        obtain ⟨N, g9, e9, s9, hN⟩ := cnt_sp (k + 3) (b := b) (m1 := 20) (m2 := 5) (σ := [some (.obj 1), some (.bl b), some (.int m), some (.obj np), some (.int gr), some (.obj sp), y, some (.obj cp), some (.obj rp), none, z, none, none, none]) rfl rfl dr8.pool (by omega) (by omega) (by omega) (by omega)
        refine Ok.for_ (s := .fx (rgs 0 N)) (h1 := g9) (fun i σ g => ∃ (rs : List D) (x6 xl xh xn : Option D), σ = [some (.obj 1), some (.bl b), some (.int m), some (.obj np), some (.int gr), some (.obj sp), x6, some (.obj cp), some (.obj rp), none, z, xl, xh, xn] ∧ Dr h g ∧ g[sp]? = some (.lst stems) ∧ g[cp]? = some (.lst cs) ∧ g[rp]? = some (.lst rs) ∧ (∀ d ∈ rs, RuleOk d) ∧ rs.length = i)
          e9 (.fx _) ⟨[], _, _, _, _, rfl, dr8.step s9, by rw [s9.same _ s1']; exact gs8, by rw [s9.same _ c1]; exact gc8, by rw [s9.same _ rr1]; exact gr8, by simp, rfl⟩ (fun _ _ _ _ => trivial) ?_ ?_
        · rintro i x σ g hx ⟨rs, x6, xl, xh, xn, rfl, dr, gs, gc, gr', hm, ml⟩
          obtain ⟨rfl, hi⟩ := rg0 hx
          refine ⟨_, rfl, ?_⟩
          obtain ⟨w, g3, e3, s3, n, ls, rfl, n4, hL⟩ := letters_sp (k + 2) g dr.pool
          have dr3 := dr.step s3
          refine Ok.nx (σ' := [some (.obj 1), some (.bl b), some (.int m), some (.obj np), some (.int gr), some (.obj sp), some (.int i), some (.obj cp), some (.obj rp), none, z, some (.obj g3.length), xh, xn]) (h1 := g3 ++ [.lst ls]) (by simp [e3]) ?_
          have gs3 : g3[sp]? = some (.lst stems) := by rw [s3.same _ s1']; exact gs
          have gc3 : g3[cp]? = some (.lst cs) := by rw [s3.same _ c1]; exact gc
          have gr3 : g3[rp]? = some (.lst rs) := by rw [s3.same _ rr1]; exact gr'
          have dr4 : Dr h (g3 ++ [.lst ls]) := dr3.app _
          have gl4 : (g3 ++ [O.lst ls])[g3.length]? = some (.lst ls) := by simp
          have gs4 : (g3 ++ [O.lst ls])[sp]? = some (.lst stems) := by rw [get_lo (lt_of_get gs3)]; exact gs3
          have gc4 : (g3 ++ [O.lst ls])[cp]? = some (.lst cs) := by rw [get_lo (lt_of_get gc3)]; exact gc3
          have gr4 : (g3 ++ [O.lst ls])[rp]? = some (.lst rs) := by rw [get_lo (lt_of_get gr3)]; exact gr3
          have l1 : g3.length ≠ 1 := by have := dr3.pool.two; omega
          generalize g3 ++ [O.lst ls] = g4 at dr4 gl4 gs4 gc4 gr4
          generalize g3.length = lp at gl4 l1
          obtain ⟨hd, g5, e5, s5, hf5, hz5⟩ := head_sp (k + 1) dr4.pool gs4 s1' hS gl4 l1 hL n4
          refine Ok.nx (σ' := [some (.obj 1), some (.bl b), some (.int m), some (.obj np), some (.int gr), some (.obj sp), some (.int i), some (.obj cp), some (.obj rp), none, z, some (.obj lp), some hd, xn]) (h1 := g5) (by simp [e5]) ?_
          have dr5 := dr4.step s5
          have gc5 : g5[cp]? = some (.lst cs) := by rw [s5.same _ c1]; exact gc4
          obtain ⟨d, g6, e6, s6, d0, d1⟩ := draw_0 (k + 3) q (by omega) (by omega) dr5.pool
          have dr6 := dr5.step s6
          have gc6 : g6[cp]? = some (.lst cs) := by rw [s6.same _ c1]; exact gc5
          obtain ⟨nm, enm, nT⟩ := nms_at hC d0 d1
          refine Ok.nx (σ' := [some (.obj 1), some (.bl b), some (.int m), some (.obj np), some (.int gr), some (.obj sp), some (.int i), some (.obj cp), some (.obj rp), none, z, some (.obj lp), some hd, some (.str nm)]) (h1 := g6) (by simp [gc5, cl, e6, gc6, enm]) ?_
          have gs6 : g6[sp]? = some (.lst stems) := by rw [s6.same _ s1', s5.same _ s1']; exact gs4
          have gl6 : g6[lp]? = some (.lst ls) := by rw [s6.same _ l1, s5.same _ l1]; exact gl4
          have gr6 : g6[rp]? = some (.lst rs) := by rw [s6.same _ rr1, s5.same _ rr1]; exact gr4
          obtain ⟨ws, g7, e7, s7, tw, zw⟩ := wants_sp (k + 1) dr6.pool gs6 s1' hS gl6 l1 hL n4 gc6 c1 hC q6
          have gr7 : g7[rp]? = some (.lst rs) := by rw [s7.same _ rr1]; exact gr6
          have three : 3 ≤ sizeLine := by rw [sizeLine_eq]; omega
          have rz : rs.length < sizeLine := by rw [sizeLine_eq]; omega
          refine Ok.nx (σ' := [some (.obj 1), some (.bl b), some (.int m), some (.obj np), some (.int gr), some (.obj sp), some (.int i), some (.obj cp), some (.obj rp), none, z, some (.obj lp), some hd, some (.str nm)]) (h1 := g7.set rp (.lst (rs ++ [.tup [.str nm, hd, .tup ws]]))) (by simp [isL_obj gr6, e7, three, app_obj gr7, rz]) (Ok.nil ?_)
          refine ⟨rs ++ [.tup [.str nm, hd, .tup ws]], _, _, _, _, rfl, (dr6.step s7).set rle _, by rw [List.getElem?_set_ne (Ne.symm rsp), s7.same _ s1']; exact gs6, by rw [List.getElem?_set_ne (Ne.symm rcp), s7.same _ c1]; exact gc6, by rw [List.getElem?_set_self (lt_of_get gr7)], fun y hy => ?_, by simp [ml]⟩
          rcases List.mem_append.mp hy with q | q
          · exact hm y q
          · rw [List.mem_singleton.mp q]; exact ⟨nm, hd, ws, rfl, nT, fr_tr hf5, hz5, tw, zw⟩
        · rintro σ g ⟨rs, x6, xl, xh, xn, rfl, dr, gs, gc, gr', hm, ml⟩
          rw [ints_len] at ml
          exact fin x6 none xl xh xn rs g dr gs gc gr' hm (by omega)
      · exact fin y none none none none [] g8 dr8 gs8 gc8 gr8 (by simp) (by simp)
  obtain ⟨w, h', e, s, d, rfl, q⟩ := main
  exact ⟨d, h', e, s, q⟩
end Wk32
namespace Wk32
open PySem PySem.Spec PyProof.Rows L2 DL
def Lw (n : Nat) (mn many : Int) : Int := if mn = 0 then (if many = 0 then n else n + many + 1) else (if many = 1 then n + 1 else n + many + 1)
theorem gc_same {h : Hd} {d : D} (hd : d.noObj = true) : gc h (.ok (.v d) h) = .ok (.v d) h := gc_v0 (Eld.refl h) hd
theorem own_ok (k : Nat) {nm : List Nat} {mn many : Int} (nT : Tx 8 nm) (h1 : mn = 0 ∨ (mn = 1 ∧ 1 ≤ many)) (m0 : 0 ≤ many) (m1 : many ≤ 9) (h : Hd) :
    ∃ ss : List (List Nat), run F G (k + 1) 1 [.str nm, .int mn, .int many] h = .ok (.v (.tup (ss.map .str))) h ∧ ((ss.map fun s => (s.length : Int)).sum = Lw nm.length mn many) ∧ (∀ s ∈ ss, s.length ≤ 100) ∧ ss.length ≤ 100 := by
  have nl := nT.1
  have main : Ok (run F G (k + 1) 1 [.str nm, .int mn, .int many] h) fun w h' => h' = h ∧ ∃ ss : List (List Nat), w = .v (.tup (ss.map .str)) ∧ ((ss.map fun s => (s.length : Int)).sum = Lw nm.length mn many) ∧ (∀ s ∈ ss, s.length ≤ 100) ∧ ss.length ≤ 100 := by
    refine run_ok (fn := f1) rfl rfl ?_
    show Ok (sdns (run F G k) G f1.body [some (.str nm), some (.int mn), some (.int many), none] h) _
    unfold f1
    simp only []
    have strN : ∀ ss : List (List Nat), (D.tup (ss.map .str)).noObj = true := fun ss => noStrs ss
    have big : ∀ n : Nat, n ≤ 1000 → n ≤ sizeLine := fun n hn => by rw [sizeLine_eq]; omega
    refine Ok.if_ (t := decide (mn = 0) && decide (many = 0)) (h1 := h) (by by_cases z : mn = 0 <;> simp [z]) (fun ht => ?_) (fun hf => ?_)
    · simp only [Bool.and_eq_true, decide_eq_true_eq] at ht
      refine Ok.ret (w := .v (.tup [.str nm])) (h1 := h) (by simp [big 1 (by omega)]) ?_
      exact .eq (gc_same rfl) ⟨rfl, [nm], rfl, by simp [Lw, ht.1, ht.2], by simpa using (by omega), by simp⟩
    · refine Ok.if_ (t := decide (mn = 1) && decide (many = 1)) (h1 := h) (by by_cases z : mn = 1 <;> simp [z]) (fun ht => ?_) (fun hf2 => ?_)
      · simp only [Bool.and_eq_true, decide_eq_true_eq] at ht
        refine Ok.ret (w := .v (.tup [.str [], .str (46 :: nm)])) (h1 := h) (by simp [big 2 (by omega), big (1 + nm.length) (by omega)]) ?_
        exact .eq (gc_same rfl) ⟨rfl, [[], 46 :: nm], rfl, by simp [Lw, ht.1, ht.2], by simp; omega, by simp⟩
      · simp only [Bool.and_eq_false_iff, decide_eq_false_iff_not] at hf hf2
        have last : ∀ (op : List (List Nat)) (c : Nat), op.length ≤ 2 → (many - (op.length : Int)).toNat = c → (∀ s ∈ op, s.length ≤ 50) → ((op.map fun s => (s.length : Int)).sum + c + 1 = Lw nm.length mn many) →
            Ok (sdns (run F G k) G [.ret (.bin .Add (.bin .Add (.var 3) (.bin .Mult (.tup [(.str [44])]) (.bin .Sub (.var 2) (.b1 .len (.var 3))))) (.tup [(.str [41])]))] [some (.str nm), some (.int mn), some (.int many), some (.tup (op.map .str))] h)
              (Fin h fun w h' => h' = h ∧ ∃ ss : List (List Nat), w = .v (.tup (ss.map .str)) ∧ ((ss.map fun s => (s.length : Int)).sum = Lw nm.length mn many) ∧ (∀ s ∈ ss, s.length ≤ 100) ∧ ss.length ≤ 100) := by
          intro op c hop hc hs hsum
          have c1 : -(2 ^ 63) ≤ many - (op.length : Int) ∧ many - (op.length : Int) ≤ 1000 := by omega
          have cz : c ≤ 9 := by omega
          have mu : mulW (.v (.tup [.str [44]])) (.v (.int (many - (op.length : Int)))) h = some (.v (.tup (List.replicate c (.str [44])))) := by
            simp only [mulW]
            rw [if_pos ⟨c1.1, c1.2, by simp⟩, hc]
            simp
          have z1 : op.length + c ≤ sizeLine := big _ (by omega)
          have z2 : op.length + c + 1 ≤ sizeLine := big _ (by omega)
          have z3 : op.length + (c + 1) ≤ sizeLine := big _ (by omega)
          refine Ok.ret (w := .v (.tup ((op ++ List.replicate c [44] ++ [[41]]).map .str))) (h1 := h) (by simp [-DL.mul_tp, big 1 (by omega), mu, z1, z2, z3]) ?_
          refine .eq (gc_same (strN _)) ⟨rfl, _, rfl, ?_, fun s hs2 => ?_, by simp; omega⟩
          · rw [← hsum]
            simp
            omega
          · rcases List.mem_append.mp hs2 with q | q
            · rcases List.mem_append.mp q with q | q
              · have := hs s q; omega
              · rw [(List.mem_replicate.mp q).2]; simp
            · rw [List.mem_singleton.mp q]; simp
        by_cases z : mn = 0
        · have hm : many ≠ 0 := by
            rcases hf with q | q
            · exact absurd z q
            · exact q
          refine Ok.nx (σ' := [some (.str nm), some (.int mn), some (.int many), some (.tup ([nm ++ [40]].map .str))]) (h1 := h) (by simp [z, big 1 (by omega), big (nm.length + 1) (by omega)]) ?_
          refine last [nm ++ [40]] (many - 1).toNat (by simp) (by simp) (by simp; omega) ?_
          simp [Lw, z, hm]
          omega
        · have z1 : mn = 1 := by omega
          have hm : many ≠ 1 := by
            rcases hf2 with q | q
            · exact absurd z1 q
            · exact q
          refine Ok.nx (σ' := [some (.str nm), some (.int mn), some (.int many), some (.tup ([[], 46 :: nm ++ [40]].map .str))]) (h1 := h) (by simp [z, big 2 (by omega), big (1 + nm.length) (by omega), big (1 + nm.length + 1) (by omega), big (nm.length + 1 + 1) (by omega)]) ?_
          refine last [[], 46 :: nm ++ [40]] (many - 2).toNat (by simp) (by simp) (by simp; omega) ?_
          simp [Lw, z, hm]
          omega
  obtain ⟨w, h', e, rfl, ss, rfl, q⟩ := main
  exact ⟨ss, e, q⟩
theorem written_ok (k : Nat) {nm : List Nat} {mn many : Int} (nT : Tx 8 nm) (h1 : mn = 0 ∨ (mn = 1 ∧ 1 ≤ many)) (m0 : 0 ≤ many) (m1 : many ≤ 5) (h : Hd) :
    ∃ s : List Nat, run F G (k + 1) 14 [.str nm, .int mn, .int many] h = .ok (.v (.str s)) h ∧ (s.length : Int) = Lw nm.length mn many ∧ s.length ≤ 100 := by
  have nl := nT.1
  have main : Ok (run F G (k + 1) 14 [.str nm, .int mn, .int many] h) fun w h' => h' = h ∧ ∃ s : List Nat, w = .v (.str s) ∧ (s.length : Int) = Lw nm.length mn many ∧ s.length ≤ 100 := by
    refine run_ok (fn := f14) rfl rfl ?_
    show Ok (sdns (run F G k) G f14.body [some (.str nm), some (.int mn), some (.int many), none, none] h) _
    unfold f14
    simp only []
    have big : ∀ n : Nat, n ≤ 1000 → n ≤ sizeLine := fun n hn => by rw [sizeLine_eq]; omega
    refine Ok.stp ?_
    simp only [sd_set]
    refine Ok.bind (Ok.lc0 (s := .fx (rgs 0 many.toNat)) (h1 := h) (fun i ys g => g = h ∧ ys = List.replicate i (.str [])) (by simp [rng0 m0 (show many ≤ 1000000000 by omega)]) (.fx _) ⟨rfl, rfl⟩ (fun _ _ _ _ => trivial) ?_ ?_)
    · rintro i d ys g hd ⟨rfl, rfl⟩
      obtain ⟨rfl, hi⟩ := rg0 hd
      exact ⟨_, .str [], g, rfl, by simp, rfl, by rw [List.replicate_succ']⟩
    · rintro ys g ⟨rfl, rfl⟩
      rw [ints_len]
      refine ⟨by rw [List.length_replicate]; exact big _ (by omega), ?_⟩
      refine .eq (a := .nx [some (.str nm), some (.int mn), some (.int many), some (.obj g.length), none]) (h := g ++ [.lst (List.replicate many.toNat (.str []))]) (by simp) ?_
      have ge : (g ++ [O.lst (List.replicate many.toNat (D.str []))])[g.length]? = some (.lst (List.replicate many.toNat (.str []))) := by simp
      have fin : ∀ s : List Nat, Ok (gc g (.ok (.v (.str s)) (g ++ [O.lst (List.replicate many.toNat (D.str []))]))) fun w h' => h' = g ∧ w = .v (.str s) := fun s => .eq (gc_v (Eld.refl g) rfl) ⟨rfl, rfl⟩
      generalize hg : g ++ [O.lst (List.replicate many.toNat (D.str []))] = g1 at ge fin
      have wr : ∀ s : List Nat, (s.length : Int) = Lw nm.length mn many → Fin g (fun w h' => h' = g ∧ ∃ s : List Nat, w = .v (.str s) ∧ (s.length : Int) = Lw nm.length mn many ∧ s.length ≤ 100) (.rt (.v (.str s))) g1 := fun s hs => by
        refine (fin s).mono fun w h' q => ⟨q.1, s, q.2, hs, ?_⟩
        have : Lw nm.length mn many ≤ 100 := by
          unfold Lw
          split <;> split <;> omega
        omega
      have jn : ∀ (n : Nat) (x : W), n ≤ 5 → x.seq g1 = some (List.replicate n (D.str [])) → DL.mt1 .join (.v (.str [44])) x g1 = .ok (.v (.str (List.replicate (n - 1) 44))) g1 := by
        intro n x hn hx
        have : n = 0 ∨ n = 1 ∨ n = 2 ∨ n = 3 ∨ n = 4 ∨ n = 5 := by omega
        simp only [DL.mt1, hx]
        rcases this with rfl | rfl | rfl | rfl | rfl | rfl <;> rfl
      by_cases z : mn = 0
      · refine Ok.ifT (h1 := g1) (by simp [z]) ?_
        by_cases hm : many = 0
        · refine Ok.ret (w := .v (.str nm)) (h1 := g1) (by simp [hm]) (wr nm (by simp [Lw, z, hm]))
        · have j1 := jn many.toNat (.v (.obj g.length)) (by omega) (by simp only [W.seq, D.items, ge])
          have mp : 0 < many := by omega
          have z3 : nm.length + 1 + (many.toNat - 1) ≤ sizeLine := big _ (by omega)
          have z4 : nm.length + 1 + (many.toNat - 1) + 1 ≤ sizeLine := big _ (by omega)
          have z5 : nm.length + (many.toNat - 1 + 1) + 1 ≤ sizeLine := big _ (by omega)
          have z6 : nm.length + (many.toNat - 1 + 1) ≤ sizeLine := big _ (by omega)
          refine Ok.ret (w := .v (.str (nm ++ [40] ++ List.replicate (many.toNat - 1) 44 ++ [41]))) (h1 := g1) (by simp [mp, big (nm.length + 1) (by omega), j1, z3, z4, z5, z6]) (wr _ ?_)
          simp [Lw, z, hm]
          omega
      · have z1 : mn = 1 := by omega
        refine Ok.ifF (h1 := g1) (by simp [z]) ?_
        by_cases hm : many = 1
        · refine Ok.ret (w := .v (.str (46 :: nm))) (h1 := g1) (by simp [hm, big (1 + nm.length) (by omega)]) (wr _ (by simp [Lw, z, hm]))
        · have c1 : cutL (List.replicate many.toNat (D.str [])) (some 1) none = List.replicate (many.toNat - 1) (.str []) := by
            have := cut_from (List.replicate many.toNat (D.str [])) 1
            rw [List.drop_replicate] at this
            exact this
          have j1 := jn (many.toNat - 1) (.l (List.replicate (many.toNat - 1) (.str []))) (by omega) rfl
          have mp : 1 < many := by omega
          have z2 : 1 + nm.length + 1 ≤ sizeLine := big _ (by omega)
          have z3 : 1 + nm.length + 1 + (many.toNat - 1 - 1) ≤ sizeLine := big _ (by omega)
          have z4 : 1 + nm.length + 1 + (many.toNat - 1 - 1) + 1 ≤ sizeLine := big _ (by omega)
          have add_ok : ∀ s t : List Nat, s.length + t.length ≤ 1000 → ∃ r, addW (.v (.str s)) (.v (.str t)) g1 = some (.v (.str r)) ∧ r.length = s.length + t.length := fun s t hz => ⟨s ++ t, by rw [add_str, if_pos (big _ hz)], by simp⟩
          obtain ⟨r1, e1, l1⟩ := add_ok [46] nm (by simp; omega)
          simp at l1
          obtain ⟨r2, e2, l2⟩ := add_ok r1 [40] (by simp; omega)
          simp at l2
          obtain ⟨r3, e3, l3⟩ := add_ok r2 (List.replicate (many.toNat - 1 - 1) 44) (by simp; omega)
          simp at l3
          obtain ⟨r4, e4, l4⟩ := add_ok r3 [41] (by simp; omega)
          simp at l4
          refine Ok.ret (w := .v (.str r4)) (h1 := g1) ?_ (wr _ ?_)
          · simp [-DL.add_str, mp, e1, e2, ge, c1, j1, e3, e4]
          · simp [Lw, z, hm]
            omega
  obtain ⟨w, h', e, rfl, s, rfl, q⟩ := main
  exact ⟨s, e, q⟩
end Wk32
namespace Wk32
open PySem PySem.Spec PyProof.Rows L2 DL
def had : List Nat := [104, 97, 100]
def rowR : D → D
  | .tup [n, hd, ws] => .tup [n, hd, .int 0, ws]
  | d => d
def rowM : D → D
  | .tup [.str nm, .int mn, .tup fs, r, .tup ws] => .tup [.str had, r, .int (Lw nm.length mn fs.length), .tup (fs.map (fun f => D.tup [.str had, f]) ++ ws)]
  | d => d
theorem take_map {f : D → D} {xs : List D} {i : Nat} {d : D} (e : xs[i]? = some d) : (xs.take (i + 1)).map f = (xs.take i).map f ++ [f d] := by
  rw [List.take_succ, e]
  simp
theorem Eld.own {h g : Hd} (o : Own h g) {x : D} (hx : x.noObj = true) : gc h (.ok (.v x) g) = .ok (.v x) h := by
  obtain ⟨L, rfl⟩ := o
  exact gc_v (Eld.refl h) hx
theorem a42 (a b c d : D) : atI [a, b, c, d] 2 = some c := rfl
theorem a43 (a b c d : D) : atI [a, b, c, d] 3 = some d := rfl
theorem asked_ok {C : Cls} {G : List D} {σ : Sd} {g : Hd} {i j : Nat} {fs : List D} (hi : σ[i]? = some (some (.tup fs))) (hj : j < σ.length) (hij : i ≠ j) (hl : fs.length ≤ 100) :
    (dn C G (.lc (.tup [(.str [104, 97, 100]), (.var j)]) (.nm j) (.var i) none [j])).v σ g = .ok (.l (fs.map fun f => D.tup [.str had, f])) g := by
  have main : Ok ((dn C G (.lc (.tup [(.str [104, 97, 100]), (.var j)]) (.nm j) (.var i) none [j])).v σ g) fun w h' => w = .l (fs.map fun f => D.tup [.str had, f]) ∧ h' = g := by
    refine Ok.lc0 (s := .fx fs) (h1 := g) (fun i ys g' => g' = g ∧ ys = (fs.take i).map fun f => D.tup [.str had, f]) (by simp [hi]) (.fx _) ⟨rfl, rfl⟩ (fun _ _ _ _ => trivial) ?_ ?_
    · rintro i d ys g' hd ⟨rfl, rfl⟩
      refine ⟨_, .tup [.str had, d], g', rfl, ?_, rfl, by rw [take_map (f := fun f => D.tup [.str had, f]) hd]⟩
      have e1 : ((wipeD σ [j]).set j (some d))[j]? = some (some d) := by simp [hj]
      have two : 2 ≤ sizeLine := by rw [sizeLine_eq]; omega
      simp only [ev_tup, evs_cons, evs_nil, ev_str, ev_var e1, R.bind_ok, settle_v, List.length_cons, List.length_nil]
      rw [if_pos two]
      rfl
    · rintro ys g' ⟨rfl, rfl⟩
      rw [List.take_length]
      exact ⟨by rw [List.length_map, sizeLine_eq]; omega, rfl, rfl⟩
  obtain ⟨w, h', e, rfl, rfl⟩ := main
  exact e
theorem rows_ok (k : Nat) {bk : D} {stems cs rules makers : List D} (e : bk = .tup [.tup stems, .tup cs, .tup rules, .tup makers]) (hR : ∀ r ∈ rules, RuleOk r) {b : Nat} (hM : ∀ m ∈ makers, MakerOk b m) (rl : rules.length ≤ 20) (ml : makers.length ≤ 30)
    (tr : D.trs (rules.map rowR ++ makers.map rowM) = true) (h : Hd) : run F G (k + 2) 0 [bk] h = .ok (.v (.tup (rules.map rowR ++ makers.map rowM))) h := by
  have main : Ok (run F G (k + 2) 0 [bk] h) fun w h' => h' = h ∧ w = .v (.tup (rules.map rowR ++ makers.map rowM)) := by
    refine run_ok (fn := f0) rfl rfl ?_
    show Ok (sdns (run F G (k + 1)) G f0.body [some bk, none, none, none, none, none, none, none, none, none, none] h) _
    unfold f0
    simp only []
    have four : 4 ≤ sizeLine := by rw [sizeLine_eq]; omega
    refine Ok.stp ?_
    simp only [sd_set]
    refine Ok.bind (Ok.lc0 (s := .fx rules) (h1 := h) (fun i ys g => g = h ∧ ys = (rules.take i).map rowR) (by simp [e, a42]) (.fx _) ⟨rfl, rfl⟩ (fun _ _ _ _ => trivial) ?_ ?_)
    · rintro i d ys g hd ⟨rfl, rfl⟩
      obtain ⟨nm, hdd, ws, ed, _⟩ := hR d (List.mem_of_getElem? hd)
      refine ⟨[some bk, none, some (.str nm), none, none, none, some (.tup ws), none, some hdd, none, none], rowR d, g, by rw [ed]; simp, ?_, rfl, by rw [take_map hd]⟩
      rw [ed]
      simp [rowR, four]
    · rintro ys g ⟨rfl, rfl⟩
      rw [List.take_length]
      refine ⟨by rw [List.length_map, sizeLine_eq]; omega, ?_⟩
      refine .eq (a := .nx [some bk, some (.obj g.length), none, none, none, none, none, none, none, none, none]) (h := g ++ [.lst (rules.map rowR)]) (by simp) ?_
      refine Ok.for_ (s := .fx makers) (h1 := g ++ [.lst (rules.map rowR)]) (fun i σ g' => ∃ x2 x3 x4 x5 x6 x7 : Option D, σ = [some bk, some (.obj g.length), x2, x3, x4, x5, x6, x7, none, none, none] ∧ Own g g' ∧ g'[g.length]? = some (.lst (rules.map rowR ++ (makers.take i).map rowM)))
        (by simp [e, a43]) (.fx _) ⟨none, none, none, none, none, none, rfl, ⟨_, rfl⟩, by simp⟩ (fun _ _ _ _ => trivial) ?_ ?_
      · rintro i d σ g' hd ⟨x2, x3, x4, x5, x6, x7, rfl, ow, gr⟩
        have il := (List.getElem?_eq_some_iff.mp hd).1
        obtain ⟨nm, mn, fs, r, ws, ed, nT, hmn, tf, fl, zf, _⟩ := hM d (List.mem_of_getElem? hd)
        refine ⟨[some bk, some (.obj g.length), some (.str nm), some (.int mn), some (.tup fs), some r, some (.tup ws), x7, none, none, none], by rw [ed]; simp, ?_⟩
        obtain ⟨ss, e1, sm, sh, sl⟩ := own_ok k (nm := nm) (mn := mn) (many := (fs.length : Int)) nT (by
          rcases hmn with q | ⟨q, q2⟩
          · exact .inl q
          · exact .inr ⟨q, by have := List.length_pos_iff.mpr q2; omega⟩) (by omega) (by omega) g'
        refine Ok.stp ?_
        simp only [sd_set, ev_b1]
        refine Ok.bind (Ok.bind (Ok.lc0 (s := .fx (ss.map .str)) (h1 := g') (fun i ys g'' => g'' = g' ∧ ys = ((ss.take i).map fun s => D.int (s.length : Int))) (by simp [e1]) (.fx _) ⟨rfl, rfl⟩ (fun _ _ _ _ => trivial) ?_ ?_))
        · rintro i y ys g'' hy ⟨rfl, rfl⟩
          rw [List.getElem?_map] at hy
          obtain ⟨s, es, rfl⟩ := Option.map_eq_some_iff.mp hy
          have hs := sh s (List.mem_of_getElem? es)
          have sz : s.length ≤ sizeLine := by rw [sizeLine_eq]; omega
          refine ⟨_, .int s.length, g'', rfl, by simp [sz], rfl, by rw [List.take_succ, es]; simp⟩
        · rintro ys g'' ⟨rfl, rfl⟩
          have tk : ss.take (ss.map D.str).length = ss := by rw [List.length_map, List.take_length]
          rw [tk]
          refine ⟨by rw [List.length_map, sizeLine_eq]; omega, ?_⟩
          have es : intsOf (ss.map fun s => D.int (s.length : Int)) = some (ss.map fun s => (s.length : Int)) := by
            have := intsOf_map (ss.map fun s => (s.length : Int))
            rw [List.map_map] at this
            exact this
          refine .eq (a := .v (.int (Lw nm.length mn fs.length))) (h := g'') (by rw [sum_l, es, ← sm]; rfl) ?_
          refine .eq (a := .nx [some bk, some (.obj g.length), some (.str nm), some (.int mn), some (.tup fs), some r, some (.tup ws), some (.int (Lw nm.length mn fs.length)), none, none, none]) (h := g'') (by simp) ?_
          have as := asked_ok (C := run F G (k + 1)) (G := G) (σ := [some bk, some (.obj g.length), some (.str nm), some (.int mn), some (.tup fs), some r, some (.tup ws), some (.int (Lw nm.length mn fs.length)), none, none, none]) (g := g'') (i := 4) (j := 10) (fs := fs) rfl (by simp) (by decide) (by omega)
          have ws6 : ws.length ≤ 1000 := by
            obtain ⟨_, _, _, _, _, e3, _, _, _, _, _, _, _, _, zw⟩ := hM d (List.mem_of_getElem? hd)
            rw [ed] at e3
            simp only [D.tup.injEq, List.cons.injEq, and_true] at e3
            have := szs_len ws
            rw [e3.2.2.2.2] at this ⊢
            omega
          have zz : fs.length + ws.length ≤ sizeLine := by rw [sizeLine_eq]; omega
          have az : rules.length + i < sizeLine := by rw [sizeLine_eq]; omega
          have hmi : min i makers.length = i := by omega
          refine Ok.nx (σ' := [some bk, some (.obj g.length), some (.str nm), some (.int mn), some (.tup fs), some r, some (.tup ws), some (.int (Lw nm.length mn fs.length)), none, none, none]) (h1 := g''.set g.length (.lst (rules.map rowR ++ (makers.take i).map rowM ++ [rowM d]))) (by
            simp only [List.map_take] at gr
            rw [ed]
            simp [isL_obj gr, as, zz, four, app_obj gr, hmi, az, rowM, had]) (Ok.nil ?_)
          refine ⟨_, _, _, _, _, _, rfl, ow.set (Nat.le_refl _) _, ?_⟩
          rw [List.getElem?_set_self (lt_of_get gr), take_map hd, List.append_assoc]
      · rintro σ g' ⟨x2, x3, x4, x5, x6, x7, rfl, ow, gr⟩
        rw [List.take_length] at gr
        refine Ok.ret (w := .v (.tup (rules.map rowR ++ makers.map rowM))) (h1 := g') (by simp [gr]) ?_
        exact .eq (Eld.own ow (x := .tup _) (trs_no tr)) ⟨rfl, rfl⟩
  obtain ⟨w, h', e, rfl, rfl⟩ := main
  exact e
end Wk32
namespace Wk32
open PySem PySem.Spec PyProof.Rows L2 DL
theorem gc_own_l {h g : Hd} (o : Own h g) {n : Nat} {xs : List D} (hn : h.length ≤ n) (e : g[n]? = some (.lst xs)) (hx : D.noObjs xs = true) : gc h (.ok (.v (.obj n)) g) = .ok (.l xs) h := by
  obtain ⟨L, rfl⟩ := o
  exact gc_o (Eld.refl h) hn e hx
theorem add_ol {g : Hd} {n : Nat} {s t : List D} (e : g[n]? = some (.lst s)) (hz : s.length + t.length ≤ sizeLine) : addW (.v (.obj n)) (.l t) g = some (.l (s ++ t)) := by
  simp only [addW, W.lst, e]
  rw [if_pos hz]
theorem len_str_ok {s : List Nat} {g : Hd} (hz : s.length ≤ sizeLine) {i : Int} (hi : (s.length : Int) = i) : bl1 .len (.v (.str s)) g = some (.v (.int i)) := by rw [DL.len_str, if_pos hz, hi]
theorem set_len0 {s : List Nat} {lw : Int} {g1 : Hd} (sl : bl1 .len (.v (.str s)) g1 = some (.v (.int lw))) {C : Cls} {e : Ex} {σ : Sd} {i : Nat} (e14 : (dn C G e).v σ g1 = .ok (.v (.str s)) g1) : sdn C G (.set (.nm i) (.b1 .len e)) σ g1 = .ok (.nx (σ.set i (some (.int lw)))) g1 := by
  rw [sd_set, ev_b1, e14, R.bind_ok, sl]
  simp only [R.ofO_some, R.bind_ok, settle_v, put_nm]
theorem set_len {s : List Nat} {lw : Int} {g1 : Hd} (szl : s.length ≤ sizeLine) (sl : (s.length : Int) = lw) {C : Cls} {e : Ex} {σ : Sd} {i : Nat} (e14 : (dn C G e).v σ g1 = .ok (.v (.str s)) g1) : sdn C G (.set (.nm i) (.b1 .len e)) σ g1 = .ok (.nx (σ.set i (some (.int lw)))) g1 :=
  set_len0 (len_str_ok szl sl) e14
theorem call14 {C : Cls} {σ : Sd} {g : Hd} {nm s : List Nat} {mn fz : Int} {fs : List D} (v2 : σ[2]? = some (some (.str nm))) (v5 : σ[5]? = some (some (.int mn))) (v6 : σ[6]? = some (some (.tup fs))) (hF : (fs.length : Int) = fz)
    (e1 : C 14 [.str nm, .int mn, .int fz] g = .ok (.v (.str s)) g) : (dn C G (.call 14 [(.var 2), (.var 5), (.b1 .len (.var 6))])).v σ g = .ok (.v (.str s)) g := by
  simp only [ev_call, evs_cons, evs_nil, ev_var v2, ev_var v5, ev_var v6, ev_b1, len_tup, R.bind_ok, R.ofO_some, settle_v, hF, e1]
theorem own_step (k : Nat) {σ : Sd} {g : Hd} {nm : List Nat} {mn : Int} {fs : List D} (v2 : σ[2]? = some (some (.str nm))) (v5 : σ[5]? = some (some (.int mn))) (v6 : σ[6]? = some (some (.tup fs))) (nT : Tx 8 nm) (hmn : mn = 0 ∨ (mn = 1 ∧ fs ≠ [])) (fl : fs.length ≤ 5) :
    sdn (run F G (k + 1)) G (.set (.nm 9) (.b1 .len (.call 14 [(.var 2), (.var 5), (.b1 .len (.var 6))]))) σ g = .ok (.nx (σ.set 9 (some (.int (Lw nm.length mn fs.length))))) g := by
  have pos : mn = 0 ∨ (mn = 1 ∧ 1 ≤ (fs.length : Int)) := by
    rcases hmn with q | ⟨q, q2⟩
    · exact .inl q
    · exact .inr ⟨q, by have := List.length_pos_iff.mpr q2; omega⟩
  have f0 : 0 ≤ (fs.length : Int) := by omega
  have f5 : (fs.length : Int) ≤ 5 := by omega
  generalize hF : (fs.length : Int) = fz at pos f0 f5
  obtain ⟨s, e1, sl, sz⟩ := written_ok k nT pos f0 f5 g
  exact set_len (by rw [sizeLine_eq]; omega) sl (call14 v2 v5 v6 hF e1)
theorem due_ok (k : Nat) {bk : D} {stems cs rules makers : List D} (e : bk = .tup [.tup stems, .tup cs, .tup rules, .tup makers]) (hR : ∀ r ∈ rules, RuleOk r) {b : Nat} (hM : ∀ m ∈ makers, MakerOk b m) (rl : rules.length ≤ 20) (ml : makers.length ≤ 30)
    (tr : D.trs (rules.map rowR ++ makers.map rowM) = true) (h : Hd) : run F G (k + 2) 15 [bk] h = .ok (.l (rules.map rowR ++ makers.map rowM)) h := by
  have main : Ok (run F G (k + 2) 15 [bk] h) fun w h' => h' = h ∧ w = .l (rules.map rowR ++ makers.map rowM) := by
    refine run_ok (fn := f15) rfl rfl ?_
    show Ok (sdns (run F G (k + 1)) G f15.body [some bk, none, none, none, none, none, none, none, none, none, none] h) _
    unfold f15
    simp only []
    have four : 4 ≤ sizeLine := by rw [sizeLine_eq]; omega
    refine Ok.nx (σ' := [some bk, some (.obj h.length), none, none, none, none, none, none, none, none, none]) (h1 := h ++ [.lst []]) (by simp [sizeLine_eq]) ?_
    refine Ok.for_ (s := .fx rules) (h1 := h ++ [.lst []]) (fun i σ g => ∃ x2 x3 x4 : Option D, σ = [some bk, some (.obj h.length), x2, x3, x4, none, none, none, none, none, none] ∧ Own h g ∧ g[h.length]? = some (.lst ((rules.take i).map rowR)))
      (by simp [e, a42]) (.fx _) ⟨none, none, none, rfl, ⟨_, rfl⟩, by simp⟩ (fun _ _ _ _ => trivial) ?_ ?_
    · rintro i d σ g hd ⟨x2, x3, x4, rfl, ow, gr⟩
      have il := (List.getElem?_eq_some_iff.mp hd).1
      obtain ⟨nm, hdd, ws, ed, _⟩ := hR d (List.mem_of_getElem? hd)
      refine ⟨[some bk, some (.obj h.length), some (.str nm), some hdd, some (.tup ws), none, none, none, none, none, none], by rw [ed]; simp, ?_⟩
      have hmi : min i rules.length = i := by omega
      have az : i < sizeLine := by rw [sizeLine_eq]; omega
      refine Ok.nx (σ' := [some bk, some (.obj h.length), some (.str nm), some hdd, some (.tup ws), none, none, none, none, none, none]) (h1 := g.set h.length (.lst ((rules.take i).map rowR ++ [rowR d]))) (by
        simp only [List.map_take] at gr
        rw [ed]
        simp [isL_obj gr, four, app_obj gr, hmi, az, rowR]) (Ok.nil ?_)
      exact ⟨_, _, _, rfl, ow.set (Nat.le_refl _) _, by rw [List.getElem?_set_self (lt_of_get gr), take_map hd]⟩
    · rintro σ g ⟨x2, x3, x4, rfl, ow, gr⟩
      rw [List.take_length] at gr
      refine Ok.for_ (s := .fx makers) (h1 := g) (fun i σ g => ∃ x2 x3 x4 x5 x6 x7 x8 x9 : Option D, σ = [some bk, some (.obj h.length), x2, x3, x4, x5, x6, x7, x8, x9, none] ∧ Own h g ∧ g[h.length]? = some (.lst (rules.map rowR ++ (makers.take i).map rowM)))
        (by simp [e, a43]) (.fx _) ⟨_, _, _, none, none, none, none, none, rfl, ow, by simpa using gr⟩ (fun _ _ _ _ => trivial) ?_ ?_
      · rintro i d σ g hd ⟨x2, x3, x4, x5, x6, x7, x8, x9, rfl, ow, gr⟩
        have il := (List.getElem?_eq_some_iff.mp hd).1
        obtain ⟨nm, mn, fs, r, ws, ed, nT, hmn, tf, fl, zf, _⟩ := hM d (List.mem_of_getElem? hd)
        refine ⟨[some bk, some (.obj h.length), some (.str nm), x3, some (.tup ws), some (.int mn), some (.tup fs), some r, x8, x9, none], by rw [ed]; simp, ?_⟩
        have as := asked_ok (C := run F G (k + 1)) (G := G) (σ := [some bk, some (.obj h.length), some (.str nm), x3, some (.tup ws), some (.int mn), some (.tup fs), some r, x8, x9, none]) (g := g) (i := 6) (j := 10) (fs := fs) rfl (by simp) (by decide) (by omega)
        refine Ok.nx (σ' := [some bk, some (.obj h.length), some (.str nm), x3, some (.tup ws), some (.int mn), some (.tup fs), some r, some (.obj g.length), x9, none]) (h1 := g ++ [.lst (fs.map fun f => D.tup [.str had, f])]) (by rw [sd_set, as]; simp) ?_
        have gr1 : (g ++ [O.lst (fs.map fun f => D.tup [.str had, f])])[h.length]? = some (.lst (rules.map rowR ++ (makers.take i).map rowM)) := by rw [get_lo (lt_of_get gr)]; exact gr
        have ga1 : (g ++ [O.lst (fs.map fun f => D.tup [.str had, f])])[g.length]? = some (.lst (fs.map fun f => D.tup [.str had, f])) := by simp
        have ow1 : Own h (g ++ [O.lst (fs.map fun f => D.tup [.str had, f])]) := ow.app _
        generalize g ++ [O.lst (fs.map fun f => D.tup [.str had, f])] = g1 at gr1 ga1 ow1
        generalize g.length = q at ga1
        refine Ok.nx (h1 := g1) (own_step k rfl rfl rfl nT hmn fl) ?_
        show Ok (sdns (run F G (k + 1)) G _ [some bk, some (.obj h.length), some (.str nm), x3, some (.tup ws), some (.int mn), some (.tup fs), some r, some (.obj q), some (.int (Lw nm.length mn fs.length)), none] g1) _
        have ws6 : ws.length ≤ 1000 := by
          obtain ⟨_, _, _, _, _, e3, _, _, _, _, _, _, _, _, zw⟩ := hM d (List.mem_of_getElem? hd)
          rw [ed] at e3
          simp only [D.tup.injEq, List.cons.injEq, and_true] at e3
          have := szs_len ws
          rw [e3.2.2.2.2] at this ⊢
          omega
        have ad := add_ol (t := ws) ga1 (by rw [List.length_map, sizeLine_eq]; omega)
        have az : rules.length + i < sizeLine := by rw [sizeLine_eq]; omega
        have hmi : min i makers.length = i := by omega
        refine Ok.nx (σ' := [some bk, some (.obj h.length), some (.str nm), x3, some (.tup ws), some (.int mn), some (.tup fs), some r, some (.obj q), some (.int (Lw nm.length mn fs.length)), none]) (h1 := g1.set h.length (.lst (rules.map rowR ++ (makers.take i).map rowM ++ [rowM d]))) (by
          simp only [List.map_take] at gr1
          rw [ed]
          simp [isL_obj gr1, ad, four, app_obj gr1, hmi, az, rowM, had]) (Ok.nil ?_)
        refine ⟨_, _, _, _, _, _, _, _, rfl, ow1.set (Nat.le_refl _) _, ?_⟩
        rw [List.getElem?_set_self (lt_of_get gr1), take_map hd, List.append_assoc]
      · rintro σ g ⟨x2, x3, x4, x5, x6, x7, x8, x9, rfl, ow, gr⟩
        rw [List.take_length] at gr
        refine Ok.ret (w := .v (.obj h.length)) (h1 := g) (by simp) ?_
        exact .eq (gc_own_l ow (Nat.le_refl _) gr (trs_no tr)) ⟨rfl, rfl⟩
  obtain ⟨w, h', e, rfl, rfl⟩ := main
  exact e
theorem rng1_ok {C : Cls} {G : List D} {a : Ex} {σ : Sd} {h h1 : Hd} {i : Int} (ea : (dn C G a).v σ h = .ok (.v (.int i)) h1) (h0 : 0 ≤ i) (h2 : i ≤ 1000000000) : (dn C G (.rng1 a)).i σ h = .ok (.fx (rgs 0 i.toNat)) h1 := by
  rw [ei_rng1, ea]
  simp only [R.bind_ok, rng0 h0 h2, R.ofO_some]
theorem tr_cases {d : D} (h : d.tr = true) : (∃ s, d = .str s) ∨ (∃ i, d = .int i) ∨ ∃ xs, d = .tup xs ∧ D.trs xs = true := by
  cases d with
  | str s => exact .inl ⟨s, rfl⟩
  | int s => exact .inr (.inl ⟨s, rfl⟩)
  | tup xs => exact .inr (.inr ⟨xs, rfl, h⟩)
  | _ => cases h
def pr (x : D) : D := .tup [x, x]
theorem same_ok (k : Nat) {d : D} (hd : d.tr = true) (hz : d.sz ≤ 1000000) (h : Hd) : run F G (k + 1) 16 [d, d] h = .ok (.v (.bl true)) h := by
  have main : Ok (run F G (k + 1) 16 [d, d] h) fun w h' => h' = h ∧ w = .v (.bl true) := by
    refine run_ok (fn := f16) rfl rfl ?_
    show Ok (sdns (run F G k) G f16.body [some d, some d, none, none, none, none] h) _
    unfold f16
    simp only []
    refine Ok.nx (σ' := [some d, some d, some (.obj h.length), none, none, none]) (h1 := h ++ [.lst [pr d]]) (by simp [sizeLine_eq, pr]) ?_
    refine Ok.whl d.sz (by unfold FU; omega) (fun n σ g => ∃ ws x3 x4 x5, σ = [some d, some d, some (.obj h.length), x3, x4, x5] ∧ g = h ++ [.lst (ws.map pr)] ∧ D.trs ws = true ∧ D.szs ws ≤ n ∧ n ≤ 1000000)
      ⟨[d], none, none, none, rfl, rfl, by show (d.tr && true) = true; rw [hd]; rfl, Nat.le_refl _, hz⟩ ?_
    rintro n σ g ⟨ws, x3, x4, x5, rfl, rfl, hw, hn, hn6⟩
    refine ⟨!ws.isEmpty, h ++ [.lst (ws.map pr)], by simp, fun ht => ?_, fun hf => ?_⟩
    · obtain ⟨vs, y, rfl⟩ := snoc_of (by simpa using ht)
      have ly := szs_app vs [y]
      have hz1 : D.szs [y] = y.sz := by show y.sz + 0 = _; omega
      have hyp := sz_pos y
      have lv := szs_len vs
      rw [trs_app, Bool.and_eq_true] at hw
      have hy : y.tr = true := trs_mem.mp hw.2 y (by simp)
      have pop : mt0 .pop (.v (.obj h.length)) (h ++ [O.lst ((vs ++ [y]).map pr)]) = .ok (.v (pr y)) (h ++ [.lst (vs.map pr)]) := by
        rw [List.map_append, pop_obj (x := vs.map pr) (y := pr y) (by simp)]
        simp
      refine Ok.nx (σ' := [some d, some d, some (.obj h.length), some y, some y, x5]) (h1 := h ++ [.lst (vs.map pr)]) (by
        have pp : ∀ σ : Sd, Tg.put (.tp [.nm 3, .nm 4]) (pr y) σ = some ((σ.set 3 (some y)).set 4 (some y)) := fun _ => rfl
        simp only [List.map_append, List.map_cons, List.map_nil] at pop
        simp [pop, pp]) ?_
      have next : ∀ x5, ∃ m, m < n ∧ ∃ ws x3 x4 x5', [some d, some d, some (.obj h.length), some y, some y, x5] = [some d, some d, some (.obj h.length), x3, x4, x5'] ∧ (h ++ [.lst (vs.map pr)] : Hd) = h ++ [.lst (ws.map pr)] ∧ D.trs ws = true ∧ D.szs ws ≤ m ∧ m ≤ 1000000 := fun x5 =>
        ⟨n - 1, by omega, vs, _, _, _, rfl, rfl, hw.1, by omega, by omega⟩
      rcases tr_cases hy with ⟨s, rfl⟩ | ⟨i, rfl⟩ | ⟨xs, rfl, hxs⟩
      · refine Ok.ifT (h1 := h ++ [.lst (vs.map pr)]) (by simp) ?_
        refine Ok.ifF (h1 := h ++ [.lst (vs.map pr)]) (by simp) (Ok.nil (by exact next x5))
      · refine Ok.ifF (h1 := h ++ [.lst (vs.map pr)]) (by simp) ?_
        refine Ok.ifT (h1 := h ++ [.lst (vs.map pr)]) (by simp) ?_
        refine Ok.ifF (h1 := h ++ [.lst (vs.map pr)]) (by simp) (Ok.nil (by exact next x5))
      · refine Ok.ifF (h1 := h ++ [.lst (vs.map pr)]) (by simp) ?_
        refine Ok.ifF (h1 := h ++ [.lst (vs.map pr)]) (by simp) ?_
        refine Ok.ifF (h1 := h ++ [.lst (vs.map pr)]) (by simp) ?_
        have st := sz_tup xs
        have lx := szs_len xs
        refine Ok.stp ?_
        have gw : (h ++ [O.lst (vs.map pr)])[h.length]? = some (.lst (vs.map pr)) := by simp
        have elc : (dn (run F G k) G (.lc (.tup [(.ix (.var 3) (.var 5)), (.ix (.var 4) (.var 5))]) (.nm 5) (.rng1 (.b1 .len (.var 4))) none [5])).v [some d, some d, some (.obj h.length), some (.tup xs), some (.tup xs), x5] (h ++ [.lst (vs.map pr)]) = .ok (.l (xs.map pr)) (h ++ [.lst (vs.map pr)]) := by
          have main : Ok ((dn (run F G k) G (.lc (.tup [(.ix (.var 3) (.var 5)), (.ix (.var 4) (.var 5))]) (.nm 5) (.rng1 (.b1 .len (.var 4))) none [5])).v [some d, some d, some (.obj h.length), some (.tup xs), some (.tup xs), x5] (h ++ [.lst (vs.map pr)])) fun w h' => w = .l (xs.map pr) ∧ h' = h ++ [.lst (vs.map pr)] := by
            refine Ok.lc0 (fun i ys g' => g' = h ++ [.lst (vs.map pr)] ∧ ys = (xs.take i).map pr) (rng1_ok (i := (xs.length : Int)) (by simp) (by omega) (by omega)) (.fx _) ⟨rfl, rfl⟩ (fun _ _ _ _ => trivial) ?_ ?_
            · rintro i y ys g' hy ⟨rfl, rfl⟩
              obtain ⟨rfl, hi⟩ := rg0 hy
              rw [Int.toNat_natCast] at hi
              obtain ⟨x, ex, _, ex2⟩ := atI_mem (s := xs) (i := (i : Int)) (by omega) (by omega)
              rw [Int.toNat_natCast] at ex2
              have two : 2 ≤ sizeLine := by rw [sizeLine_eq]; omega
              refine ⟨_, pr x, _, rfl, ?_, rfl, by rw [take_map ex2]⟩
              simp only [wipe_cons, wipe_nil, List.set_cons_succ, List.set_cons_zero]
              simp [ex, two, pr]
            · rintro ys g' ⟨rfl, rfl⟩
              rw [ints_len, Int.toNat_natCast, List.take_length]
              exact ⟨by rw [List.length_map, sizeLine_eq]; omega, rfl, rfl⟩
          obtain ⟨w, h', e, rfl, rfl⟩ := main
          exact e
        have ez : vs.length + xs.length ≤ sizeLine := by rw [sizeLine_eq]; omega
        refine .eq (a := .nx [some d, some d, some (.obj h.length), some (.tup xs), some (.tup xs), x5]) (h := h ++ [.lst ((vs ++ xs).map pr)]) ?_ (Ok.nil ?_)
        · simp only [sd_ex, ev_extend, ev_var (show ([some d, some d, some (.obj h.length), some (.tup xs), some (.tup xs), x5] : Sd)[2]? = some (some (.obj h.length)) from rfl), R.bind_ok, isL_obj gw, if_true, elc, ext_obj gw, List.length_map, ez]
          simp
        · exact ⟨n - 1, by omega, vs ++ xs, _, _, _, rfl, rfl, by rw [trs_app, hw.1, hxs]; rfl, by rw [szs_app]; omega, by omega⟩
    · refine Ok.ret (w := .v (.bl true)) (h1 := h ++ [.lst (ws.map pr)]) (by simp) ?_
      exact .eq (gc_v (Eld.refl h) rfl) ⟨rfl, rfl⟩
  obtain ⟨w, h', e, rfl, rfl⟩ := main
  exact e
end Wk32
namespace Wk32
open PySem PySem.Spec PyProof.Rows L2 DL
theorem a40 (a b c d : D) : atI [a, b, c, d] 0 = some a := rfl
theorem cut3 (a b c d : D) : cutL [a, b, c, d] none (some 3) = [a, b, c] := cut_to [a, b, c, d] 3
theorem mem_set_of {α : Type} {xs : List α} {i : Nat} {x y : α} (h : y ∈ xs.set i x) : y ∈ xs ∨ y = x := List.mem_or_eq_of_mem_set h
theorem changed_sp (k : Nat) {bk : D} (hb : BookOk 500 bk) {h : Hd} (p : Pool h) : ∃ d h', run F G (k + 2) 17 [.obj 1, bk] h = .ok (.v d) h' ∧ Stp h h' ∧ BookOk 600 d := by
  obtain ⟨stems, cs, rules, makers, e, hS, hC, hR, hM, rl, ml⟩ := hb.ex
  have hM6 : ∀ m ∈ makers, MakerOk 600 m := fun m hm => by
    obtain ⟨nm, mn, fs, r, ws, ed, q1, q2, q3, q4, q5, q6⟩ := hM m hm
    exact ⟨nm, mn, fs, r, ws, ed, q1, q2, q3, q4, by omega, q6⟩
  have main : Ok (run F G (k + 2) 17 [.obj 1, bk] h) fun w h' => Stp h h' ∧ ∃ d, w = .v d ∧ BookOk 600 d := by
    refine run_ok (fn := f17) rfl rfl ?_
    show Ok (sdns (run F G (k + 1)) G f17.body [some (.obj 1), some bk, none, none, none, none, none, none, none, none, none, none] h) _
    unfold f17
    simp only []
    have two := p.two
    have big : ∀ n : Nat, n ≤ 1000 → n ≤ sizeLine := fun n hn => by rw [sizeLine_eq]; omega
    refine Ok.nx (σ' := [some (.obj 1), some bk, some (.obj h.length), none, none, none, none, none, none, none, none, none]) (h1 := h ++ [.lst makers]) (by simp [e, a43]) ?_
    have dr : Dr h (h ++ [.lst makers]) := (Dr.refl p).app _
    have gm : (h ++ [O.lst makers])[h.length]? = some (.lst makers) := by simp
    have m1 : h.length ≠ 1 := by omega
    generalize h ++ [O.lst makers] = g at dr gm
    refine Ok.if_ (t := decide (makers.length = 0)) (h1 := g) (by simp [gm]) (fun ht => ?_) (fun hf => ?_)
    · -- no maker: one is made
      obtain ⟨ts, rfl, tl, hts, s0, hs0⟩ := id hS
      refine Ok.stp ?_
      simp only [sd_set, ev_ix]
      refine Ok.bind (Ok.bind (Ok.lc1 (s := .fx (ts.map tok)) (h1 := g) (fun i ys g' => g' = g ∧ (∃ us : List (List Nat), ys = us.map .str ∧ us.length ≤ i ∧ ∀ u ∈ us, Tx 8 u) ∧ ∀ j, j < i → ts[j]? = some (s0, 0) → ys ≠ [])
        (by simp [e, a40]) (.fx _) ⟨rfl, ⟨[], rfl, Nat.le_refl _, by simp⟩, fun j hj => by omega⟩ (fun _ _ _ _ => trivial) ?_ ?_))
      · rintro i y ys g' hd ⟨rfl, ⟨us, rfl, ul, hu⟩, hne⟩
        rw [List.getElem?_map] at hd
        obtain ⟨u, eu, rfl⟩ := Option.map_eq_some_iff.mp hd
        obtain ⟨ux, u0, u3⟩ := hts u (List.mem_of_getElem? eu)
        refine ⟨_, decide (u.2 = 0), g', rfl, by simp, fun hh => ?_, fun hh => ?_⟩
        · exact ⟨.str u.1, g', by simp, rfl, ⟨us ++ [u.1], by simp, by simpa using ul, fun z hz => by
            rcases List.mem_append.mp hz with q | q
            · exact hu z q
            · rw [List.mem_singleton.mp q]; exact ux⟩, fun j hj ej => by simp⟩
        · have hh := of_decide_eq_false hh
          refine ⟨rfl, ⟨us, rfl, by omega, hu⟩, fun j hj ej => ?_⟩
          by_cases hji : j = i
          · subst hji
            rw [eu] at ej
            cases ej
            exact absurd rfl hh
          · exact hne j (by omega) ej
      · rintro ys g' ⟨rfl, ⟨us, rfl, ul, hu⟩, hne⟩
        rw [List.length_map] at ul hne
        have un : us ≠ [] := fun z => by
          obtain ⟨j, hj, ej⟩ := List.getElem_of_mem hs0
          exact hne j hj (by rw [List.getElem?_eq_getElem hj, ej]) (by rw [z]; rfl)
        have upos : 0 < us.length := List.length_pos_iff.mpr un
        obtain ⟨u, eu, mu, _⟩ := atI_mem (s := us) (i := 0) (by omega) (by omega)
        have eu2 : atI (us.map D.str) 0 = some (.str u) := by rw [atI_mp, eu]; rfl
        refine ⟨by rw [List.length_map]; exact big _ (by omega), ?_⟩
        refine .eq (a := .v (.str u)) (h := g') (by simp [eu2]) ?_
        refine .eq (a := .nx [some (.obj 1), some bk, some (.obj h.length), none, none, some (.str u), none, none, none, none, none, none]) (h := g') (by simp) ?_
        have nbOk : BookOk 600 (.tup [.tup (ts.map tok), .tup cs, .tup rules, .tup [.tup [.str [120], .int 0, .tup [], .tup [.str u], .tup []]]]) :=
          ⟨_, cs, rules, _, rfl, hS, hC, hR, fun m hm => by
            rw [List.mem_singleton.mp hm]
            have uT := hu u mu
            refine ⟨[120], 0, [], .tup [.str u], [], rfl, ⟨by decide, by decide⟩, .inl rfl, rfl, by simp, by show 0 ≤ 600; omega, ?_, ?_, rfl, by show 0 ≤ 600; omega⟩
            · show (D.tr (.str u) && true) = true
              rw [fr_tr (txfr uT)]; rfl
            · have := uT.1
              show 1 + ((1 + u.length) + 0) ≤ 100
              omega, rl, by simp⟩
        refine Ok.ret (w := .v (.tup [.tup (ts.map tok), .tup cs, .tup rules, .tup [.tup [.str [120], .int 0, .tup [], .tup [.str u], .tup []]]])) (h1 := g') (by
          rw [e]
          simp [cut3, sizeLine_eq]) ?_
        exact dr.v (tr_no (nbOk.tr (by omega))) ⟨_, rfl, nbOk⟩
    · have hf := of_decide_eq_false hf
      obtain ⟨at_, g1, e1, s1, a0, a1⟩ := draw_0 k makers.length (by omega) (by omega) dr.pool
      have dr1 := dr.step s1
      have gm1 : g1[h.length]? = some (.lst makers) := by rw [s1.same _ m1]; exact gm
      refine Ok.nx (σ' := [some (.obj 1), some bk, some (.obj h.length), some (.int at_), none, none, none, none, none, none, none, none]) (h1 := g1) (by simp [gm, e1]) ?_
      obtain ⟨mk, emk, mmk, _⟩ := atI_mem (s := makers) a0 a1
      obtain ⟨nm, mn, fs, r, ws, ed, nT, hmn, tf, fl, zf, tr, zr, tw, zw⟩ := hM mk mmk
      refine Ok.nx (σ' := [some (.obj 1), some bk, some (.obj h.length), some (.int at_), none, none, some (.str nm), some (.int mn), some (.tup fs), some r, some (.tup ws), none]) (h1 := g1) (by
        rw [ed] at emk
        simp [gm1, emk]) ?_
      obtain ⟨way, g2, e2, s2, w0, w1⟩ := draw_0 k 3 (by omega) (by omega) dr1.pool
      have dr2 := dr1.step s2
      have gm2 : g2[h.length]? = some (.lst makers) := by rw [s2.same _ m1]; exact gm1
      refine Ok.nx (σ' := [some (.obj 1), some bk, some (.obj h.length), some (.int at_), some (.int way), none, some (.str nm), some (.int mn), some (.tup fs), some r, some (.tup ws), none]) (h1 := g2) (by simp [e2]) ?_
      have last : ∀ (nm : List Nat) (mn : Int) (fs : List D), Tx 8 nm → (mn = 0 ∨ (mn = 1 ∧ fs ≠ [])) → D.trs fs = true → fs.length ≤ 5 → D.szs fs ≤ 600 →
          Ok (sdns (run F G (k + 1)) G (f17.body.drop 6) [some (.obj 1), some bk, some (.obj h.length), some (.int at_), some (.int way), none, some (.str nm), some (.int mn), some (.tup fs), some r, some (.tup ws), none] g2) (Fin h fun w h' => Stp h h' ∧ ∃ d, w = .v d ∧ BookOk 600 d) := by
        intro nm mn fs nT hmn tf fl zf
        unfold f17
        simp only [List.drop_succ_cons, List.drop_zero]
        have ix : ixN makers.length at_ = some at_.toNat := ixN_pos a0 a1
        have hl := lt_of_get gm2
        refine Ok.nx (σ' := [some (.obj 1), some bk, some (.obj h.length), some (.int at_), some (.int way), none, some (.str nm), some (.int mn), some (.tup fs), some r, some (.tup ws), none]) (h1 := g2.set h.length (.lst (makers.set at_.toNat (.tup [.str nm, .int mn, .tup fs, r, .tup ws])))) (by simp [big 5 (by omega), set_obj gm2, ix]) ?_
        have bkOk : BookOk 600 (.tup [.tup stems, .tup cs, .tup rules, .tup (makers.set at_.toNat (.tup [.str nm, .int mn, .tup fs, r, .tup ws]))]) :=
          ⟨stems, cs, rules, _, rfl, hS, hC, hR, fun m hm => by
            rcases mem_set_of hm with q | q
            · exact hM6 m q
            · rw [q]; exact ⟨nm, mn, fs, r, ws, rfl, nT, hmn, tf, fl, zf, tr, zr, tw, zw⟩, rl, by simpa using ml⟩
        have gm3 : (g2.set h.length (O.lst (makers.set at_.toNat (.tup [.str nm, .int mn, .tup fs, r, .tup ws]))))[h.length]? = some (.lst (makers.set at_.toNat (.tup [.str nm, .int mn, .tup fs, r, .tup ws]))) := by rw [List.getElem?_set_self hl]
        have dr3 := dr2.set (Nat.le_refl _) (O.lst (makers.set at_.toNat (.tup [.str nm, .int mn, .tup fs, r, .tup ws])))
        generalize makers.set at_.toNat (.tup [.str nm, .int mn, .tup fs, r, .tup ws]) = mks at bkOk gm3 dr3
        generalize g2.set h.length (O.lst mks) = g3 at gm3 dr3
        refine Ok.ret (w := .v (.tup [.tup stems, .tup cs, .tup rules, .tup mks])) (h1 := g3) (by
          rw [e]
          simp [cut3, gm3, sizeLine_eq]) ?_
        exact dr3.v (tr_no (bkOk.tr (by omega))) ⟨_, rfl, bkOk⟩
      have nl := nT.1
      refine Ok.if_ (t := decide (way = 0)) (h1 := g2) (by simp) (fun ht => ?_) (fun hf => ?_)
      · by_cases h8 : nm.length < 8
        · refine Ok.nx (σ' := [some (.obj 1), some bk, some (.obj h.length), some (.int at_), some (.int way), none, some (.str (nm ++ [113])), some (.int mn), some (.tup fs), some r, some (.tup ws), none]) (h1 := g2) (by
            have : (nm.length : Int) < 8 := by omega
            simp [big nm.length (by omega), this, h8, big (nm.length + 1) (by omega)]) ?_
          exact last _ mn fs ⟨by simp; omega, fun c hc => by
            rcases List.mem_append.mp hc with q | q
            · exact nT.2 c q
            · rw [List.mem_singleton.mp q]; decide⟩ hmn tf fl (by omega)
        · have c7 : cutL nm none (some 7) = nm.take 7 := cut_to nm 7
          refine Ok.nx (σ' := [some (.obj 1), some bk, some (.obj h.length), some (.int at_), some (.int way), none, some (.str (nm.take 7)), some (.int mn), some (.tup fs), some r, some (.tup ws), none]) (h1 := g2) (by
            have : ¬ (nm.length : Int) < 8 := by omega
            simp [big nm.length (by omega), this, h8, c7]) ?_
          exact last _ mn fs ⟨by simp; omega, fun c hc => nT.2 c (List.mem_of_mem_take hc)⟩ hmn tf fl (by omega)
      · refine Ok.if_ (t := decide (way = 1) && decide (0 < fs.length)) (h1 := g2) (by by_cases z : way = 1 <;> simp [z]) (fun ht => ?_) (fun hf2 => ?_)
        · simp only [Bool.and_eq_true, decide_eq_true_eq] at ht
          refine Ok.nx (σ' := [some (.obj 1), some bk, some (.obj h.length), some (.int at_), some (.int way), none, some (.str nm), some (.int (1 - mn)), some (.tup fs), some r, some (.tup ws), none]) (h1 := g2) (by simp) ?_
          refine last nm (1 - mn) fs nT ?_ tf fl (by omega)
          have hne : fs ≠ [] := List.length_pos_iff.mp ht.2
          rcases hmn with q | ⟨q, _⟩
          · exact .inr ⟨by omega, hne⟩
          · exact .inl (by omega)
        · refine Ok.if_ (t := decide (1 < (fs.length : Int))) (h1 := g2) (by simp) (fun ht => ?_) (fun hf3 => ?_)
          · have ht : 1 < fs.length := by have := of_decide_eq_true ht; omega
            have c1 : cutL fs (some 1) none = fs.drop 1 := cut_from fs 1
            refine Ok.nx (σ' := [some (.obj 1), some bk, some (.obj h.length), some (.int at_), some (.int way), none, some (.str nm), some (.int mn), some (.tup (fs.drop 1)), some r, some (.tup ws), none]) (h1 := g2) (by simp [c1]) ?_
            have sd := szs_drop 1 fs
            refine last nm mn (fs.drop 1) nT ?_ (trs_mem.mpr fun x hx => trs_mem.mp tf x (List.mem_of_mem_drop hx)) (by rw [List.length_drop]; omega) (by omega)
            rcases hmn with q | ⟨q, _⟩
            · exact .inl q
            · exact .inr ⟨q, fun z => by have : (fs.drop 1).length = 0 := by rw [z]; rfl
                                         rw [List.length_drop] at this; omega⟩
          · have hf3 : ¬ 1 < fs.length := by have := of_decide_eq_false hf3; omega
            refine Ok.nx (σ' := [some (.obj 1), some bk, some (.obj h.length), some (.int at_), some (.int way), none, some (.str nm), some (.int mn), some (.tup (fs ++ [r])), some r, some (.tup ws), none]) (h1 := g2) (by simp [big 1 (by omega), big (fs.length + 1) (by omega)]) ?_
            refine last nm mn (fs ++ [r]) nT ?_ (by rw [trs_app, tf]; show (true && (r.tr && true)) = true; rw [tr]; rfl) (by simp; omega) (by rw [szs_app]; show D.szs fs + (r.sz + 0) ≤ 600; omega)
            rcases hmn with q | ⟨q, _⟩
            · exact .inl q
            · exact .inr ⟨q, by simp⟩
  obtain ⟨w, h', e, s, d, rfl, q⟩ := main
  exact ⟨d, h', e, s, q⟩
end Wk32
namespace Wk32
open PySem PySem.Spec PyProof.Rows L2 DL
theorem gc_first {w : W} {g : Hd} {xs : List D} (e : w = .l xs) (hx : D.lows 0 xs = false) : gc [] (.ok w g) = .ok w g := by
  subst e
  simp only [gc]
  split
  · simp [gcW, hx]
  · rfl
theorem pool_ok (k : Nat) {ns : List Int} (hl : ns.length ≤ 63) (salt : Int) : ∃ cells : List Int, run F G (k + 1) 2 [.ro (ns.map .int), .int salt] [] = .ok (.l [.obj 0, .int 0, .int salt, .int 0]) [.lst (cells.map .int)] ∧ cells.length ≤ 63 ∧ ∀ c ∈ cells, 0 ≤ c := by
  have main : Ok (run F G (k + 1) 2 [.ro (ns.map .int), .int salt] []) fun w h' => w = .l [.obj 0, .int 0, .int salt, .int 0] ∧ ∃ cells : List Int, h' = [.lst (cells.map .int)] ∧ cells.length ≤ 63 ∧ ∀ c ∈ cells, 0 ≤ c := by
    refine run_ok (fn := f2) rfl rfl ?_
    show Ok (sdns (run F G k) G f2.body [some (.ro (ns.map .int)), some (.int salt), none, none] []) _
    unfold f2
    simp only []
    refine Ok.nx (σ' := [some (.ro (ns.map .int)), some (.int salt), some (.obj 0), none]) (h1 := [.lst []]) (by simp [sizeLine_eq]) ?_
    refine Ok.for_ (s := .fx (ns.map .int)) (h1 := [.lst []]) (fun i σ g => ∃ (cells : List Int) (x : Option D), σ = [some (.ro (ns.map .int)), some (.int salt), some (.obj 0), x] ∧ g = [.lst (cells.map .int)] ∧ cells.length = i ∧ ∀ c ∈ cells, 0 ≤ c)
      (by simp) (.fx _) ⟨[], none, rfl, rfl, rfl, by simp⟩ (fun _ _ _ _ => trivial) ?_ ?_
    · rintro i d σ g hd ⟨cells, x, rfl, rfl, cl, hc⟩
      rw [List.getElem?_map] at hd
      obtain ⟨n, en, rfl⟩ := Option.map_eq_some_iff.mp hd
      have il := (List.getElem?_eq_some_iff.mp en).1
      refine ⟨_, rfl, ?_⟩
      have cz : cells.length < sizeLine := by rw [sizeLine_eq]; omega
      have w2 : wide 2 = true := by decide
      by_cases n0 : 0 ≤ n
      · refine Ok.nx (σ' := [some (.ro (ns.map .int)), some (.int salt), some (.obj 0), some (.int n)]) (h1 := [.lst ((cells ++ [2 * n]).map .int)]) (by simp [n0, w2, cz]) (Ok.nil ?_)
        exact ⟨cells ++ [2 * n], _, rfl, rfl, by simp [cl], fun c hc' => by
          rcases List.mem_append.mp hc' with q | q
          · exact hc c q
          · rw [List.mem_singleton.mp q]; omega⟩
      · refine Ok.nx (σ' := [some (.ro (ns.map .int)), some (.int salt), some (.obj 0), some (.int n)]) (h1 := [.lst ((cells ++ [1 - 2 * n]).map .int)]) (by simp [n0, w2, cz]) (Ok.nil ?_)
        exact ⟨cells ++ [1 - 2 * n], _, rfl, rfl, by simp [cl], fun c hc' => by
          rcases List.mem_append.mp hc' with q | q
          · exact hc c q
          · rw [List.mem_singleton.mp q]; omega⟩
    · rintro σ g ⟨cells, x, rfl, rfl, cl, hc⟩
      rw [List.length_map] at cl
      refine Ok.ret (w := .l [.obj 0, .int 0, .int salt, .int 0]) (h1 := [.lst (cells.map .int)]) (by simp [sizeLine_eq]) ?_
      exact .eq (gc_first rfl rfl) ⟨rfl, cells, rfl, by omega, hc⟩
  obtain ⟨w, h', e, rfl, cells, rfl, q⟩ := main
  exact ⟨cells, e, q⟩
theorem BookOk.rows {b : Nat} {d : D} (bk : BookOk b d) (hb : b ≤ 600) : ∃ ys, D.trs ys = true ∧ D.szs ys ≤ 900000 ∧ ∀ (k : Nat) (h : Hd), run F G (k + 2) 0 [d] h = .ok (.v (.tup ys)) h ∧ run F G (k + 2) 15 [d] h = .ok (.l ys) h := by
  obtain ⟨stems, cs, rules, makers, e, hS, hC, hR, hM, rl, ml⟩ := bk.ex
  have r1 : ∀ r ∈ rules, (rowR r).tr = true ∧ (rowR r).sz ≤ 1000 := fun r hr => by
    obtain ⟨nm, hd, ws, rfl, nT, h1, h2, h3, h4⟩ := hR r hr
    refine ⟨?_, ?_⟩
    · show (D.tr (.str nm) && (hd.tr && (true && (D.trs ws && true)))) = true
      rw [fr_tr (txfr nT), h1, h3]; rfl
    · have := nT.1
      show 1 + ((1 + nm.length) + (hd.sz + (1 + ((1 + D.szs ws) + 0)))) ≤ 1000
      omega
  have askT : ∀ fs : List D, D.trs fs = true → D.trs (fs.map fun f => D.tup [.str had, f]) = true ∧ D.szs (fs.map fun f => D.tup [.str had, f]) ≤ D.szs fs + 5 * fs.length := fun fs => by
    induction fs with
    | nil => exact fun _ => ⟨rfl, Nat.le_refl _⟩
    | cons f fs ih =>
      intro h
      have h : (f.tr && D.trs fs) = true := h
      rw [Bool.and_eq_true] at h
      obtain ⟨i1, i2⟩ := ih h.2
      refine ⟨?_, ?_⟩
      · show ((D.tr (.str had) && (f.tr && true)) && D.trs (fs.map fun f => D.tup [.str had, f])) = true
        rw [h.1, i1]; rfl
      · show (1 + ((1 + 3) + (f.sz + 0))) + D.szs (fs.map fun f => D.tup [.str had, f]) ≤ (f.sz + D.szs fs) + 5 * (fs.length + 1)
        omega
  have r2 : ∀ m ∈ makers, (rowM m).tr = true ∧ (rowM m).sz ≤ 2000 := fun m hm => by
    obtain ⟨nm, mn, fs, r, ws, rfl, nT, h1, h2, h3, h4, h5, h6, h7, h8⟩ := hM m hm
    obtain ⟨i1, i2⟩ := askT fs h2
    refine ⟨?_, ?_⟩
    · show (D.tr (.str had) && (r.tr && (true && (D.trs (fs.map (fun f => D.tup [.str had, f]) ++ ws) && true)))) = true
      rw [trs_app, i1, h5, h7]; rfl
    · show 1 + ((1 + 3) + (r.sz + (1 + ((1 + D.szs (fs.map (fun f => D.tup [.str had, f]) ++ ws)) + 0)))) ≤ 2000
      rw [szs_app]
      omega
  have tr : D.trs (rules.map rowR ++ makers.map rowM) = true := by
    rw [trs_mem]
    intro x hx
    rcases List.mem_append.mp hx with q | q
    · obtain ⟨r, hr, rfl⟩ := List.mem_map.mp q; exact (r1 r hr).1
    · obtain ⟨r, hr, rfl⟩ := List.mem_map.mp q; exact (r2 r hr).1
  have szb : ∀ (f : D → D) (n : Nat) (xs : List D), (∀ x ∈ xs, (f x).sz ≤ n) → D.szs (xs.map f) ≤ n * xs.length := fun f n xs => by
    induction xs with
    | nil => exact fun _ => Nat.zero_le _
    | cons x xs ih =>
      intro h
      have a := h x (by simp)
      have b := ih fun y hy => h y (by simp [hy])
      show (f x).sz + D.szs (xs.map f) ≤ n * (xs.length + 1)
      rw [Nat.mul_add]
      omega
  refine ⟨_, tr, ?_, fun k h => ⟨rows_ok k e hR hM rl ml tr h, due_ok k e hR hM rl ml tr h⟩⟩
  rw [szs_app]
  have a := szb rowR 1000 rules fun r hr => (r1 r hr).2
  have b := szb rowM 2000 makers fun r hr => (r2 r hr).2
  have a2 : 1000 * rules.length ≤ 1000 * 20 := Nat.mul_le_mul_left _ rl
  have b2 : 2000 * makers.length ≤ 2000 * 30 := Nat.mul_le_mul_left _ ml
  omega
theorem law : ∀ ns : List Int, ns.length ≤ 63 → ∃ h, run F G 40 18 [.ro (ns.map .int)] [] = .ok (.v (.bl true)) h := by
  intro ns hl
  have main : Ok (run F G (39 + 1) 18 [.ro (ns.map .int)] []) fun w _ => w = .v (.bl true) := by
    refine run_ok (fn := f18) rfl rfl ?_
    show Ok (sdns (run F G 39) G f18.body [some (.ro (ns.map .int)), none, none, none, none, none] []) _
    unfold f18
    simp only []
    obtain ⟨cells, e1, cl, hc⟩ := pool_ok 38 hl 320017
    refine Ok.nx (σ' := [some (.ro (ns.map .int)), some (.obj 1), none, none, none, none]) (h1 := [.lst (cells.map .int), .lst [.obj 0, .int 0, .int 320017, .int 0]]) (by simp [e1]) ?_
    have p : Pool [.lst (cells.map .int), .lst [.obj 0, .int 0, .int 320017, .int 0]] := ⟨cells, 0, 320017, 0, rfl, rfl, by omega, by omega, by omega, cl, hc⟩
    generalize ([.lst (cells.map .int), .lst [.obj 0, .int 0, .int 320017, .int 0]] : Hd) = g at p
    obtain ⟨d, g2, e2, s2, d0, d1⟩ := draw_0 38 7 (by omega) (by omega) p
    refine Ok.nx (σ' := [some (.ro (ns.map .int)), some (.obj 1), some (.bl (decide (d = 3))), none, none, none]) (h1 := g2) (by simp [e2]) ?_
    obtain ⟨bk, g3, e3, s3, hb⟩ := book_sp 34 (decide (d = 3)) s2.pool
    refine Ok.nx (σ' := [some (.ro (ns.map .int)), some (.obj 1), some (.bl (decide (d = 3))), some bk, none, none]) (h1 := g3) (by simp [e3]) ?_
    obtain ⟨ob, g4, e4, s4, ho⟩ := changed_sp 37 hb s3.pool
    refine Ok.nx (σ' := [some (.ro (ns.map .int)), some (.obj 1), some (.bl (decide (d = 3))), some bk, some ob, none]) (h1 := g4) (by simp [e4]) ?_
    obtain ⟨ys, ty, zy, ry⟩ := hb.rows (by omega)
    obtain ⟨zs, tz, zz, rz⟩ := ho.rows (Nat.le_refl _)
    have three : 3 ≤ sizeLine := by rw [sizeLine_eq]; omega
    refine Ok.for_ (s := .fx [bk, ob, bk]) (h1 := g4) (fun i σ g => ∃ x, σ = [some (.ro (ns.map .int)), some (.obj 1), some (.bl (decide (d = 3))), some bk, some ob, x]) (by simp [three]) (.fx _) ⟨none, rfl⟩ (fun _ _ _ _ => trivial) ?_ ?_
    · rintro i y σ g hy ⟨x, rfl⟩
      have : ∃ xs, D.trs xs = true ∧ D.szs xs ≤ 900000 ∧ ∀ (k : Nat) (h : Hd), run F G (k + 2) 0 [y] h = .ok (.v (.tup xs)) h ∧ run F G (k + 2) 15 [y] h = .ok (.l xs) h := by
        have hm := List.mem_of_getElem? hy
        simp only [List.mem_cons, List.not_mem_nil, or_false] at hm
        rcases hm with rfl | rfl | rfl
        · exact ⟨ys, ty, zy, ry⟩
        · exact ⟨zs, tz, zz, rz⟩
        · exact ⟨ys, ty, zy, ry⟩
      obtain ⟨xs, tx, zx, rx⟩ := this
      refine ⟨_, rfl, ?_⟩
      have q1 := (rx 37 g).1
      have q2 := (rx 37 g).2
      have q3 := same_ok 38 (d := .tup xs) tx (by rw [sz_tup]; omega) g
      refine Ok.ifF (h1 := g) (by simp [q1, q2, q3]) (Ok.nil ⟨_, rfl⟩)
    · rintro σ g ⟨x, rfl⟩
      refine Ok.ret (w := .v (.bl true)) (h1 := g) (by simp) ?_
      show Ok (gc [] (.ok (.v (.bl true)) g)) _
      simp only [gc]
      split
      · exact ⟨.v (.bl true), g.take 0, rfl, rfl⟩
      · exact ⟨.v (.bl true), g, rfl, rfl⟩
  obtain ⟨w, h', e, rfl⟩ := main
  exact ⟨h', e⟩
end Wk32
open PySem PySem.W PyProof.Rows in
theorem PySem.Challenge.cw_wellbegun_k32_book_rows_holds : PySem.Challenge.rw_wellbegun_k32_book_rows.Holds := by
  w_on; o_law; k_head; (case hw => w_witness2)
  k_fill
  refine DL.law_walk (l := PySem.Challenge.rw_wellbegun_k32_book_rows) (F := Wk32.F) (G := Wk32.G) (k := 40) (f := 18) (x := "script") rfl rfl (fun w h Y => PySem.W.kIn_of Y) ⟨rfl, by decide, by decide⟩ ?F Wk32.law
  case F =>
    intro w mg fa h KX G hmg
    refine' Wk32.all_mk KX G hmg ?h0 ?l0 ?e0 ?k0 ?h1 ?l1 ?e1 ?k1 ?h2 ?l2 ?e2 ?k2 ?h3 ?l3 ?e3 ?k3 ?h4 ?l4 ?e4 ?k4 ?h5 ?l5 ?e5 ?k5 ?h6 ?l6 ?e6 ?k6 ?h7 ?l7 ?e7 ?k7 ?h8 ?l8 ?e8 ?k8 ?h9 ?l9 ?e9 ?k9 ?h10 ?l10 ?e10 ?k10 ?h11 ?l11 ?e11 ?k11 ?h12 ?l12 ?e12 ?k12 ?h13 ?l13 ?e13 ?k13 ?h14 ?l14 ?e14 ?k14 ?h15 ?l15 ?e15 ?k15 ?h16 ?l16 ?e16 ?k16 ?h17 ?l17 ?e17 ?k17 ?h18 ?l18 ?e18 ?k18 ?z0 ?z1 ?z2 ?z3 ?z4 ?z5 ?z6 ?z7 ?z8 ?z9 ?z10
    (case h0 => k_is)
    (case l0 => k_is)
    (case e0 => k_is)
    (case k0 => k_is)
    (case h1 => k_is)
    (case l1 => k_is)
    (case e1 => k_is)
    (case k1 => k_is)
    (case h2 => k_is)
    (case l2 => k_is)
    (case e2 => k_is)
    (case k2 => k_is)
    (case h3 => k_is)
    (case l3 => k_is)
    (case e3 => k_is)
    (case k3 => k_is)
    (case h4 => k_is)
    (case l4 => k_is)
    (case e4 => k_is)
    (case k4 => k_is)
    (case h5 => k_is)
    (case l5 => k_is)
    (case e5 => k_is)
    (case k5 => k_is)
    (case h6 => k_is)
    (case l6 => k_is)
    (case e6 => k_is)
    (case k6 => k_is)
    (case h7 => k_is)
    (case l7 => k_is)
    (case e7 => k_is)
    (case k7 => k_is)
    (case h8 => k_is)
    (case l8 => k_is)
    (case e8 => k_is)
    (case k8 => k_is)
    (case h9 => k_is)
    (case l9 => k_is)
    (case e9 => k_is)
    (case k9 => k_is)
    (case h10 => k_is)
    (case l10 => k_is)
    (case e10 => k_is)
    (case k10 => k_is)
    (case h11 => k_is)
    (case l11 => k_is)
    (case e11 => k_is)
    (case k11 => k_is)
    (case h12 => k_is)
    (case l12 => k_is)
    (case e12 => k_is)
    (case k12 => k_is)
    (case h13 => k_is)
    (case l13 => k_is)
    (case e13 => k_is)
    (case k13 => k_is)
    (case h14 => k_is)
    (case l14 => k_is)
    (case e14 => k_is)
    (case k14 => k_is)
    (case h15 => k_is)
    (case l15 => k_is)
    (case e15 => k_is)
    (case k15 => k_is)
    (case h16 => k_is)
    (case l16 => k_is)
    (case e16 => k_is)
    (case k16 => k_is)
    (case h17 => k_is)
    (case l17 => k_is)
    (case e17 => k_is)
    (case k17 => k_is)
    (case h18 => k_is)
    (case l18 => k_is)
    (case e18 => k_is)
    (case k18 => k_is)
    (case z0 => k_is)
    (case z1 => k_is)
    (case z2 => k_is)
    (case z3 => k_is)
    (case z4 => k_is)
    (case z5 => k_is)
    (case z6 => k_is)
    (case z7 => k_is)
    (case z8 => k_is)
    (case z9 => k_is)
    (case z10 => k_is)
