import PyProof.Rows.All
import Wide.All
import OpenK.AllK
import Wide.FinOn
import HandS.ForMost
import HandS.ForExc
import HandS.Evl
import HandS.Deep
import HandS.IsInst
import HandS.TupAny
import HandS.Replace
import HandS.Strs
import PyProof.P3In
import PyProof.ReprRoads
import PyProof.ListStr
import HandS.Defaults
import HandS.Property
import HandS.Text
import HandS.Set
import HandS.SetFor
import HandS.SetTxt0
import PyProof.Rows.SortShellAny
import PyProof.ZipIter
import KE.KDictZip
import PyProof.ListNew
import HandS.Lambda
import HandS.Head0
import HandS.Head1
import HandS.Head2
import HandS.HeadEnd
import HandS.HeadHook1
import HandS.HeadHook2
import HandS.EndBits
import PyProof.StrLawsFirst
import PySem.Challenge.RW_nevermixed_k61_whole_lines_that_fit_what
set_option Elab.async false
set_option linter.all false
set_option maxRecDepth 100000
set_option maxHeartbeats 4000000
namespace Nv
open PySem PySem.Spec PyProof.Rows L2
/-! ## data, and how an abstract heap bears it -/
inductive D where
  | non | bl (b : Bool) | int (i : Int) | str (x : Str) | lst (xs : List D) | tup (xs : List D) | ins (c : Nat) (xs : List D) | scr (ns : List Int)
/-- the text's own classes: where they stand, their fields (of an exception: its one field) -/
structure CT where
  adr : Nat → Addr
  flds : Nat → List Str
abbrev Ex := Evl.Ex
section
variable (G : CT) (K : PySem.W.Frag)
mutual
def Rep (H : Hp) : D → V → Prop
  | .non, v => v = .non
  | .bl b, v => v = .bl b
  | .int i, v => v = .int i
  | .str x, v => v = .str x
  | .lst ds, v => ∃ a vs, v = .ref a ∧ H a = some (.lst vs) ∧ Reps H ds vs
  | .scr ns, v => ∃ a, v = .ref a ∧ SqL K H a (ns.map V.int)
  | .tup ds, v => ∃ a vs, v = .ref a ∧ SqT K H a vs ∧ Reps H ds vs
  | .ins c ds, v => ∃ a dx vs, v = .ref a ∧ H a = some (.ins (G.adr c) dx ((G.flds c).zip vs)) ∧ (G.flds c).length = vs.length ∧ Reps H ds vs
def Reps (H : Hp) : List D → List V → Prop
  | [], vs => vs = []
  | d :: ds, vs => ∃ v ws, vs = v :: ws ∧ Rep H d v ∧ Reps H ds ws
end
end
section
variable {G : CT} {K : PySem.W.Frag} {H H' : Hp}
mutual
theorem Rep.ex (e : Ex H H') : ∀ (d : D) (v : V), Rep G K H d v → Rep G K H' d v
  | .non, _, h => h
  | .bl _, _, h => h
  | .int _, _, h => h
  | .str _, _, h => h
  | .lst ds, v, h => by
    simp only [Rep] at h ⊢
    obtain ⟨a, vs, h1, h2, h3⟩ := h
    exact ⟨a, vs, h1, e a _ h2, Reps.ex e ds vs h3⟩
  | .scr ns, v, h => by
    simp only [Rep] at h ⊢
    obtain ⟨a, h1, h2⟩ := h
    exact ⟨a, h1, Evl.ex_l e h2⟩
  | .tup ds, v, h => by
    simp only [Rep] at h ⊢
    obtain ⟨a, vs, h1, h2, h3⟩ := h
    exact ⟨a, vs, h1, Evl.ex_t e h2, Reps.ex e ds vs h3⟩
  | .ins c ds, v, h => by
    simp only [Rep] at h ⊢
    obtain ⟨a, dx, vs, h1, h2, h4, h3⟩ := h
    exact ⟨a, dx, vs, h1, e a _ h2, h4, Reps.ex e ds vs h3⟩
theorem Reps.ex (e : Ex H H') : ∀ (ds : List D) (vs : List V), Reps G K H ds vs → Reps G K H' ds vs
  | [], _, h => h
  | d :: ds, vs, h => by
    simp only [Reps] at h ⊢
    obtain ⟨v, ws, h1, h2, h3⟩ := h
    exact ⟨v, ws, h1, Rep.ex e d v h2, Reps.ex e ds ws h3⟩
end
theorem Reps.len : ∀ {ds : List D} {vs : List V}, Reps G K H ds vs → vs.length = ds.length
  | [], vs, h => by simp only [Reps] at h; subst h; rfl
  | d :: ds, vs, h => by
    simp only [Reps] at h
    obtain ⟨v, ws, rfl, h2, h3⟩ := h
    simp [Reps.len h3]
theorem Reps.get : ∀ {ds : List D} {vs : List V} {i : Nat} {d : D}, Reps G K H ds vs → ds[i]? = some d → ∃ v, vs[i]? = some v ∧ Rep G K H d v
  | [], vs, i, d, h, e => by simp at e
  | d :: ds, vs, 0, d', h, e => by
    simp only [Reps] at h
    obtain ⟨v, ws, rfl, h2, h3⟩ := h
    simp at e; subst e
    exact ⟨v, rfl, h2⟩
  | d :: ds, vs, i + 1, d', h, e => by
    simp only [Reps] at h
    obtain ⟨v, ws, rfl, h2, h3⟩ := h
    obtain ⟨u, h4, h5⟩ := Reps.get (i := i) h3 (by simpa using e)
    exact ⟨u, by simpa using h4, h5⟩
theorem Reps.get' {ds : List D} {vs : List V} {i : Nat} {v : V} (h : Reps G K H ds vs) (e : vs[i]? = some v) : ∃ d, ds[i]? = some d ∧ Rep G K H d v := by
  have hl := h.len
  have hi : i < ds.length := by rw [← hl]; exact (List.getElem?_eq_some_iff.mp e).1
  obtain ⟨u, h1, h2⟩ := h.get (List.getElem?_eq_getElem hi)
  rw [e] at h1; cases h1
  exact ⟨_, List.getElem?_eq_getElem hi, h2⟩
theorem Reps.app : ∀ {ds es : List D} {vs ws : List V}, Reps G K H ds vs → Reps G K H es ws → Reps G K H (ds ++ es) (vs ++ ws)
  | [], es, vs, ws, h, h' => by simp only [Reps] at h; subst h; exact h'
  | d :: ds, es, vs, ws, h, h' => by
    simp only [Reps, List.cons_append] at h ⊢
    obtain ⟨v, us, rfl, h2, h3⟩ := h
    exact ⟨v, us ++ ws, rfl, h2, Reps.app h3 h'⟩
theorem Reps.one {d : D} {v : V} (h : Rep G K H d v) : Reps G K H [d] [v] := by
  simp only [Reps]; exact ⟨v, [], rfl, h, rfl⟩
theorem Reps.nil : Reps G K H [] [] := by simp only [Reps]
theorem Reps.cons {d : D} {v : V} {ds : List D} {vs : List V} (h : Rep G K H d v) (h' : Reps G K H ds vs) : Reps G K H (d :: ds) (v :: vs) := by
  simp only [Reps]; exact ⟨v, vs, rfl, h, h'⟩
theorem Reps.take : ∀ {ds : List D} {vs : List V} (n : Nat), Reps G K H ds vs → Reps G K H (ds.take n) (vs.take n)
  | [], vs, n, h => by simp only [Reps] at h; subst h; simp [Reps]
  | d :: ds, vs, 0, h => by simp [Reps]
  | d :: ds, vs, n + 1, h => by
    simp only [Reps] at h
    obtain ⟨v, ws, rfl, h2, h3⟩ := h
    simp only [List.take_succ_cons]
    exact .cons h2 (Reps.take n h3)
theorem Reps.drop : ∀ {ds : List D} {vs : List V} (n : Nat), Reps G K H ds vs → Reps G K H (ds.drop n) (vs.drop n)
  | [], vs, n, h => by simp only [Reps] at h; subst h; simp [Reps]
  | d :: ds, vs, 0, h => h
  | d :: ds, vs, n + 1, h => by
    simp only [Reps] at h
    obtain ⟨v, ws, rfl, h2, h3⟩ := h
    simp only [List.drop_succ_cons]
    exact Reps.drop n h3
theorem Reps.set : ∀ {ds : List D} {vs : List V} {d : D} {v : V} (i : Nat), Reps G K H ds vs → Rep G K H d v → Reps G K H (ds.set i d) (vs.set i v)
  | [], vs, _, _, i, h, _ => by simp only [Reps] at h; subst h; simp [Reps]
  | d :: ds, vs, d', v', 0, h, h' => by
    simp only [Reps] at h
    obtain ⟨v, ws, rfl, h2, h3⟩ := h
    simp only [List.set_cons_zero]
    exact .cons h' h3
  | d :: ds, vs, d', v', i + 1, h, h' => by
    simp only [Reps] at h
    obtain ⟨v, ws, rfl, h2, h3⟩ := h
    simp only [List.set_cons_succ]
    exact .cons h2 (Reps.set i h3 h')
theorem Reps.erase : ∀ {ds : List D} {vs : List V} (i : Nat), Reps G K H ds vs → Reps G K H (ds.eraseIdx i) (vs.eraseIdx i)
  | [], vs, i, h => by simp only [Reps] at h; subst h; simp [Reps]
  | d :: ds, vs, 0, h => by
    simp only [Reps] at h
    obtain ⟨v, ws, rfl, h2, h3⟩ := h
    simpa using h3
  | d :: ds, vs, i + 1, h => by
    simp only [Reps] at h
    obtain ⟨v, ws, rfl, h2, h3⟩ := h
    simp only [List.eraseIdx_cons_succ]
    exact .cons h2 (Reps.erase i h3)
end
/-! ## hidden addresses -/
def hid (Z : List Addr) (H : Hp) : Hp := fun b => if b ∈ Z then none else H b
section
variable {Z Z' : List Addr} {H H' : Hp} {a : Addr} {o : HO}
theorem hid_in (h : a ∈ Z) : hid Z H a = none := by unfold hid; rw [if_pos h]
theorem hid_out (h : a ∉ Z) : hid Z H a = H a := by unfold hid; rw [if_neg h]
theorem hid_some (h : hid Z H a = some o) : a ∉ Z ∧ H a = some o := by
  unfold hid at h
  split at h
  · cases h
  · exact ⟨by assumption, h⟩
theorem ex_unhid : Ex (hid Z H) H := fun b o h => (hid_some h).2
theorem ex_hid (h : Ex H H') : Ex (hid Z H) (hid Z H') := fun b o e => by
  obtain ⟨h1, h2⟩ := hid_some e
  rw [hid_out h1]; exact h b o h2
theorem ex_sub (h : ∀ b, b ∈ Z' → b ∈ Z) : Ex (hid Z H) (hid Z' H) := fun b o e => by
  obtain ⟨h1, h2⟩ := hid_some e
  rw [hid_out (fun z => h1 (h b z))]; exact h2
theorem ex_new (h : H a = none) : Ex H (upd H a o) := Evl.Ex.new h
theorem ex_hid_new (h : H a = none) : Ex (hid Z H) (hid Z (upd H a o)) := ex_hid (ex_new h)
/-- a new object that is hidden at once -/
theorem ex_hid_add (h : H a = none) : Ex (hid Z H) (hid (a :: Z) (upd H a o)) := fun b u e => by
  obtain ⟨h1, h2⟩ := hid_some e
  have hb : b ≠ a := fun z => by rw [z, h] at h2; cases h2
  rw [hid_out (by simp [hb, h1]), upd_ne hb]; exact h2
theorem ex_hid_upd (h : a ∈ Z) : Ex (hid Z H) (hid Z (upd H a o)) := fun b u e => by
  obtain ⟨h1, h2⟩ := hid_some e
  rw [hid_out h1, upd_ne (fun z => h1 (by rw [z]; exact h))]; exact h2
end
/-! ## slots -/
inductive Sl where
  | no | shr (d : D) | own (d : D)
abbrev Rho := List Sl
/-- lists that are under way, with what they hold -/
abbrev Tmp := List (Addr × List V)
/-- what is hidden -/
def hz (T : Tmp) (O Z : List Addr) : List Addr := T.map (·.1) ++ O ++ Z
theorem hz_O {T : Tmp} {O Z : List Addr} {a : Addr} (h : a ∈ O) : a ∈ hz T O Z := by unfold hz; simp [h]
theorem hz_T {T : Tmp} {O Z : List Addr} {p : Addr × List V} (h : p ∈ T) : p.1 ∈ hz T O Z := by
  unfold hz
  rw [List.append_assoc, List.mem_append]
  exact .inl (List.mem_map_of_mem h)
theorem hz_cons {p : Addr × List V} {T : Tmp} {O Z : List Addr} : hz (p :: T) O Z = p.1 :: hz T O Z := by unfold hz; simp
section
variable (G : CT) (K : PySem.W.Frag)
/-- a list or object of one's own at a: its content is told here -/
def OwnAt (Z : List Addr) (H : Hp) (a : Addr) : D → Prop
  | .lst ds => ∃ vs, H a = some (.lst vs) ∧ Reps G K (hid Z H) ds vs
  | .ins c ds => ∃ dx vs, H a = some (.ins (G.adr c) dx ((G.flds c).zip vs)) ∧ (G.flds c).length = vs.length ∧ Reps G K (hid Z H) ds vs
  | _ => False
/-- B: what stands and stays; io: slots that stay at their addresses; Z: hidden all through; O: the slots' own lists; T: hidden for a while -/
structure EnvOk (B : Hp) (io : List (Nat × Addr)) (Z O : List Addr) (T : Tmp) (ρ : Rho) (σ : L2.St) (H : Hp) : Prop where
  len : ρ.length = σ.length
  base : ∀ b o, B b = some o → H b = some o
  bO : ∀ a ∈ O, B a = none
  bT : ∀ p ∈ T, B p.1 = none ∧ p.1 ∉ O
  live : ∀ a ∈ hz T O Z, ∃ o, H a = some o
  tmp : ∀ p ∈ T, H p.1 = some (.lst p.2)
  nz : ∀ a ∈ O, a ∈ Z → ∃ p ∈ io, p.2 = a
  shr : ∀ (i : Nat) (d : D), ρ[i]? = some (.shr d) → ∃ v, σ[i]? = some (some v) ∧ Rep G K (hid (hz T O Z) H) d v
  own : ∀ (i : Nat) (d : D), ρ[i]? = some (.own d) → ∃ a, σ[i]? = some (some (.ref a)) ∧ a ∈ O ∧ OwnAt G K (hz T O Z) H a d
  inj : ∀ (i j : Nat) (d e : D) (a : Addr), ρ[i]? = some (.own d) → ρ[j]? = some (.own e) → σ[i]? = some (some (.ref a)) → σ[j]? = some (some (.ref a)) → i = j
  io : ∀ p ∈ io, σ[p.1]? = some (some (.ref p.2)) ∧ p.2 ∈ O ∧ ∃ d, ρ[p.1]? = some (.own d)
end
section
variable {G : CT} {K : PySem.W.Frag} {B : Hp} {io : List (Nat × Addr)} {Z O : List Addr} {T : Tmp} {ρ : Rho} {σ : L2.St} {H H' : Hp} {a : Addr} {o : HO}
theorem OwnAt.ex {Z : List Addr} {Z' : List Addr} {d : D} (h : OwnAt G K Z H a d) (e : Ex (hid Z H) (hid Z' H')) (ha : H' a = H a) : OwnAt G K Z' H' a d := by
  cases d with
  | lst ds =>
    obtain ⟨vs, h1, h2⟩ := h
    exact ⟨vs, by rw [ha]; exact h1, Reps.ex e ds vs h2⟩
  | ins c ds =>
    obtain ⟨dx, vs, h1, h3, h2⟩ := h
    exact ⟨dx, vs, by rw [ha]; exact h1, h3, Reps.ex e ds vs h2⟩
  | _ => exact h.elim
/-- shown again -/
theorem OwnAt.show {Z : List Addr} {d : D} (h : OwnAt G K (a :: Z) H a d) (hn : a ∉ Z) : Rep G K (hid Z H) d (.ref a) := by
  have e : Ex (hid (a :: Z) H) (hid Z H) := ex_sub fun b hb => List.mem_cons_of_mem _ hb
  cases d with
  | lst ds =>
    obtain ⟨vs, h1, h2⟩ := h
    simp only [Rep]
    exact ⟨a, vs, rfl, by rw [hid_out hn]; exact h1, Reps.ex e _ _ h2⟩
  | ins c ds =>
    obtain ⟨dx, vs, h1, h3, h2⟩ := h
    simp only [Rep]
    exact ⟨a, dx, vs, rfl, by rw [hid_out hn]; exact h1, h3, Reps.ex e _ _ h2⟩
  | _ => exact h.elim
theorem OwnAt.live {Z : List Addr} {d : D} (h : OwnAt G K Z H a d) : ∃ o, H a = some o := by
  cases d with
  | lst ds => obtain ⟨vs, h1, h2⟩ := h; exact ⟨_, h1⟩
  | ins c ds => obtain ⟨dx, vs, h1, _⟩ := h; exact ⟨_, h1⟩
  | _ => exact h.elim
/-- the heap grows -/
theorem EnvOk.ex (I : EnvOk G K B io Z O T ρ σ H) (e : Ex H H') : EnvOk G K B io Z O T ρ σ H' where
  len := I.len
  base := fun b o h => e b o (I.base b o h)
  bO := I.bO
  bT := I.bT
  live := fun a h => by obtain ⟨o, ho⟩ := I.live a h; exact ⟨o, e a o ho⟩
  tmp := fun p h => e _ _ (I.tmp p h)
  nz := I.nz
  shr := fun i d h => by
    obtain ⟨v, h1, h2⟩ := I.shr i d h
    exact ⟨v, h1, Rep.ex (ex_hid e) d v h2⟩
  own := fun i d h => by
    obtain ⟨a, h1, h2, h3⟩ := I.own i d h
    obtain ⟨o, ho⟩ := I.live a (hz_O h2)
    exact ⟨a, h1, h2, h3.ex (ex_hid e) (by rw [ho]; exact e a o ho)⟩
  inj := I.inj
  io := I.io
theorem EnvOk.new (I : EnvOk G K B io Z O T ρ σ H) (h : H a = none) : EnvOk G K B io Z O T ρ σ (upd H a o) := I.ex (ex_new h)
theorem EnvOk.fresh (I : EnvOk G K B io Z O T ρ σ H) (h : H a = none) : a ∉ hz T O Z := fun z => by
  obtain ⟨o, ho⟩ := I.live a z
  rw [h] at ho; cases ho
theorem EnvOk.bfresh (I : EnvOk G K B io Z O T ρ σ H) (h : H a = none) : B a = none := by
  cases e : B a with
  | none => rfl
  | some u => rw [I.base a u e] at h; cases h
/-- a new list, hidden for a while -/
theorem EnvOk.push (I : EnvOk G K B io Z O T ρ σ H) (h : H a = none) (vs : List V) : EnvOk G K B io Z O ((a, vs) :: T) ρ σ (upd H a (.lst vs)) where
  len := I.len
  base := fun b u e => by
    have := I.base b u e
    rw [upd_ne (ne_of_none this h)]; exact this
  bO := I.bO
  bT := fun p hp => by
    rcases List.mem_cons.mp hp with rfl | hp
    · exact ⟨I.bfresh h, fun z => I.fresh h (hz_O z)⟩
    · exact I.bT p hp
  live := fun b hb => by
    by_cases e : b = a
    · subst e; exact ⟨_, upd_same⟩
    · rw [hz_cons] at hb
      obtain ⟨u, hu⟩ := I.live b (by simpa [e] using hb)
      exact ⟨u, by rw [upd_ne e]; exact hu⟩
  tmp := fun p hp => by
    rcases List.mem_cons.mp hp with rfl | hp
    · exact upd_same
    · have := I.tmp p hp
      rw [upd_ne (ne_of_none this h)]; exact this
  nz := I.nz
  shr := fun i d hi => by
    obtain ⟨v, h1, h2⟩ := I.shr i d hi
    exact ⟨v, h1, Rep.ex (by rw [hz_cons]; exact ex_hid_add h) d v h2⟩
  own := fun i d hi => by
    obtain ⟨b, h1, h2, h3⟩ := I.own i d hi
    have hb : b ≠ a := fun z => I.fresh h (by rw [← z]; exact hz_O h2)
    exact ⟨b, h1, h2, h3.ex (by rw [hz_cons]; exact ex_hid_add h) (upd_ne hb)⟩
  inj := I.inj
  io := I.io
/-- the hidden list's content changes -/
theorem EnvOk.pset {ws : List V} (I : EnvOk G K B io Z O ((a, ws) :: T) ρ σ H) (hn : a ∉ hz T O Z) (vs : List V) : EnvOk G K B io Z O ((a, vs) :: T) ρ σ (upd H a (.lst vs)) where
  len := I.len
  base := fun b u e => by
    have h2 := (I.bT (a, ws) List.mem_cons_self).1
    rw [upd_ne (fun z => by rw [z] at e; rw [show B a = none from h2] at e; cases e)]; exact I.base b u e
  bO := I.bO
  bT := fun p hp => by
    rcases List.mem_cons.mp hp with rfl | hp
    · exact I.bT (a, ws) List.mem_cons_self
    · exact I.bT p (List.mem_cons_of_mem _ hp)
  live := fun b hb => by
    by_cases e : b = a
    · subst e; exact ⟨_, upd_same⟩
    · obtain ⟨u, hu⟩ := I.live b (by rw [hz_cons] at hb ⊢; exact hb)
      exact ⟨u, by rw [upd_ne e]; exact hu⟩
  tmp := fun p hp => by
    rcases List.mem_cons.mp hp with rfl | hp
    · exact upd_same
    · have := I.tmp p (List.mem_cons_of_mem _ hp)
      rw [upd_ne (fun z => hn (by rw [← z]; exact hz_T hp))]; exact this
  nz := I.nz
  shr := fun i d hi => by
    obtain ⟨v, h1, h2⟩ := I.shr i d hi
    exact ⟨v, h1, Rep.ex (by rw [hz_cons] at *; exact ex_hid_upd (by simp)) d v h2⟩
  own := fun i d hi => by
    obtain ⟨b, h1, h2, h3⟩ := I.own i d hi
    have hb : b ≠ a := fun z => hn (by rw [← z]; exact hz_O h2)
    exact ⟨b, h1, h2, h3.ex (by rw [hz_cons] at *; exact ex_hid_upd (by simp)) (upd_ne hb)⟩
  inj := I.inj
  io := I.io
theorem ex_hid_pop {Z : List Addr} (hn : a ∉ Z) : Ex (hid (a :: Z) H) (hid Z (hid [a] H)) := fun b u e => by
  obtain ⟨q1, q2⟩ := hid_some e
  rw [hid_out (fun z => q1 (by simp [z])), hid_out (by simp; exact fun z => q1 (by simp [z]))]
  exact q2
/-- the heap without it -/
theorem EnvOk.pop {ws : List V} (I : EnvOk G K B io Z O ((a, ws) :: T) ρ σ H) (hn : a ∉ hz T O Z) : EnvOk G K B io Z O T ρ σ (hid [a] H) where
  len := I.len
  base := fun b u e => by
    have h2 := (I.bT (a, ws) List.mem_cons_self).1
    rw [hid_out (by simp; exact fun z => by rw [z, show B a = none from h2] at e; cases e)]
    exact I.base b u e
  bO := I.bO
  bT := fun p hp => I.bT p (List.mem_cons_of_mem _ hp)
  live := fun b hb => by
    obtain ⟨u, hu⟩ := I.live b (by rw [hz_cons]; exact List.mem_cons_of_mem _ hb)
    exact ⟨u, by rw [hid_out (by simp; exact fun z => hn (by rw [← z]; exact hb))]; exact hu⟩
  tmp := fun p hp => by
    have := I.tmp p (List.mem_cons_of_mem _ hp)
    rw [hid_out (by simp; exact fun z => hn (by rw [← z]; exact hz_T hp))]; exact this
  nz := I.nz
  shr := fun i d hi => by
    obtain ⟨v, h1, h2⟩ := I.shr i d hi
    exact ⟨v, h1, Rep.ex (by rw [hz_cons]; exact ex_hid_pop hn) d v h2⟩
  own := fun i d hi => by
    obtain ⟨b, h1, h2, h3⟩ := I.own i d hi
    have hb : b ≠ a := fun z => hn (by rw [← z]; exact hz_O h2)
    exact ⟨b, h1, h2, h3.ex (by rw [hz_cons]; exact ex_hid_pop hn) (by rw [hid_out (by simpa using hb)])⟩
  inj := I.inj
  io := I.io
theorem upd_hid {H : Hp} {a : Addr} {o : HO} (h : H a = some o) : upd (hid [a] H) a o = H := by
  funext b
  by_cases e : b = a
  · subst e; rw [upd_same, h]
  · rw [upd_ne e, hid_out (by simpa using e)]
/-- a slot is set -/
theorem get_set {α : Type} {l : List α} {i j : Nat} {x y : α} (h : (l.set i x)[j]? = some y) : (j = i ∧ y = x) ∨ (j ≠ i ∧ l[j]? = some y) := by
  by_cases e : j = i
  · subst e
    rw [List.getElem?_set_self'] at h
    cases q : l[j]? with
    | none => rw [q] at h; cases h
    | some z => rw [q] at h; cases h; exact .inl ⟨rfl, rfl⟩
  · rw [List.getElem?_set_ne (fun z => e z.symm)] at h
    exact .inr ⟨e, h⟩
theorem EnvOk.set {i : Nat} {d : D} {v : V} (I : EnvOk G K B io Z O T ρ σ H) (r : Rep G K (hid (hz T O Z) H) d v) (hi : ∀ p ∈ io, p.1 ≠ i) : EnvOk G K B io Z O T (ρ.set i (.shr d)) (σ.set i (some v)) H where
  len := by rw [List.length_set, List.length_set]; exact I.len
  base := I.base
  bO := I.bO
  bT := I.bT
  live := I.live
  tmp := I.tmp
  nz := I.nz
  shr := fun j e h => by
    rcases get_set h with ⟨rfl, h2⟩ | ⟨h1, h2⟩
    · cases h2
      have hl : j < σ.length := by
        rw [← I.len]
        have := (List.getElem?_eq_some_iff.mp h).1
        simpa using this
      exact ⟨v, by rw [List.getElem?_set_self hl], r⟩
    · obtain ⟨w, q1, q2⟩ := I.shr j e h2
      exact ⟨w, by rw [List.getElem?_set_ne (fun z => h1 z.symm)]; exact q1, q2⟩
  own := fun j e h => by
    rcases get_set h with ⟨rfl, h2⟩ | ⟨h1, h2⟩
    · cases h2
    · obtain ⟨a, q1, q2, q3⟩ := I.own j e h2
      exact ⟨a, by rw [List.getElem?_set_ne (fun z => h1 z.symm)]; exact q1, q2, q3⟩
  inj := fun j k e f a h1 h2 h3 h4 => by
    rcases get_set h1 with ⟨_, q⟩ | ⟨n1, q1⟩
    · cases q
    · rcases get_set h2 with ⟨_, q⟩ | ⟨n2, q2⟩
      · cases q
      · rw [List.getElem?_set_ne (fun z => n1 z.symm)] at h3
        rw [List.getElem?_set_ne (fun z => n2 z.symm)] at h4
        exact I.inj j k e f a q1 q2 h3 h4
  io := fun p hp => by
    obtain ⟨h1, h2, e, h3⟩ := I.io p hp
    have n := hi p hp
    exact ⟨by rw [List.getElem?_set_ne (fun z => n z.symm)]; exact h1, h2, e, by rw [List.getElem?_set_ne (fun z => n z.symm)]; exact h3⟩
/-- a new list becomes a slot's own -/
theorem EnvOk.setOwn {i : Nat} {ds : List D} {vs : List V} (I : EnvOk G K B io Z O T ρ σ H) (h : H a = none) (r : Reps G K (hid (hz T O Z) H) ds vs) (hi : ∀ p ∈ io, p.1 ≠ i) :
    EnvOk G K B io Z (a :: O) T (ρ.set i (.own (.lst ds))) (σ.set i (some (.ref a))) (upd H a (.lst vs)) := by
  have hn := I.fresh h
  have sub : Ex (hid (hz T O Z) H) (hid (hz T (a :: O) Z) (upd H a (.lst vs))) := fun b u e => by
    obtain ⟨q1, q2⟩ := hid_some e
    have hb : b ≠ a := fun z => by rw [z, h] at q2; cases q2
    rw [hid_out (by unfold hz at q1 ⊢; simp at q1 ⊢; exact ⟨q1.1, hb, q1.2⟩), upd_ne hb]
    exact q2
  exact {
  len := by rw [List.length_set, List.length_set]; exact I.len
  base := fun b u e => by
    have := I.base b u e
    rw [upd_ne (ne_of_none this h)]; exact this
  bO := fun b hb => by
    rcases List.mem_cons.mp hb with rfl | hb
    · exact I.bfresh h
    · exact I.bO b hb
  bT := fun p hp => ⟨(I.bT p hp).1, fun z => by
    rcases List.mem_cons.mp z with z | z
    · exact hn (by rw [← z]; exact hz_T hp)
    · exact (I.bT p hp).2 z⟩
  live := fun b hb => by
    by_cases e : b = a
    · subst e; exact ⟨_, upd_same⟩
    · obtain ⟨u, hu⟩ := I.live b (by unfold hz at hb ⊢; simp [e] at hb ⊢; exact hb)
      exact ⟨u, by rw [upd_ne e]; exact hu⟩
  tmp := fun p hp => by
    have := I.tmp p hp
    rw [upd_ne (ne_of_none this h)]; exact this
  nz := fun b hb hZ => by
    rcases List.mem_cons.mp hb with rfl | hb
    · exact (hn (by unfold hz; simp [hZ])).elim
    · exact I.nz b hb hZ
  shr := fun j e q => by
    rcases get_set q with ⟨_, h2⟩ | ⟨h1, h2⟩
    · cases h2
    · obtain ⟨w, q1, q2⟩ := I.shr j e h2
      exact ⟨w, by rw [List.getElem?_set_ne (fun z => h1 z.symm)]; exact q1, Rep.ex sub _ _ q2⟩
  own := fun j e q => by
    rcases get_set q with ⟨rfl, h2⟩ | ⟨h1, h2⟩
    · cases h2
      have hl : j < σ.length := by
        rw [← I.len]
        have := (List.getElem?_eq_some_iff.mp q).1
        simpa using this
      exact ⟨a, by rw [List.getElem?_set_self hl], List.mem_cons_self, vs, upd_same, Reps.ex sub _ _ r⟩
    · obtain ⟨b, q1, q2, q3⟩ := I.own j e h2
      have hb : b ≠ a := fun z => hn (by rw [← z]; exact hz_O q2)
      exact ⟨b, by rw [List.getElem?_set_ne (fun z => h1 z.symm)]; exact q1, List.mem_cons_of_mem _ q2, q3.ex sub (upd_ne hb)⟩
  inj := fun j k e f b h1 h2 h3 h4 => by
    rcases get_set h1 with ⟨z1, q1⟩ | ⟨n1, q1⟩
    · rcases get_set h2 with ⟨z2, q2⟩ | ⟨n2, q2⟩
      · rw [z1, z2]
      · exfalso
        subst z1
        have hl : j < σ.length := by
          rw [← I.len]
          have := (List.getElem?_eq_some_iff.mp h1).1
          simpa using this
        rw [List.getElem?_set_self hl] at h3
        rw [List.getElem?_set_ne (fun z => n2 z.symm)] at h4
        cases h3
        obtain ⟨b, w1, w2, _⟩ := I.own k f q2
        rw [h4] at w1
        cases w1
        exact hn (hz_O w2)
    · rcases get_set h2 with ⟨z2, q2⟩ | ⟨n2, q2⟩
      · exfalso
        subst z2
        have hl : k < σ.length := by
          rw [← I.len]
          have := (List.getElem?_eq_some_iff.mp h2).1
          simpa using this
        rw [List.getElem?_set_self hl] at h4
        rw [List.getElem?_set_ne (fun z => n1 z.symm)] at h3
        cases h4
        obtain ⟨b, w1, w2, _⟩ := I.own j e q1
        rw [h3] at w1
        cases w1
        exact hn (hz_O w2)
      · rw [List.getElem?_set_ne (fun z => n1 z.symm)] at h3
        rw [List.getElem?_set_ne (fun z => n2 z.symm)] at h4
        exact I.inj j k e f b q1 q2 h3 h4
  io := fun p hp => by
    obtain ⟨h1, h2, e, h3⟩ := I.io p hp
    have n := hi p hp
    exact ⟨by rw [List.getElem?_set_ne (fun z => n z.symm)]; exact h1, List.mem_cons_of_mem _ h2, e, by rw [List.getElem?_set_ne (fun z => n z.symm)]; exact h3⟩ }
/-- a slot's own list changes -/
theorem EnvOk.ownCall {i : Nat} {d d2 : D} (I : EnvOk G K B io Z O T ρ σ H) (hi : ρ[i]? = some (.own d)) (ha : σ[i]? = some (some (.ref a))) (hO : a ∈ O) (kp : ∀ b o, b ≠ a → H b = some o → H' b = some o) (hA : OwnAt G K (hz T O Z) H' a d2) :
    EnvOk G K B io Z O T (ρ.set i (.own d2)) σ H' := by
  have sub : Ex (hid (hz T O Z) H) (hid (hz T O Z) H') := fun b u e => by
    obtain ⟨q1, q2⟩ := hid_some e
    rw [hid_out q1]
    exact kp b u (fun z => q1 (by rw [z]; exact hz_O hO)) q2
  exact {
  len := by rw [List.length_set]; exact I.len
  base := fun b u e => by
    have h2 := I.bO a hO
    exact kp b u (fun z => by rw [z, h2] at e; cases e) (I.base b u e)
  bO := I.bO
  bT := I.bT
  live := fun b hb => by
    by_cases e : b = a
    · subst e; exact hA.live
    · obtain ⟨u, hu⟩ := I.live b hb
      exact ⟨u, kp b u e hu⟩
  tmp := fun p hp => by
    have := I.tmp p hp
    exact kp _ _ (fun z => (I.bT p hp).2 (by rw [z]; exact hO)) this
  nz := I.nz
  shr := fun j e q => by
    rcases get_set q with ⟨_, h2⟩ | ⟨h1, h2⟩
    · cases h2
    · obtain ⟨w, q1, q2⟩ := I.shr j e h2
      exact ⟨w, q1, Rep.ex sub _ _ q2⟩
  own := fun j e q => by
    rcases get_set q with ⟨rfl, h2⟩ | ⟨h1, h2⟩
    · cases h2
      exact ⟨a, ha, hO, hA⟩
    · obtain ⟨b, q1, q2, q3⟩ := I.own j e h2
      have hb : b ≠ a := fun z => h1 (I.inj j i e d a h2 hi (by rw [← z]; exact q1) ha)
      obtain ⟨o, ho⟩ := I.live b (hz_O q2)
      exact ⟨b, q1, q2, q3.ex sub (by rw [ho]; exact kp b o hb ho)⟩
  inj := fun j k e f b h1 h2 h3 h4 => by
    have w1 : ∃ e', ρ[j]? = some (.own e') := by
      rcases get_set h1 with ⟨rfl, _⟩ | ⟨_, q⟩
      · exact ⟨d, hi⟩
      · exact ⟨e, q⟩
    have w2 : ∃ e', ρ[k]? = some (.own e') := by
      rcases get_set h2 with ⟨rfl, _⟩ | ⟨_, q⟩
      · exact ⟨d, hi⟩
      · exact ⟨f, q⟩
    obtain ⟨e1, w1⟩ := w1
    obtain ⟨e2, w2⟩ := w2
    exact I.inj j k e1 e2 b w1 w2 h3 h4
  io := fun p hp => by
    obtain ⟨h1, h2, e, h3⟩ := I.io p hp
    refine ⟨h1, h2, ?_⟩
    by_cases n : p.1 = i
    · exact ⟨d2, by rw [n, List.getElem?_set_self (by rw [← n]; exact (List.getElem?_eq_some_iff.mp h3).1)]⟩
    · exact ⟨e, by rw [List.getElem?_set_ne (fun z => n z.symm)]; exact h3⟩ }
theorem EnvOk.ownSet {i : Nat} {d : D} {ds : List D} {vs : List V} (I : EnvOk G K B io Z O T ρ σ H) (hi : ρ[i]? = some (.own d)) (ha : σ[i]? = some (some (.ref a))) (hO : a ∈ O) (r : Reps G K (hid (hz T O Z) H) ds vs) :
    EnvOk G K B io Z O T (ρ.set i (.own (.lst ds))) σ (upd H a (.lst vs)) :=
  I.ownCall hi ha hO (fun b o hb e => by rw [upd_ne hb]; exact e) ⟨vs, upd_same, Reps.ex (ex_hid_upd (hz_O hO)) _ _ r⟩
/-- a slot's own object changes -/
theorem EnvOk.ownSetI {i c : Nat} {d : D} {dx : Addr} {ds : List D} {vs : List V} (I : EnvOk G K B io Z O T ρ σ H) (hi : ρ[i]? = some (.own d)) (ha : σ[i]? = some (some (.ref a))) (hO : a ∈ O) (hl : (G.flds c).length = vs.length) (r : Reps G K (hid (hz T O Z) H) ds vs) :
    EnvOk G K B io Z O T (ρ.set i (.own (.ins c ds))) σ (upd H a (.ins (G.adr c) dx ((G.flds c).zip vs))) :=
  I.ownCall hi ha hO (fun b o hb e => by rw [upd_ne hb]; exact e) ⟨dx, vs, upd_same, hl, Reps.ex (ex_hid_upd (hz_O hO)) _ _ r⟩
/-- a list that was under way becomes a slot's own -/
theorem EnvOk.tmpOwn {i : Nat} {ds : List D} {vs : List V} (I : EnvOk G K B io Z O ((a, vs) :: T) ρ σ H) (hn : a ∉ hz T O Z) (r : Reps G K (hid (a :: hz T O Z) H) ds vs) (hi : ∀ p ∈ io, p.1 ≠ i) :
    EnvOk G K B io Z (a :: O) T (ρ.set i (.own (.lst ds))) (σ.set i (some (.ref a))) H := by
  have h := (I.pop hn).setOwn (a := a) (i := i) (ds := ds) (vs := vs) (hid_in (by simp)) (Reps.ex (ex_hid_pop hn) _ _ r) hi
  rw [upd_hid (I.tmp (a, vs) List.mem_cons_self)] at h
  exact h
end
end Nv

namespace Nv
open PySem PySem.Spec PyProof.Rows L2
/-! ## what code does: results over the slots -/
inductive Res (α : Type) where
  | ok (a : α) (ρ : Rho) | exc (c : Nat) (d : D) (ρ : Rho) | err
abbrev M (α : Type) := Rho → Res α
@[reducible] def mRet {α : Type} (a : α) : M α := fun ρ => .ok a ρ
def Res.bind {α β : Type} (r : Res α) (g : α → M β) : Res β := match r with
  | .ok a ρ => g a ρ
  | .exc c d ρ => .exc c d ρ
  | .err => .err
def mBind {α β : Type} (m : M α) (g : α → M β) : M β := fun ρ => (m ρ).bind g
def mOpt {α : Type} (o : Option α) : M α := fun ρ => match o with
  | some a => .ok a ρ
  | none => .err
/-- the parameters of a body: classes, what stands, fixed slots, what is hidden, what is wanted of exceptions -/
structure Pr where
  G : CT
  B : Hp
  io : List (Nat × Addr)
  Z : List Addr
  E : XK
section
variable (K : PySem.W.Frag) (P : Pr)
abbrev Env (O : List Addr) (T : Tmp) (ρ : Rho) (σ : L2.St) (H : Hp) : Prop := EnvOk P.G K P.B P.io P.Z O T ρ σ H
/-- behind a result -/
def Post {α β : Type} (R : List Addr → Hp → α → β → Prop) (O : List Addr) (T : Tmp) (σ : L2.St) (H : Hp) (r : Res α) (Q : β → Hp → Prop) : Prop := match r with
  | .ok a ρ => ∀ b H', Env K P O T ρ σ H' → Ex (hid (hz T O P.Z) H) (hid (hz T O P.Z) H') → R (hz T O P.Z) H' a b → Q b H'
  | .exc c d ρ => ∀ dd v f H', Env K P O T ρ σ H' → Ex (hid (hz T O P.Z) H) (hid (hz T O P.Z) H') → P.G.flds c = [f] → H' dd = some (.xd [(f, v)]) → Rep P.G K (hid (hz T O P.Z) H') d v → P.E (.ref (P.G.adr c)) (some dd) H'
  | .err => False
/-- the reading of f -/
def tM {α β : Type} (R : List Addr → Hp → α → β → Prop) (f : M α) : L2.St → Hp → (β → Hp → Prop) → Prop := fun σ H Q =>
  ∃ O T ρ, Env K P O T ρ σ H ∧ Post K P R O T σ H (f ρ) Q
abbrev RE : List Addr → Hp → D → V → Prop := fun hs H d v => Rep P.G K (hid hs H) d v
/-- a value, or a list of one's own with its items -/
def RepB (hs : List Addr) (H : Hp) (d : D) (v : V) : Prop := match d with
  | .lst ds => ∃ a vs, v = .ref a ∧ H a = some (.lst vs) ∧ Reps P.G K (hid hs H) ds vs
  | .ins c ds => ∃ a dx vs, v = .ref a ∧ H a = some (.ins (P.G.adr c) dx ((P.G.flds c).zip vs)) ∧ (P.G.flds c).length = vs.length ∧ Reps P.G K (hid hs H) ds vs
  | d => Rep P.G K (hid hs H) d v
abbrev RB : List Addr → Hp → D → V → Prop := fun hs H d v => RepB K P hs H d v
abbrev RA : List Addr → Hp → List D → List V → Prop := fun hs H d v => Reps P.G K (hid hs H) d v
abbrev RT : List Addr → Hp → Bool → Bool → Prop := fun _ _ a b => a = b
abbrev RO : List Addr → Hp → Option Int → Option Int → Prop := fun _ _ a b => a = b
abbrev tE (f : M D) : TE := tM K P (RE K P) f
abbrev tEb (f : M D) : TE := tM K P (RB K P) f
abbrev tAs (f : M (List D)) : TA := tM K P (RA K P) f
abbrev tTs (f : M Bool) : TT := tM K P RT f
abbrev tOs (f : M (Option Int)) : TO := tM K P RO f
/-- a new list -/
abbrev RF : List Addr → Hp → List D → Addr × List V → Prop := fun hs H ds pv => H pv.1 = none ∧ Reps P.G K (hid hs H) ds pv.2
def tF (f : M (List D)) : TE := fun σ H Q => tM K P (RF K P) f σ H fun pv H' => Q (.ref pv.1) (upd H' pv.1 (.lst pv.2))
end
section
variable {K : PySem.W.Frag} {P : Pr} {α β γ δ : Type} {O : List Addr} {T : Tmp} {σ : L2.St} {H H1 : Hp}
theorem Post.step {R : List Addr → Hp → α → β → Prop} {r : Res α} {Q : β → Hp → Prop} (h : Post K P R O T σ H r Q) (e : Ex (hid (hz T O P.Z) H) (hid (hz T O P.Z) H1)) : Post K P R O T σ H1 r Q := by
  cases r with
  | ok a ρ => exact fun b H' I e2 q => h b H' I (e.trans e2) q
  | exc c d ρ => exact fun dd v f H' I e2 hf q1 q2 => h dd v f H' I (e.trans e2) hf q1 q2
  | err => exact h
theorem Post.imp {R : List Addr → Hp → α → β → Prop} {r : Res α} {Q Q' : β → Hp → Prop} (h : Post K P R O T σ H r Q) (k : ∀ b H', Q b H' → Q' b H') : Post K P R O T σ H r Q' := by
  cases r with
  | ok a ρ => exact fun b H' I e2 q => k _ _ (h b H' I e2 q)
  | exc c d ρ => exact h
  | err => exact h
/-- one after another -/
theorem Post.bind {R : List Addr → Hp → γ → δ → Prop} {R1 : List Addr → Hp → α → β → Prop} {r : Res α} {g : α → M γ} {Q : δ → Hp → Prop} {Q1 : β → Hp → Prop} (h : Post K P R O T σ H (r.bind g) Q)
    (k : ∀ a ρ' b H1, Env K P O T ρ' σ H1 → Ex (hid (hz T O P.Z) H) (hid (hz T O P.Z) H1) → R1 (hz T O P.Z) H1 a b → Post K P R O T σ H1 (g a ρ') Q → Q1 b H1) : Post K P R1 O T σ H r Q1 := by
  cases r with
  | ok a ρ => exact fun b H' I e2 q => k a ρ b H' I e2 q (Post.step h e2)
  | exc c d ρ => exact h
  | err => exact h
theorem Post.ok {R : List Addr → Hp → α → β → Prop} {a : α} {b : β} {ρ : Rho} {Q : β → Hp → Prop} (h : Post K P R O T σ H (.ok a ρ) Q) (I : Env K P O T ρ σ H) (r : R (hz T O P.Z) H a b) : Q b H :=
  h b H I (Evl.Ex.refl _) r
/-- with a new object -/
theorem Post.okn {R : List Addr → Hp → α → β → Prop} {a : α} {b : β} {ρ : Rho} {Q : β → Hp → Prop} {p : Addr} {o : HO} (h : Post K P R O T σ H (.ok a ρ) Q) (I : Env K P O T ρ σ H) (n : H p = none) (r : R (hz T O P.Z) (upd H p o) a b) : Q b (upd H p o) :=
  h b _ (I.new n) (ex_hid_new n) r
theorem Post.opt {R : List Addr → Hp → α → β → Prop} {o : Option α} {ρ : Rho} {Q : β → Hp → Prop} (h : Post K P R O T σ H (mOpt o ρ) Q) : ∃ a, o = some a ∧ Post K P R O T σ H (.ok a ρ) Q := by
  cases o with
  | none => exact (show False from h).elim
  | some a => exact ⟨a, rfl, h⟩
end
theorem _root_.Nv.Rep.b {K : PySem.W.Frag} {P : Pr} {hs : List Addr} {H : Hp} {d : D} {v : V} (h : Rep P.G K (hid hs H) d v) : RepB K P hs H d v := by
  cases d with
  | lst ds =>
    simp only [Rep] at h
    obtain ⟨a, vs, h1, h2, h3⟩ := h
    exact ⟨a, vs, h1, (hid_some h2).2, h3⟩
  | ins c ds =>
    simp only [Rep] at h
    obtain ⟨a, dx, vs, h1, h2, h3, h4⟩ := h
    exact ⟨a, dx, vs, h1, (hid_some h2).2, h3, h4⟩
  | _ => exact h
theorem RepB.rep {K : PySem.W.Frag} {P : Pr} {hs : List Addr} {H : Hp} {d : D} {v : V} (h : RepB K P hs H d v) : Rep P.G K H d v := by
  cases d with
  | lst ds =>
    obtain ⟨a, vs, h1, h2, h3⟩ := h
    simp only [Rep]
    exact ⟨a, vs, h1, h2, Reps.ex ex_unhid _ _ h3⟩
  | ins c ds =>
    obtain ⟨a, dx, vs, h1, h2, h3, h4⟩ := h
    simp only [Rep]
    exact ⟨a, dx, vs, h1, h2, h3, Reps.ex ex_unhid _ _ h4⟩
  | _ => exact Rep.ex (ex_unhid (Z := hs)) _ _ h
/-! ## the judgements, expressions first -/
abbrev DE (X : Cx) (P : Pr) (e : Expr) (f : M D) : Prop := PE X e (tE X.K P f)
abbrev DB (X : Cx) (P : Pr) (e : Expr) (f : M D) : Prop := PE X e (tEb X.K P f)
abbrev DF (X : Cx) (P : Pr) (e : Expr) (f : M (List D)) : Prop := PE X e (tF X.K P f)
abbrev DA (X : Cx) (P : Pr) (es : List Expr) (f : M (List D)) : Prop := PA X es (tAs X.K P f)
abbrev DT (X : Cx) (P : Pr) (e : Expr) (f : M Bool) : Prop := PT X e (tTs X.K P f)
abbrev DO (X : Cx) (P : Pr) (e : Option Expr) (f : M (Option Int)) : Prop := PO X e (tOs X.K P f)
theorem PE.imp {X : Cx} {e : Expr} {t t' : TE} (h : PE X e t) (k : ∀ σ H Q, t' σ H Q → t σ H Q) : PE X e t' := ⟨fun pins s σ H Q I q => h.run pins s σ H Q I (k σ H Q q)⟩
theorem PT.imp {X : Cx} {e : Expr} {t t' : TT} (h : PT X e t) (k : ∀ σ H Q, t' σ H Q → t σ H Q) : PT X e t' := ⟨fun pins s σ H Q I q => h.run pins s σ H Q I (k σ H Q q)⟩
theorem PW.imp {X : Cx} {e : Expr} {t t' : TT} (h : PW X e t) (k : ∀ σ H Q, t' σ H Q → t σ H Q) : PW X e t' := ⟨fun wh pins s σ H Q I q => h.run wh pins s σ H Q I (k σ H Q q)⟩
theorem PA.imp {X : Cx} {es : List Expr} {t t' : TA} (h : PA X es t) (k : ∀ σ H Q, t' σ H Q → t σ H Q) : PA X es t' := ⟨fun pos pins s σ H Q I q => h.run pos pins s σ H Q I (k σ H Q q)⟩
theorem PO.imp {X : Cx} {e : Option Expr} {t t' : TO} (h : PO X e t) (k : ∀ σ H Q, t' σ H Q → t σ H Q) : PO X e t' := ⟨fun pins s σ H Q I q => h.run pins s σ H Q I (k σ H Q q)⟩
theorem PS.imp {X : Cx} {st : Stmt} {t t' : TS} (h : PS X st t) (k : ∀ D σ H, t' D σ H → t D σ H) : PS X st t' := ⟨fun pins s σ H D I q => h.run pins s σ H D I (k D σ H q)⟩
theorem PSs.imp {X : Cx} {st : List Stmt} {t t' : TS} (h : PSs X st t) (k : ∀ D σ H, t' D σ H → t D σ H) : PSs X st t' := ⟨fun pins s σ H D I q => h.run pins s σ H D I (k D σ H q)⟩
section
variable {X : Cx} {P : Pr} {pos : Pos} {e a b c : Expr} {es : List Expr} {f g : M D}
/-- a value may be read as a borrowed one; a new list as any list -/
theorem dB_of (h : DE X P e f) : DB X P e f := PE.imp h fun σ H Q ⟨O, T, ρ, I, p⟩ => ⟨O, T, ρ, I, by
  cases hf : f ρ with
  | ok a ρ' => rw [hf] at p; exact fun b H' I' e' r => p b H' I' e' r.b
  | exc c d ρ' => rw [hf] at p; exact p
  | err => rw [hf] at p; exact p⟩
def mLst (m : M (List D)) : M D := mBind m fun ds => mRet (.lst ds)
theorem dE_of {f : M (List D)} (h : DF X P e f) : DE X P e (mLst f) := PE.imp h fun σ H Q ⟨O, T, ρ, I, p⟩ => ⟨O, T, ρ, I, Post.bind p fun ds ρ1 pv H1 I1 e1 r1 p1 => by
  obtain ⟨hq, r⟩ := r1
  refine p1.okn (b := .ref pv.1) (o := .lst pv.2) I1 hq ?_
  simp only [RE, Rep]
  exact ⟨pv.1, pv.2, rfl, by rw [hid_out (I1.fresh hq)]; exact upd_same, Reps.ex (ex_hid_new hq) ds _ r⟩⟩
/-- a slot -/
def mVar (i : Nat) : M D := fun ρ => match ρ[i]? with
  | some (.shr d) => .ok d ρ
  | _ => .err
theorem dE_var {i : Nat} {x : Str} (hN : X.N[i]? = some x) (hv : Vis X.env.scope x) (hd : (x == ("__debug__" : Str)) = false := by decide) (hcd : (x == ("__classdict__" : Str)) = false := by decide) : DE X P (.Name x pos) (mVar i) :=
  PE.imp (pe_var hN hv hd hcd) fun σ H Q ⟨O, T, ρ, I, p⟩ => by
    unfold mVar at p
    cases h : ρ[i]? with
    | none => rw [h] at p; exact (show False from p).elim
    | some s =>
      rw [h] at p
      cases s with
      | shr d =>
        obtain ⟨v, h1, h2⟩ := I.shr i d h
        exact ⟨v, h1, p.ok I h2⟩
      | no => exact (show False from p).elim
      | own d => exact (show False from p).elim
/-- a list of one's own, borrowed -/
def mOwn (i : Nat) : M D := fun ρ => match ρ[i]? with
  | some (.own d) => .ok d ρ
  | _ => .err
theorem OwnAt.rep {K : PySem.W.Frag} {P : Pr} {Z : List Addr} {H : Hp} {a : Addr} {d : D} (h : OwnAt P.G K Z H a d) : RepB K P Z H d (.ref a) := by
  cases d with
  | lst ds =>
    obtain ⟨vs, h1, h2⟩ := h
    exact ⟨a, vs, rfl, h1, h2⟩
  | ins c ds =>
    obtain ⟨dx, vs, h1, h3, h2⟩ := h
    exact ⟨a, dx, vs, rfl, h1, h3, h2⟩
  | _ => exact h.elim
theorem dB_own {i : Nat} {x : Str} (hN : X.N[i]? = some x) (hv : Vis X.env.scope x) (hd : (x == ("__debug__" : Str)) = false := by decide) (hcd : (x == ("__classdict__" : Str)) = false := by decide) : DB X P (.Name x pos) (mOwn i) :=
  PE.imp (pe_var hN hv hd hcd) fun σ H Q ⟨O, T, ρ, I, p⟩ => by
    unfold mOwn at p
    cases h : ρ[i]? with
    | none => rw [h] at p; exact (show False from p).elim
    | some s =>
      rw [h] at p
      cases s with
      | own d =>
        obtain ⟨a, h1, h2, h3⟩ := I.own i d h
        exact ⟨.ref a, h1, p.ok I h3.rep⟩
      | no => exact (show False from p).elim
      | shr d => exact (show False from p).elim
/-- constants -/
def V.isC : V → D → Prop
  | .non, d => d = .non
  | .bl b, d => d = .bl b
  | .int i, d => d = .int i
  | .str x, d => d = .str x
  | _, _ => False
theorem dE_c {v : V} {d : D} (h : PE X e (tC v)) (hv : ∀ H, Rep P.G X.K H d v) : DE X P e (mRet d) := PE.imp h fun σ H Q ⟨O, T, ρ, I, p⟩ => p.ok I (hv _)
theorem dE_int {i : Int} {j} : DE X P (.Constant (.int i) j pos) (mRet (.int i)) := dE_c pe_int fun _ => by simp only [Rep]
theorem dE_str {x : Str} {j} : DE X P (.Constant (.str x) j pos) (mRet (.str x)) := dE_c pe_str fun _ => by simp only [Rep]
theorem dE_bl {x : Bool} {j} : DE X P (.Constant (.bool x) j pos) (mRet (.bl x)) := dE_c pe_bl fun _ => by simp only [Rep]
theorem dE_non {j} : DE X P (.Constant .none j pos) (mRet .non) := dE_c pe_non fun _ => by simp only [Rep]
theorem dE_gint {x : Str} {i : Int} (hg : Gl X x) (hm : ∃ t, X.mg x = some (.int i t)) (hd : (x == ("__debug__" : Str)) = false := by decide) : DE X P (.Name x pos) (mRet (.int i)) := by
  obtain ⟨t, ht⟩ := hm
  exact dE_c (pe_glob (v := .int i) hg ht ⟨t, rfl⟩ hd) fun _ => by simp only [Rep]
theorem dE_gstr {x z : Str} (hg : Gl X x) (hm : ∃ t, X.mg x = some (.str z t)) (hd : (x == ("__debug__" : Str)) = false := by decide) : DE X P (.Name x pos) (mRet (.str z)) := by
  obtain ⟨t, ht⟩ := hm
  exact dE_c (pe_glob (v := .str z) hg ht ⟨t, rfl⟩ hd) fun _ => by simp only [Rep]
/-! ### two operands -/
/-- a rule by values does what op says -/
def OpOk (X : Cx) (P : Pr) (r : R2) (op : D → D → Option D) : Prop := ∀ (O : List Addr) (T : Tmp) (ρ : Rho) (σ : L2.St) (H : Hp) (x y : D) (v u : V) (z : D) (Q : VK), Env X.K P O T ρ σ H → Rep P.G X.K (hid (hz T O P.Z) H) x v → RepB X.K P (hz T O P.Z) H y u → op x y = some z →
  Post X.K P (RE X.K P) O T σ H (.ok z ρ) Q → r v u H Q
def mOp (op : D → D → Option D) (f g : M D) : M D := mBind f fun x => mBind g fun y => mOpt (op x y)
/-- the right one may be a borrowed one -/
theorem tOp_ok {r : R2} {op : D → D → Option D} (ho : OpOk X P r op) {σ : L2.St} {H : Hp} {Q : VK} (h : tE X.K P (mOp op f g) σ H Q) : tOp r (tE X.K P f) (tEb X.K P g) σ H Q := by
  obtain ⟨O, T, ρ, I, p⟩ := h
  refine ⟨O, T, ρ, I, Post.bind p fun x ρ1 v H1 I1 e1 r1 p1 => ⟨O, T, ρ1, I1, Post.bind p1 fun y ρ2 u H2 I2 e2 r2 p2 => ?_⟩⟩
  obtain ⟨z, hz, p3⟩ := p2.opt
  exact ho O T ρ2 σ H2 x y v u z Q I2 (Rep.ex e2 _ _ r1) r2 hz p3
theorem dE_op {o : Operator} {r : R2} {op : D → D → Option D} (hr : OpR X (binaryOp o) r) (ho : OpOk X P r op) (ha : DE X P a f) (hb : DB X P b g) : DE X P (.BinOp a o b pos) (mOp op f g) :=
  PE.imp (pe_op hr ha hb) fun _ _ _ h => tOp_ok ho h
theorem dE_cmp {o : CmpOp} {r : R2} {op : D → D → Option D} (hr : OpR X (compareOp o) r) (ho : OpOk X P r op) (ha : DE X P a f) (hb : DB X P b g) (hm : behindInMarks o b = false) : DE X P (.Compare a [o] [b] pos) (mOp op f g) :=
  PE.imp (pe_cmpR hr ha hb hm) fun _ _ _ h => tOp_ok ho h
/-- a bool of a value -/
def dBl : D → Option Bool
  | .bl b => some b
  | _ => none
def mBl (f : M D) : M Bool := mBind f fun d => mOpt (dBl d)
theorem tBl_ok {σ : L2.St} {H : Hp} {Q : Bool → Hp → Prop} (h : tTs X.K P (mBl f) σ H Q) : tTest (tE X.K P f) σ H Q := by
  obtain ⟨O, T, ρ, I, p⟩ := h
  refine ⟨O, T, ρ, I, Post.bind p fun x ρ1 v H1 I1 e1 r1 p1 => ?_⟩
  obtain ⟨b, hb, p2⟩ := p1.opt
  cases x with
  | bl c =>
    cases hb
    simp only [Rep] at r1
    exact ⟨b, r1, p2.ok I1 rfl⟩
  | _ => cases hb
theorem dT_cmp {o : CmpOp} {r : R2} {op : D → D → Option D} (hr : OpR X (compareOp o) r) (ho : OpOk X P r op) (ha : DE X P a f) (hb : DB X P b g) (hm : behindInMarks o b = false) : DT X P (.Compare a [o] [b] pos) (mBl (mOp op f g)) :=
  PT.imp (pt_cmpR hr ha hb hm) fun σ H Q h => by
    have := tBl_ok h
    obtain ⟨O, T, ρ, I, p⟩ := this
    exact tOp_ok ho ⟨O, T, ρ, I, p⟩
theorem dT_val (ha : DE X P e f) (he : ∀ whole, isTrue e X.env whole = (do let v ← whole; standAt e.pos; holding [v] (truthy v)) := by intro _; rfl) : DT X P e (mBl f) :=
  PT.imp (pt_val ha he) fun σ H Q h => tBl_ok h
def mAnd (f g : M Bool) : M Bool := mBind f fun x => if x then g else mRet false
def mOr (f g : M Bool) : M Bool := mBind f fun x => if x then mRet true else g
def mNot (f : M Bool) : M Bool := mBind f fun x => mRet (!x)
section
variable {ft gt : M Bool} {rest : List Expr}
theorem dW_and (ha : DT X P a ft) (hb : PW X (.BoolOp .And (b :: rest) pos) (tTs X.K P gt)) : PW X (.BoolOp .And (a :: b :: rest) pos) (tTs X.K P (mAnd ft gt)) :=
  PW.imp (pw_and ha hb) fun σ H Q ⟨O, T, ρ, I, p⟩ => ⟨O, T, ρ, I, Post.bind p fun x ρ1 v H1 I1 e1 r1 p1 => by
    subst r1
    cases x with
    | true => rw [if_pos rfl] at p1 ⊢; exact ⟨O, T, ρ1, I1, p1⟩
    | false => rw [if_neg (by decide)] at p1 ⊢; exact p1.ok I1 rfl⟩
theorem dW_or (ha : DT X P a ft) (hb : PW X (.BoolOp .Or (b :: rest) pos) (tTs X.K P gt)) : PW X (.BoolOp .Or (a :: b :: rest) pos) (tTs X.K P (mOr ft gt)) :=
  PW.imp (pw_or ha hb) fun σ H Q ⟨O, T, ρ, I, p⟩ => ⟨O, T, ρ, I, Post.bind p fun x ρ1 v H1 I1 e1 r1 p1 => by
    subst r1
    cases x with
    | true => rw [if_pos rfl] at p1 ⊢; exact p1.ok I1 rfl
    | false => rw [if_neg (by decide)] at p1 ⊢; exact ⟨O, T, ρ1, I1, p1⟩⟩
theorem dW_and1 (ha : DT X P a ft) : PW X (.BoolOp .And [a] pos) (tTs X.K P ft) := pw_and1 ha
theorem dW_or1 (ha : DT X P a ft) : PW X (.BoolOp .Or [a] pos) (tTs X.K P ft) := pw_or1 ha
theorem dT_not (ha : DT X P a ft) : DT X P (.UnaryOp .Not a pos) (mNot ft) :=
  PT.imp (pt_not ha) fun σ H Q ⟨O, T, ρ, I, p⟩ => ⟨O, T, ρ, I, Post.bind p fun x ρ1 v H1 I1 e1 r1 p1 => by subst r1; exact p1.ok I1 rfl⟩
end
/-- and, or, not as values -/
def mAndV (f g : M D) : M D := mBind (mBl f) fun x => if x then g else mRet (.bl false)
def mOrV (f g : M D) : M D := mBind (mBl f) fun x => if x then mRet (.bl true) else g
def mNotV (f : M D) : M D := mBind (mBl f) fun x => mRet (.bl !x)
theorem Post.bl {α β : Type} {K : PySem.W.Frag} {O : List Addr} {T : Tmp} {σ : L2.St} {H : Hp} {ρ : Rho} {R : List Addr → Hp → α → β → Prop} {Q : β → Hp → Prop} {k : Bool → M α} {Q1 : VK} (p : Post K P R O T σ H (mBind (mBl f) k ρ) Q)
    (h : ∀ b ρ1 H1, Env K P O T ρ1 σ H1 → Ex (hid (hz T O P.Z) H) (hid (hz T O P.Z) H1) → Post K P R O T σ H1 (k b ρ1) Q → Q1 (.bl b) H1) : Post K P (RE K P) O T σ H (f ρ) Q1 := by
  unfold mBl mBind at p
  cases hf : f ρ with
  | ok d ρ1 =>
    rw [hf] at p
    intro v H1 I1 e1 r1
    cases d with
    | bl b =>
      simp only [Rep] at r1
      subst r1
      exact h b ρ1 H1 I1 e1 (Post.step p e1)
    | _ => exact (show False from p).elim
  | exc c d ρ1 => rw [hf] at p; exact p
  | err => rw [hf] at p; exact p
section
variable {rest : List Expr}
theorem dE_and (ha : DE X P a f) (hb : DE X P (.BoolOp .And (b :: rest) pos) g) : DE X P (.BoolOp .And (a :: b :: rest) pos) (mAndV f g) :=
  PE.imp (pe_and ha hb) fun σ H Q ⟨O, T, ρ, I, p⟩ => ⟨O, T, ρ, I, Post.bl p fun x ρ1 H1 I1 e1 p1 => ⟨x, rfl, by
    cases x with
    | true => rw [if_pos rfl] at p1 ⊢; exact ⟨O, T, ρ1, I1, p1⟩
    | false => rw [if_neg (by decide)] at p1 ⊢; exact p1.ok I1 (by simp only [RE, Rep])⟩⟩
theorem dE_or (ha : DE X P a f) (hb : DE X P (.BoolOp .Or (b :: rest) pos) g) : DE X P (.BoolOp .Or (a :: b :: rest) pos) (mOrV f g) :=
  PE.imp (pe_or ha hb) fun σ H Q ⟨O, T, ρ, I, p⟩ => ⟨O, T, ρ, I, Post.bl p fun x ρ1 H1 I1 e1 p1 => ⟨x, rfl, by
    cases x with
    | true => rw [if_pos rfl] at p1 ⊢; exact p1.ok I1 (by simp only [RE, Rep])
    | false => rw [if_neg (by decide)] at p1 ⊢; exact ⟨O, T, ρ1, I1, p1⟩⟩⟩
theorem dE_one {op} (ha : DE X P a f) : DE X P (.BoolOp op [a] pos) f := pe_one ha
theorem dE_not (ha : DE X P a f) : DE X P (.UnaryOp .Not a pos) (mNotV f) :=
  PE.imp (pe_not ha) fun σ H Q ⟨O, T, ρ, I, p⟩ => ⟨O, T, ρ, I, Post.bl p fun x ρ1 H1 I1 e1 p1 => ⟨x, rfl, p1.ok I1 (by simp only [RE, Rep])⟩⟩
end
def mIf {α : Type} (t : M Bool) (f g : M α) : M α := mBind t fun x => if x then f else g
theorem dE_if {t : M Bool} (hc : DT X P c t) (ha : DE X P a f) (hb : DE X P b g) : DE X P (.IfExp c a b pos) (mIf t f g) :=
  PE.imp (pe_ifExp hc ha hb) fun σ H Q ⟨O, T, ρ, I, p⟩ => ⟨O, T, ρ, I, Post.bind p fun x ρ1 v H1 I1 e1 r1 p1 => by
    subst r1
    cases x with
    | true => rw [if_pos rfl] at p1 ⊢; exact ⟨O, T, ρ1, I1, p1⟩
    | false => rw [if_neg (by decide)] at p1 ⊢; exact ⟨O, T, ρ1, I1, p1⟩⟩
/-! ### lists of operands -/
def mCons (f : M D) (g : M (List D)) : M (List D) := mBind f fun x => mBind g fun xs => mRet (x :: xs)
theorem dA_nil : DA X P [] (mRet []) := PA.imp pa_nil fun σ H Q ⟨O, T, ρ, I, p⟩ => p.ok I .nil
theorem dA_cons {gs : M (List D)} (ha : DE X P e f) (hr : DA X P es gs) (hs : starEach (e :: es) X.env = (false, eval e X.env) :: starEach es X.env := by rfl) : DA X P (e :: es) (mCons f gs) :=
  PA.imp (pa_cons ha hr hs) fun σ H Q ⟨O, T, ρ, I, p⟩ => ⟨O, T, ρ, I, Post.bind p fun x ρ1 v H1 I1 e1 r1 p1 => ⟨O, T, ρ1, I1, Post.bind p1 fun xs ρ2 vs H2 I2 e2 r2 p2 =>
    p2.ok I2 (.cons (Rep.ex e2 _ _ r1) r2)⟩⟩
/-- one operand alone, borrowed -/
def tAb (K : PySem.W.Frag) (P : Pr) (f : M D) : TA := tM K P (fun hs H d vs => ∃ v, vs = [v] ∧ RepB K P hs H d v) f
theorem dA_b (ha : DB X P e f) (hs : starEach (e :: []) X.env = (false, eval e X.env) :: starEach [] X.env := by rfl) : PA X [e] (tAb X.K P f) :=
  PA.imp (pa_cons ha pa_nil hs) fun σ H Q ⟨O, T, ρ, I, p⟩ => ⟨O, T, ρ, I, by
    cases hf : f ρ with
    | ok d ρ' => rw [hf] at p; exact fun v H' I' e' r => p _ H' I' e' ⟨v, rfl, r⟩
    | exc c d ρ' => rw [hf] at p; exact p
    | err => rw [hf] at p; exact p⟩
/-- no more than so many -/
def fits (xs : List D) : Option (List D) := if xs.length ≤ 100000 then some xs else none
def mFit (m : M (List D)) : M (List D) := mBind m fun xs => mOpt (fits xs)
theorem fits_of {xs ys : List D} (h : fits xs = some ys) : ys = xs ∧ xs.length ≤ 100000 := by
  unfold fits at h
  split at h
  · cases h; exact ⟨rfl, by assumption⟩
  · cases h
def mTup (m : M (List D)) : M D := mBind (mFit m) fun xs => mRet (.tup xs)
theorem mBind_assoc {α β γ : Type} (m : M α) (g : α → M β) (h : β → M γ) (ρ : Rho) : mBind (mBind m g) h ρ = mBind m (fun a => mBind (g a) h) ρ := by
  unfold mBind Res.bind
  cases m ρ <;> rfl
theorem dE_tup {m : M (List D)} {x1} (h : DA X P es m) : DE X P (.Tuple es x1 pos) (mTup m) :=
  PE.imp (pe_tup h) fun σ H Q ⟨O, T, ρ, I, p⟩ => ⟨O, T, ρ, I, by
    unfold mTup mFit at p
    rw [mBind_assoc] at p
    exact Post.bind p fun xs ρ1 vs H1 I1 e1 r1 p1 => by
      unfold mBind at p1
      cases hx : fits xs with
      | none => rw [hx] at p1; exact (show False from p1).elim
      | some ys =>
        rw [hx] at p1
        obtain ⟨rfl, hl⟩ := fits_of hx
        refine ⟨Evl.sz_of (by rw [r1.len]; exact hl), fun q hq => p1.okn (o := .tup vs) I1 hq ?_⟩
        simp only [RE, Rep]
        exact ⟨q, vs, rfl, SqT.of (by rw [hid_out (I1.fresh hq)]; exact upd_same), Reps.ex (ex_hid_new hq) _ _ r1⟩⟩
theorem dF_lst {m : M (List D)} (h : DA X P es m) : DF X P (.List es pos) (mFit m) :=
  PE.imp (pe_lst h) fun σ H Q ⟨O, T, ρ, I, p⟩ => ⟨O, T, ρ, I, Post.bind p fun xs ρ1 vs H1 I1 e1 r1 p1 => by
    obtain ⟨ys, hx, p2⟩ := p1.opt
    obtain ⟨rfl, hl⟩ := fits_of hx
    exact ⟨Evl.sz_of (by rw [r1.len]; exact hl), fun q hq => p2.ok (b := (q, vs)) I1 ⟨hq, r1⟩⟩⟩
end
end Nv

namespace Nv
open PySem PySem.Spec PyProof.Rows L2
/-! ## operators on data -/
mutual
def D.py : D → PyData
  | .non => .none
  | .bl b => .bool b
  | .int i => .int i
  | .str x => .str x
  | .lst xs => .list (D.pyAll xs)
  | .tup xs => .tuple (D.pyAll xs)
  | .ins _ _ => .none
  | .scr _ => .none
def D.pyAll : List D → List PyData
  | [] => []
  | d :: ds => d.py :: D.pyAll ds
end
mutual
/-- without instances -/
def D.pure : D → Bool
  | .lst xs => D.pureAll xs
  | .tup xs => D.pureAll xs
  | .ins _ _ => false
  | .scr _ => false
  | _ => true
def D.pureAll : List D → Bool
  | [] => true
  | d :: ds => d.pure && D.pureAll ds
end
section
variable {G : CT} {K : PySem.W.Frag} {H : Hp}
mutual
theorem Rep.dp : ∀ (d : D) (v : V), d.pure = true → Rep G K H d v → Dp K H v d.py
  | .non, v, _, h => by simp only [Rep] at h; subst h; simp only [D.py]; exact .non
  | .bl b, v, _, h => by simp only [Rep] at h; subst h; simp only [D.py]; exact .bl b
  | .int i, v, _, h => by simp only [Rep] at h; subst h; simp only [D.py]; exact .int i
  | .str x, v, _, h => by simp only [Rep] at h; subst h; simp only [D.py]; exact .str x
  | .lst ds, v, hp, h => by
    simp only [Rep] at h
    obtain ⟨a, vs, rfl, h2, h3⟩ := h
    simp only [D.py]
    exact .lst (SqL.of h2) (Reps.dp ds vs (by simpa only [D.pure] using hp) h3)
  | .tup ds, v, hp, h => by
    simp only [Rep] at h
    obtain ⟨a, vs, rfl, h2, h3⟩ := h
    simp only [D.py]
    exact .tup h2 (Reps.dp ds vs (by simpa only [D.pure] using hp) h3)
  | .ins _ _, v, hp, h => by simp [D.pure] at hp
  | .scr _, v, hp, h => by simp [D.pure] at hp
theorem Reps.dp : ∀ (ds : List D) (vs : List V), D.pureAll ds = true → Reps G K H ds vs → DpAll K H vs (D.pyAll ds)
  | [], vs, _, h => by simp only [Reps] at h; subst h; simp only [D.pyAll]; exact .nil
  | d :: ds, vs, hp, h => by
    simp only [Reps] at h
    obtain ⟨v, ws, rfl, h2, h3⟩ := h
    simp only [D.pureAll, Bool.and_eq_true] at hp
    simp only [D.pyAll]
    exact .cons (Rep.dp d v hp.1 h2) (Reps.dp ds ws hp.2 h3)
end
end
/-- may be compared as a whole -/
def D.eqOk (d : D) : Bool := d.pure && SeqAt.shaped d.py
def dEqB : D → D → Option Bool
  | .non, .non => some true
  | .int i, .int j => some (decide (i = j))
  | .bl a, .bl b => some (decide (a = b))
  | .str x, .str y => some (decide (x = y))
  | a, b => if a.eqOk && b.eqOk then some (PyData.eqv a.py b.py) else none
def dEq (a b : D) : Option D := (dEqB a b).map .bl
def dNe (a b : D) : Option D := (dEqB a b).map fun c => .bl (!c)
def mulFits (i j : Int) : Bool := decide (i.natAbs.log2 + j.natAbs.log2 < 100000000)
theorem mulFits.ok {i j : Int} (h : mulFits i j = true) : IntMulOk i j := by
  have b : ∀ x : Int, Builtin.Int.intBits x ≤ x.natAbs.log2 + 1 := fun x => by
    unfold Builtin.Int.intBits
    split <;> omega
  have h1 := b i
  have h2 := b j
  have h3 : i.natAbs.log2 + j.natAbs.log2 < 100000000 := of_decide_eq_true h
  have e : bitsLine = 134217728 := by decide
  unfold IntMulOk
  intro z
  rw [Bool.and_eq_true] at z
  have z2 := z.2
  unfold Builtin.Int.intTooBig at z2
  have z3 := of_decide_eq_true z2
  rw [e] at z3
  omega
def dAdd : D → D → Option D
  | .int i, .int j => some (.int (i + j))
  | .str x, .str y => if x.length + y.length ≤ 100000 then some (.str (x ++ y)) else none
  | .tup xs, .tup ys => if xs.length + ys.length ≤ 100000 then some (.tup (xs ++ ys)) else none
  | .lst xs, .lst ys => if xs.length + ys.length ≤ 100000 then some (.lst (xs ++ ys)) else none
  | _, _ => none
def dSub : D → D → Option D
  | .int i, .int j => some (.int (i - j))
  | _, _ => none
def dMul : D → D → Option D
  | .int i, .int j => if mulFits i j then some (.int (i * j)) else none
  | .lst xs, .int k => if -1000 ≤ k ∧ k ≤ 1000 ∧ xs.length * k.toNat ≤ 100000 then some (.lst (List.replicate k.toNat xs).flatten) else none
  | _, _ => none
def dMod : D → D → Option D
  | .int i, .int j => if 0 < j then some (.int (i % j)) else none
  | _, _ => none
def dDiv : D → D → Option D
  | .int i, .int j => if 0 < j ∧ j < 1073741824 then some (.int (i / j)) else none
  | _, _ => none
def dPow : D → D → Option D
  | .int i, .int j => if 0 ≤ j ∧ j ≤ 1000 ∧ i.natAbs < 2 ^ 64 then some (.int (i ^ j.toNat)) else none
  | _, _ => none
def dLt : D → D → Option D
  | .int i, .int j => some (.bl (decide (i < j)))
  | .str x, .str y => some (.bl (decide (x.cps.toList < y.cps.toList)))
  | _, _ => none
def dLe : D → D → Option D
  | .int i, .int j => some (.bl (decide (i ≤ j)))
  | _, _ => none
def dGt : D → D → Option D
  | .int i, .int j => some (.bl (decide (j < i)))
  | _, _ => none
def dGe : D → D → Option D
  | .int i, .int j => some (.bl (decide (j ≤ i)))
  | _, _ => none
def dIsN : D → D → Option D
  | .non, .non => some (.bl true)
  | _, .non => some (.bl false)
  | _, _ => none
def dNotN : D → D → Option D
  | .non, .non => some (.bl false)
  | _, .non => some (.bl true)
  | _, _ => none
/-- x in y, with what is asked of the answer -/
def dInB : D → D → Option Bool
  | .str x, .str y => some (!(Builtin.Str.occurrences y x 0 y.length 1).isEmpty)
  | x, .lst ys => if x.eqOk && (D.lst ys).eqOk then some (ys.any fun z => PyData.eqv z.py x.py) else none
  | x, .tup ys => if x.eqOk && (D.tup ys).eqOk then some (ys.any fun z => PyData.eqv z.py x.py) else none
  | _, _ => none
def dIn (a b : D) : Option D := (dInB a b).map .bl
def dNotIn (a b : D) : Option D := (dInB a b).map fun c => .bl (!c)
section
variable {X : Cx} {P : Pr}
theorem Post.int {O : List Addr} {T : Tmp} {σ : L2.St} {H : Hp} {ρ : Rho} {i : Int} {Q : VK} (h : Post X.K P (RE X.K P) O T σ H (.ok (.int i) ρ) Q) (I : Env X.K P O T ρ σ H) : Q (.int i) H := h.ok I (by simp only [RE, Rep])
theorem Post.bool {O : List Addr} {T : Tmp} {σ : L2.St} {H : Hp} {ρ : Rho} {i : Bool} {Q : VK} (h : Post X.K P (RE X.K P) O T σ H (.ok (.bl i) ρ) Q) (I : Env X.K P O T ρ σ H) : Q (.bl i) H := h.ok I (by simp only [RE, Rep])
theorem Post.txt {O : List Addr} {T : Tmp} {σ : L2.St} {H : Hp} {ρ : Rho} {i : Str} {Q : VK} (h : Post X.K P (RE X.K P) O T σ H (.ok (.str i) ρ) Q) (I : Env X.K P O T ρ σ H) : Q (.str i) H := h.ok I (by simp only [RE, Rep])
theorem Post.non {O : List Addr} {T : Tmp} {σ : L2.St} {H : Hp} {ρ : Rho} {Q : VK} (h : Post X.K P (RE X.K P) O T σ H (.ok .non ρ) Q) (I : Env X.K P O T ρ σ H) : Q .non H := h.ok I (by simp only [RE, Rep])
theorem Post.lst {O : List Addr} {T : Tmp} {σ : L2.St} {H : Hp} {ρ : Rho} {ds : List D} {vs : List V} {p : Addr} {Q : VK} (h : Post X.K P (RE X.K P) O T σ H (.ok (.lst ds) ρ) Q) (I : Env X.K P O T ρ σ H) (hp : H p = none) (r : Reps P.G X.K (hid (hz T O P.Z) H) ds vs) :
    Q (.ref p) (upd H p (.lst vs)) := h.okn I hp (by
  simp only [RE, Rep]
  exact ⟨p, vs, rfl, by rw [hid_out (I.fresh hp)]; exact upd_same, Reps.ex (ex_hid_new hp) _ _ r⟩)
theorem Post.tup {O : List Addr} {T : Tmp} {σ : L2.St} {H : Hp} {ρ : Rho} {ds : List D} {vs : List V} {p : Addr} {Q : VK} (h : Post X.K P (RE X.K P) O T σ H (.ok (.tup ds) ρ) Q) (I : Env X.K P O T ρ σ H) (hp : H p = none) (r : Reps P.G X.K (hid (hz T O P.Z) H) ds vs) :
    Q (.ref p) (upd H p (.tup vs)) := h.okn I hp (by
  simp only [RE, Rep]
  exact ⟨p, vs, rfl, SqT.of (by rw [hid_out (I.fresh hp)]; exact upd_same), Reps.ex (ex_hid_new hp) _ _ r⟩)
/-! ### the rules -/
def rMulB : R2 := fun x y H Q => rI IntMulOk (fun i j => .int (i * j)) x y H Q ∨ rRep x y H Q
theorem op_mulB : OpR X (binaryOp .Mult) rMulB := OpR.or (opI fun _ _ _ _ _ _ _ hc q => mul_int q hc) op_rep
def rAddB (K : PySem.W.Frag) : R2 := fun x y H Q => ((rI0 (fun i j => .int (i + j)) x y H Q ∨ ∃ i j, x = .str i ∧ y = .str j ∧ i.length + j.length ≤ sizeLine ∧ Q (.str (i ++ j)) H) ∨ rCatA K x y H Q) ∨ rCat x y H Q
theorem op_addB : OpR X (binaryOp .Add) (rAddB X.K) := ((op_add.or op_add_str).or op_catA).or op_cat
theorem ite_some {α : Type} {c : Prop} [Decidable c] {a z : α} (h : (if c then some a else none) = some z) : c ∧ a = z := by
  split at h
  · cases h; exact ⟨by assumption, rfl⟩
  · cases h
theorem ite_some' {α : Type} {c : Prop} [Decidable c] {a : Option α} {z : α} (h : (if c then none else a) = some z) : ¬ c ∧ a = some z := by
  split at h
  · cases h
  · exact ⟨by assumption, h⟩
theorem flat_rep {G : CT} {K : PySem.W.Frag} {H : Hp} {ds : List D} {vs : List V} (h : Reps G K H ds vs) (n : Nat) : Reps G K H (List.replicate n ds).flatten (List.replicate n vs).flatten := by
  induction n with
  | zero => simp [Reps]
  | succ n ih => simp only [List.replicate_succ, List.flatten_cons]; exact .app h ih
theorem ok_sub : OpOk X P (rI0 fun i j => .int (i - j)) dSub := by
  intro O T ρ σ H x y v u z Q I rx ry hz p
  cases x <;> cases y <;> first | (cases hz; done) | skip
  simp only [RepB, Rep] at rx ry
  cases hz
  exact ⟨_, _, rx, ry, p.int I⟩
theorem ok_mod : OpOk X P (rI (fun _ j => 0 < j) fun i j => .int (i % j)) dMod := by
  intro O T ρ σ H x y v u z Q I rx ry hz p
  cases x <;> cases y <;> first | (cases hz; done) | skip
  simp only [RepB, Rep] at rx ry
  obtain ⟨h, rfl⟩ := ite_some hz
  exact ⟨_, _, rx, ry, h, p.int I⟩
theorem ok_div : OpOk X P (rI CDiv fun i j => .int (i / j)) dDiv := by
  intro O T ρ σ H x y v u z Q I rx ry hz p
  cases x <;> cases y <;> first | (cases hz; done) | skip
  simp only [RepB, Rep] at rx ry
  obtain ⟨h, rfl⟩ := ite_some hz
  exact ⟨_, _, rx, ry, h, p.int I⟩
theorem ok_pow : OpOk X P (rI CPow fun i j => .int (i ^ j.toNat)) dPow := by
  intro O T ρ σ H x y v u z Q I rx ry hz p
  cases x <;> cases y <;> first | (cases hz; done) | skip
  simp only [RepB, Rep] at rx ry
  obtain ⟨h, rfl⟩ := ite_some hz
  exact ⟨_, _, rx, ry, ⟨h.1, by omega, h.2.2⟩, p.int I⟩
theorem ok_mul : OpOk X P rMulB dMul := by
  intro O T ρ σ H x y v u z Q I rx ry hz p
  cases x <;> cases y <;> first | (cases hz; done) | skip
  · simp only [RepB, Rep] at rx ry
    obtain ⟨h, rfl⟩ := ite_some hz
    exact .inl ⟨_, _, rx, ry, mulFits.ok h, p.int I⟩
  · simp only [RepB, Rep] at rx ry
    obtain ⟨a, vs, rfl, h1, h2⟩ := rx
    have h1' := (hid_some h1).2
    obtain ⟨h, rfl⟩ := ite_some hz
    exact .inr ⟨a, _, vs, rfl, ry, h1', by omega, by omega, by rw [h2.len]; exact Evl.sz_of h.2.2, fun q hq => p.lst I hq (flat_rep h2 _)⟩
theorem ok_add : OpOk X P (rAddB X.K) dAdd := by
  intro O T ρ σ H x y v u z Q I rx ry hz p
  cases x <;> cases y <;> first | (cases hz; done) | skip
  · simp only [RepB, Rep] at rx ry
    cases hz
    exact .inl (.inl (.inl ⟨_, _, rx, ry, p.int I⟩))
  · simp only [RepB, Rep] at rx ry
    obtain ⟨h, rfl⟩ := ite_some hz
    exact .inl (.inl (.inr ⟨_, _, rx, ry, Evl.sz_of h, p.txt I⟩))
  · simp only [RepB, Rep] at rx ry
    obtain ⟨a, vs, rfl, h1, h2⟩ := rx
    obtain ⟨b, ws, rfl, h3, h4⟩ := ry
    have h1' := (hid_some h1).2
    obtain ⟨h, rfl⟩ := ite_some hz
    exact .inr ⟨a, b, vs, ws, rfl, rfl, h1', h3, by rw [h2.len, h4.len]; exact Evl.sz_of h, fun q hq => p.lst I hq (.app h2 h4)⟩
  · rename_i xs ys
    simp only [RepB, Rep] at rx ry
    obtain ⟨a, vs, rfl, h1, h2⟩ := rx
    obtain ⟨b, ws, rfl, h3, h4⟩ := ry
    obtain ⟨h, rfl⟩ := ite_some hz
    refine .inl (.inr ⟨a, b, vs, ws, rfl, rfl, Evl.ex_t ex_unhid h1, Evl.ex_t ex_unhid h3, by rw [h2.len, h4.len]; exact Evl.sz_of h, fun hv => ?_, fun hv hw => ?_, fun _ _ q hq => p.tup I hq (.app h2 h4)⟩)
    · subst hv
      have := h2.len
      cases xs with
      | nil =>
        rw [List.nil_append] at p
        exact p.ok I (by simp only [RE, Rep]; exact ⟨b, ws, rfl, h3, h4⟩)
      | cons _ _ => simp at this
    · subst hw
      have := h4.len
      cases ys with
      | nil =>
        rw [List.append_nil] at p
        exact p.ok I (by simp only [RE, Rep]; exact ⟨a, vs, rfl, h1, h2⟩)
      | cons _ _ => simp at this
/-! comparisons of order -/
def rLtB : R2 := fun x y H Q => rI0 (fun i j => .bl (decide (i < j))) x y H Q ∨ ∃ i j, x = .str i ∧ y = .str j ∧ Q (.bl (decide (i.cps.toList < j.cps.toList))) H
theorem op_ltB : OpR X (compareOp .Lt) rLtB := op_lt.or op_lt_str
theorem ok_lt : OpOk X P rLtB dLt := by
  intro O T ρ σ H x y v u z Q I rx ry hz p
  cases x <;> cases y <;> first | (cases hz; done) | skip
  all_goals (simp only [RepB, Rep] at rx ry; cases hz)
  · exact .inl ⟨_, _, rx, ry, p.bool I⟩
  · exact .inr ⟨_, _, rx, ry, p.bool I⟩
theorem ok_le : OpOk X P (rI0 fun i j => .bl (decide (i ≤ j))) dLe := by
  intro O T ρ σ H x y v u z Q I rx ry hz p
  cases x <;> cases y <;> first | (cases hz; done) | skip
  simp only [RepB, Rep] at rx ry; cases hz
  exact ⟨_, _, rx, ry, p.bool I⟩
theorem ok_gt : OpOk X P (rI0 fun i j => .bl (decide (j < i))) dGt := by
  intro O T ρ σ H x y v u z Q I rx ry hz p
  cases x <;> cases y <;> first | (cases hz; done) | skip
  simp only [RepB, Rep] at rx ry; cases hz
  exact ⟨_, _, rx, ry, p.bool I⟩
theorem ok_ge : OpOk X P (rI0 fun i j => .bl (decide (j ≤ i))) dGe := by
  intro O T ρ σ H x y v u z Q I rx ry hz p
  cases x <;> cases y <;> first | (cases hz; done) | skip
  simp only [RepB, Rep] at rx ry; cases hz
  exact ⟨_, _, rx, ry, p.bool I⟩
theorem ok_isN : OpOk X P (fun x y H Q => y = .non ∧ Q (.bl (decide (x = .non))) H) dIsN := by
  intro O T ρ σ H x y v u z Q I rx ry hz p
  cases y <;> cases x <;> first | (cases hz; done) | skip
  all_goals (simp only [RepB, Rep] at rx ry; cases hz; refine ⟨ry, ?_⟩)
  all_goals first | (subst rx) | (obtain ⟨a, dx, vs, rfl, _⟩ := rx) | (obtain ⟨a, vs, rfl, _⟩ := rx) | (obtain ⟨a, rfl, _⟩ := rx)
  all_goals exact p.bool I
theorem ok_notN : OpOk X P (fun x y H Q => y = .non ∧ Q (.bl (!decide (x = .non))) H) dNotN := by
  intro O T ρ σ H x y v u z Q I rx ry hz p
  cases y <;> cases x <;> first | (cases hz; done) | skip
  all_goals (simp only [RepB, Rep] at rx ry; cases hz; refine ⟨ry, ?_⟩)
  all_goals first | (subst rx) | (obtain ⟨a, dx, vs, rfl, _⟩ := rx) | (obtain ⟨a, vs, rfl, _⟩ := rx) | (obtain ⟨a, rfl, _⟩ := rx)
  all_goals exact p.bool I
/-! equality -/
def rEqB (K : PySem.W.Frag) : R2 := fun x y H Q => rEq x y H Q ∨ rEqD K x y H Q
def rNeB (K : PySem.W.Frag) : R2 := fun x y H Q => rNe x y H Q ∨ rNeD K x y H Q
theorem op_eqB (hu : X.A.units + 64 < cLine) : OpR X (compareOp .Eq) (rEqB X.K) := op_eq.or (op_eqD hu)
theorem op_neB (hu : X.A.units + 64 < cLine) : OpR X (compareOp .NotEq) (rNeB X.K) := op_ne.or (op_neD hu)
/-- what dEqB says of two values -/
theorem eqB_cases {x y : D} {b : Bool} (h : dEqB x y = some b) : (∃ v u, scal v u = true ∧ decide (v = u) = b ∧ ∀ (G : CT) (K : PySem.W.Frag) (H : Hp) (v' u' : V), (Rep G K H x v' → v' = v) ∧ (Rep G K H y u' → u' = u)) ∨ (x.eqOk = true ∧ y.eqOk = true ∧ PyData.eqv x.py y.py = b) := by
  unfold dEqB at h
  split at h
  · cases h; exact .inl ⟨.non, .non, rfl, rfl, fun _ _ _ _ _ => by simp only [Rep]; exact ⟨id, id⟩⟩
  · rename_i i j
    cases h; exact .inl ⟨.int i, .int j, rfl, by simp, fun _ _ _ _ _ => by simp only [Rep]; exact ⟨id, id⟩⟩
  · rename_i i j
    cases h; exact .inl ⟨.bl i, .bl j, rfl, by simp, fun _ _ _ _ _ => by simp only [Rep]; exact ⟨id, id⟩⟩
  · rename_i i j
    cases h; exact .inl ⟨.str i, .str j, rfl, by simp, fun _ _ _ _ _ => by simp only [Rep]; exact ⟨id, id⟩⟩
  · obtain ⟨h1, h2⟩ := ite_some h
    rw [Bool.and_eq_true] at h1
    exact .inr ⟨h1.1, h1.2, h2⟩
theorem eqOk_pure {d : D} (h : d.eqOk = true) : d.pure = true ∧ SeqAt.shaped d.py = true := by
  unfold D.eqOk at h
  rw [Bool.and_eq_true] at h
  exact h
theorem ok_eq : OpOk X P (rEqB X.K) dEq := by
  intro O T ρ σ H x y v u z Q I rx ry hz p
  unfold dEq at hz
  obtain ⟨b, hb, rfl⟩ := Option.map_eq_some_iff.mp hz
  rcases eqB_cases hb with ⟨v', u', h1, h2, h3⟩ | ⟨h1, h2, h3⟩
  · obtain rfl := (h3 P.G X.K _ v u).1 rx
    obtain rfl := (h3 P.G X.K _ v u).2 ry.rep
    exact .inl ⟨h1, by rw [h2]; exact p.bool I⟩
  · exact .inr ⟨x.py, y.py, Rep.dp _ _ (eqOk_pure h1).1 (Rep.ex ex_unhid _ _ rx), Rep.dp _ _ (eqOk_pure h2).1 ry.rep, (eqOk_pure h1).2, (eqOk_pure h2).2, by rw [h3]; exact p.bool I⟩
theorem ok_ne : OpOk X P (rNeB X.K) dNe := by
  intro O T ρ σ H x y v u z Q I rx ry hz p
  unfold dNe at hz
  obtain ⟨b, hb, rfl⟩ := Option.map_eq_some_iff.mp hz
  rcases eqB_cases hb with ⟨v', u', h1, h2, h3⟩ | ⟨h1, h2, h3⟩
  · obtain rfl := (h3 P.G X.K _ v u).1 rx
    obtain rfl := (h3 P.G X.K _ v u).2 ry.rep
    exact .inl ⟨h1, by rw [h2]; exact p.bool I⟩
  · exact .inr ⟨x.py, y.py, Rep.dp _ _ (eqOk_pure h1).1 (Rep.ex ex_unhid _ _ rx), Rep.dp _ _ (eqOk_pure h2).1 ry.rep, (eqOk_pure h1).2, (eqOk_pure h2).2, by rw [h3]; exact p.bool I⟩
end
end Nv

namespace Nv
open PySem PySem.Spec PyProof.Rows L2
section
variable {X : Cx} {P : Pr}
/-! ### in -/
def rInB (K : PySem.W.Frag) (neg : Bool) : R2 := fun x y H Q => (∃ i j, x = .str i ∧ y = .str j ∧ Q (.bl (if neg then !(!(Builtin.Str.occurrences j i 0 j.length 1).isEmpty) else !(Builtin.Str.occurrences j i 0 j.length 1).isEmpty)) H) ∨
  ∃ d ds, Dp K H x d ∧ (Dp K H y (.list ds) ∨ Dp K H y (.tuple ds)) ∧ SeqAt.shaped d = true ∧ PyData.canLayAll0 ds = true ∧ Q (.bl (if neg then !(ds.any fun z => PyData.eqv z d) else ds.any fun z => PyData.eqv z d)) H
theorem op_inDB (hu : X.A.units + 65 < cLine) : OpR X (compareOp .In) (rInB X.K false) := by
  intro pins s σ H x y v u Q I rx ry h
  rcases h with h | ⟨d, ds, hd, he, sd, se, q⟩
  · exact op_in_str pins s σ H x y v u Q I rx ry h
  · obtain ⟨as, r1⟩ := Dp.reads I d x v hd rx
    rcases he with he | he
    · obtain ⟨bs, r2⟩ := Dp.reads I (.list ds) y u he ry
      exact SeqAt.in_list_reads r2 r1 se (SeqAt.canLay_of_shaped sd) (room_in_shaped sd hu) ⟨.bl _, H, I, rfl, q⟩
    · obtain ⟨bs, r2⟩ := Dp.reads I (.tuple ds) y u he ry
      exact SeqAt.in_tuple_reads r2 r1 se (SeqAt.canLay_of_shaped sd) (room_in_shaped sd hu) ⟨.bl _, H, I, rfl, q⟩
theorem op_notInDB (hu : X.A.units + 65 < cLine) : OpR X (compareOp .NotIn) (rInB X.K true) := by
  intro pins s σ H x y v u Q I rx ry h
  rcases h with h | ⟨d, ds, hd, he, sd, se, q⟩
  · exact op_notin_str pins s σ H x y v u Q I rx ry h
  · obtain ⟨as, r1⟩ := Dp.reads I d x v hd rx
    rcases he with he | he
    · obtain ⟨bs, r2⟩ := Dp.reads I (.list ds) y u he ry
      exact SeqAt.notIn_list_reads r2 r1 se (SeqAt.canLay_of_shaped sd) (room_in_shaped sd hu) ⟨.bl _, H, I, rfl, q⟩
    · obtain ⟨bs, r2⟩ := Dp.reads I (.tuple ds) y u he ry
      exact SeqAt.notIn_tuple_reads r2 r1 se (SeqAt.canLay_of_shaped sd) (room_in_shaped sd hu) ⟨.bl _, H, I, rfl, q⟩
theorem any_pyAll (p : PyData → Bool) : ∀ ys : List D, (D.pyAll ys).any p = ys.any fun z => p z.py
  | [] => rfl
  | y :: ys => by simp only [D.pyAll, List.any_cons, any_pyAll p ys]
theorem inB_cases {x y : D} {b : Bool} (h : dInB x y = some b) : (∃ i j, x = .str i ∧ y = .str j ∧ b = !(Builtin.Str.occurrences j i 0 j.length 1).isEmpty) ∨
    (x.eqOk = true ∧ y.eqOk = true ∧ ∃ ys, (y = .lst ys ∨ y = .tup ys) ∧ b = (D.pyAll ys).any fun z => PyData.eqv z x.py) := by
  unfold dInB at h
  split at h
  · cases h; exact .inl ⟨_, _, rfl, rfl, rfl⟩
  · obtain ⟨h1, rfl⟩ := ite_some h
    rw [Bool.and_eq_true] at h1
    exact .inr ⟨h1.1, h1.2, _, .inl rfl, (any_pyAll (fun z => PyData.eqv z x.py) _).symm⟩
  · obtain ⟨h1, rfl⟩ := ite_some h
    rw [Bool.and_eq_true] at h1
    exact .inr ⟨h1.1, h1.2, _, .inr rfl, (any_pyAll (fun z => PyData.eqv z x.py) _).symm⟩
  · cases h
theorem ok_inN (neg : Bool) : OpOk X P (rInB X.K neg) (if neg then dNotIn else dIn) := by
  intro O T ρ σ H x y v u z Q I rx ry hz p
  have hz' : ∃ b, dInB x y = some b ∧ z = .bl (if neg then !b else b) := by
    cases neg
    · obtain ⟨b, hb, e⟩ := Option.map_eq_some_iff.mp (show (dInB x y).map .bl = some z from hz)
      exact ⟨b, hb, e.symm⟩
    · obtain ⟨b, hb, e⟩ := Option.map_eq_some_iff.mp (show (dInB x y).map (fun c => D.bl (!c)) = some z from hz)
      exact ⟨b, hb, e.symm⟩
  obtain ⟨b, hb, rfl⟩ := hz'
  rcases inB_cases hb with ⟨i, j, rfl, rfl, rfl⟩ | ⟨h1, h2, ys, hy, rfl⟩
  · simp only [RepB, Rep] at rx ry
    exact .inl ⟨i, j, rx, ry, by cases neg <;> exact p.bool I⟩
  · refine .inr ⟨x.py, D.pyAll ys, Rep.dp _ _ (eqOk_pure h1).1 (Rep.ex ex_unhid _ _ rx), ?_, (eqOk_pure h1).2, ?_, p.bool I⟩
    · rcases hy with rfl | rfl
      · have := Rep.dp _ _ (eqOk_pure h2).1 ry.rep
        simp only [D.py] at this
        exact .inl this
      · have := Rep.dp _ _ (eqOk_pure h2).1 ry.rep
        simp only [D.py] at this
        exact .inr this
    · have := SeqAt.canLay_of_shaped (eqOk_pure h2).2
      rcases hy with rfl | rfl
      · simpa only [D.py, PyData.canLay0] using this
      · simpa only [D.py, PyData.canLay0] using this
theorem ok_in : OpOk X P (rInB X.K false) dIn := ok_inN false
theorem ok_notIn : OpOk X P (rInB X.K true) dNotIn := ok_inN true
/-! ### places -/
def chr1 (c : Nat) : Str := ⟨#[c]⟩
def dIx : D → D → Option D
  | .lst xs, .int i => atI xs i
  | .tup xs, .int i => atI xs i
  | .str x, .int i => if x.length ≤ 100000 then (atI x.cps.toList i).map fun c => .str (chr1 c) else none
  | .scr ns, .int i => (atI ns i).map .int
  | _, _ => none
theorem Reps.at {G : CT} {K : PySem.W.Frag} {H : Hp} {ds : List D} {vs : List V} {i : Int} {d : D} (h : Reps G K H ds vs) (e : atI ds i = some d) : ∃ v, atI vs i = some v ∧ Rep G K H d v := by
  unfold atI at e ⊢
  rw [h.len]
  cases q : ixN ds.length i with
  | none => rw [q] at e; cases e
  | some j =>
    rw [q] at e
    obtain ⟨v, h1, h2⟩ := h.get (show ds[j]? = some d from e)
    exact ⟨v, h1, h2⟩
theorem atI_map {α β : Type} (f : α → β) (xs : List α) (i : Int) : atI (xs.map f) i = (atI xs i).map f := by
  unfold atI
  rw [List.length_map]
  cases ixN xs.length i with
  | none => rfl
  | some j => simp
theorem ite_some2 {α : Type} {c : Prop} [Decidable c] {a : Option α} {z : α} (h : (if c then a else none) = some z) : c ∧ a = some z := by
  split at h
  · exact ⟨by assumption, h⟩
  · cases h
/-- the value at a place, read off where x stands -/
theorem ok_ix {O : List Addr} {T : Tmp} {ρ : Rho} {σ : L2.St} {H : Hp} {x y : D} {v u : V} {z : D} {Q : VK} (I : Env X.K P O T ρ σ H) (rx : RepB X.K P (hz T O P.Z) H x v) (ry : Rep P.G X.K (hid (hz T O P.Z) H) y u) (hz : dIx x y = some z)
    (p : Post X.K P (RE X.K P) O T σ H (.ok z ρ) Q) : rIx X.K v u H Q := by
  cases x <;> cases y <;> first | (cases hz; done) | skip
  · simp only [RepB, Rep] at rx ry
    obtain ⟨h, hz⟩ := ite_some2 hz
    obtain ⟨c, hc, rfl⟩ := Option.map_eq_some_iff.mp hz
    exact .inr (.inr ⟨_, _, c, rx, ry, Evl.sz_of h, hc, p.txt I⟩)
  · simp only [RepB, Rep] at rx ry
    obtain ⟨a, vs, rfl, h1, h2⟩ := rx
    obtain ⟨w, h3, h4⟩ := h2.at hz
    exact .inl ⟨a, vs, _, w, rfl, ry, SqL.of h1, h3, p.ok I h4⟩
  · simp only [RepB, Rep] at rx ry
    obtain ⟨a, vs, rfl, h1, h2⟩ := rx
    obtain ⟨w, h3, h4⟩ := h2.at hz
    exact .inr (.inl ⟨a, vs, _, w, rfl, ry, Evl.ex_t ex_unhid h1, h3, p.ok I h4⟩)
  · simp only [RepB, Rep] at rx ry
    obtain ⟨a, rfl, h1⟩ := rx
    obtain ⟨n, hn, rfl⟩ := Option.map_eq_some_iff.mp hz
    exact .inl ⟨a, _, _, .int n, rfl, ry, Evl.ex_l ex_unhid h1, by rw [atI_map, hn]; rfl, p.int I⟩
variable {pos : Pos} {e a b c : Expr} {es : List Expr} {f g : M D}
theorem dE_ix (ha : DE X P a f) (hb : DE X P b g) (hs : PlainIx b) : DE X P (.Subscript a b pos) (mOp dIx f g) :=
  PE.imp (pe_ix ix_seq ha hb hs) fun σ H Q ⟨O, T, ρ, I, p⟩ =>
    ⟨O, T, ρ, I, Post.bind p fun x ρ1 v H1 I1 e1 r1 p1 => ⟨O, T, ρ1, I1, Post.bind p1 fun y ρ2 u H2 I2 e2 r2 p2 => by
      obtain ⟨z, hz, p3⟩ := p2.opt
      exact ok_ix I2 (Rep.ex e2 _ _ r1).b r2 hz p3⟩⟩
/-- a list of one's own in slot i, then f of what stands there -/
def mOwnThen {α β : Type} (i : Nat) (g : M α) (k : D → α → M β) : M β := fun ρ => match ρ[i]? with
  | some (.own _) => mBind g (fun y => mBind (mOwn i) fun x => k x y) ρ
  | _ => .err
/-- the slot's address, all along -/
theorem ownThen {α β γ δ : Type} {R1 : List Addr → Hp → α → γ → Prop} {R : List Addr → Hp → β → δ → Prop} {O : List Addr} {T : Tmp} {ρ : Rho} {σ : L2.St} {H : Hp} {i : Nat} {g : M α} {k : D → α → M β} {Q : δ → Hp → Prop} (I : Env X.K P O T ρ σ H) (p : Post X.K P R O T σ H (mOwnThen i g k ρ) Q) :
    ∃ a, σ[i]? = some (some (.ref a)) ∧ ∀ Q1 : γ → Hp → Prop, (∀ y ρ2 u H2 x, Env X.K P O T ρ2 σ H2 → Ex (hid (hz T O P.Z) H) (hid (hz T O P.Z) H2) → R1 (hz T O P.Z) H2 y u → ρ2[i]? = some (.own x) → a ∈ O → OwnAt P.G X.K (hz T O P.Z) H2 a x → Post X.K P R O T σ H2 (k x y ρ2) Q → Q1 u H2) →
      Post X.K P R1 O T σ H (g ρ) Q1 := by
  unfold mOwnThen at p
  cases h : ρ[i]? with
  | none => rw [h] at p; exact (show False from p).elim
  | some s =>
    rw [h] at p
    cases s with
    | no => exact (show False from p).elim
    | shr d => exact (show False from p).elim
    | own d =>
      obtain ⟨a, h1, h2, h3⟩ := I.own i d h
      refine ⟨a, h1, fun Q1 k1 => Post.bind p fun y ρ2 u H2 I2 e2 r2 p2 => ?_⟩
      unfold mBind mOwn at p2
      cases h' : ρ2[i]? with
      | none => rw [h'] at p2; exact (show False from p2).elim
      | some s2 =>
        rw [h'] at p2
        cases s2 with
        | no => exact (show False from p2).elim
        | shr d => exact (show False from p2).elim
        | own x =>
          obtain ⟨a', q1, q2, q3⟩ := I2.own i x h'
          rw [h1] at q1
          cases q1
          exact k1 y ρ2 u H2 x I2 e2 r2 h' q2 q3 p2
def mIxO (i : Nat) (g : M D) : M D := mOwnThen i g fun x y => mOpt (dIx x y)
theorem dE_ixO {i : Nat} {x : Str} {pos2 : Pos} (hN : X.N[i]? = some x) (hv : Vis X.env.scope x) (hb : DE X P b g) (hs : PlainIx b)
    (hd : (x == ("__debug__" : Str)) = false := by decide) (hcd : (x == ("__classdict__" : Str)) = false := by decide) : DE X P (.Subscript (.Name x pos2) b pos) (mIxO i g) :=
  PE.imp (pe_ix ix_seq (pe_var hN hv hd hcd) hb hs) fun σ H Q ⟨O, T, ρ, I, p⟩ => by
    obtain ⟨a, h1, k⟩ := ownThen (R1 := RE X.K P) I p
    refine ⟨.ref a, h1, O, T, ρ, I, k _ fun y ρ2 u H2 x I2 e2 r2 _ _ q3 p2 => ?_⟩
    obtain ⟨z, hz, p3⟩ := p2.opt
    exact ok_ix I2 q3.rep r2 hz p3
/-! ### slices -/
theorem cut_tup_whole {prog : Program} {w : World} {A : Around} {E : Value → Shared → Prop} {s : Shared} {t sl : Addr} {items : Array Value} {vl vu : Value} {lo hi : Option Int} {Q : Value → Shared → Prop} (ht : IsTup s.heap t items) (hs : s.heap.IsSliceOf sl vl vu .none) (pl : IsPart vl lo) (pu : IsPart vu hi)
    (hw : HT.sIx items.size 0 lo = 0 ∧ HT.sIx items.size items.size hi = items.size)
    (h : Q (.ref t) s) (hsz : items.size ≤ sizeLine) : wpAny (model prog w) A (getItem (.ref t) (.ref sl)) Q E s := by
  obtain ⟨os, hos, hcs, hds⟩ := id hs
  have hTs : s.TypeIs (.ref sl) "slice" := ⟨os, hos, hcs⟩
  unfold getItem
  try with_reducible refine wpAny_holding ?_
  first | refine wpAny_bind (wpAny_pure ?_) | skip
  refine wpAny_bind (wpAny_sequenceKey ht.typeIs (by decide) ?_)
  refine wpAny_bind (wpAny_callSpecial?_slot (name := Str.ofString "__getitem__") ht.typeIs PyProof.Rows.slot_tuple_getitem
    (wpAny_call_entry PyProof.Rows.slot_tuple_getitem ht.typeIs entry_tuple_getitem ?_ (args_tuple_getitem _ _)))
  show wpAny _ _ (Builtin.Tuple.tupleItemsOf (.ref t) >>= _) _ _ s
  refine wpAny_bind (tupleItemsOf_ ht ?_)
  refine wpAny_bind (wpAny_typeOf hTs ?_)
  rw [if_pos (by decide)]
  refine wpAny_bind (HT.sliceApplied_gen hs pl pu ?_)
  have hyes : ((((HT.sIx items.size 0 lo : Nat) : Int) == 0 && (1 : Int) == 1 && (HT.sIx items.size items.size hi - HT.sIx items.size 0 lo) == items.size) = true) := by
    rw [hw.1, hw.2]; simp
  show wpAny _ _ (if (((HT.sIx items.size 0 lo : Nat) : Int) == 0 && (1 : Int) == 1 && (HT.sIx items.size items.size hi - HT.sIx items.size 0 lo) == items.size) = true then _ else _) _ _ s
  rw [if_pos hyes]
  refine wpAny_bind (m := Builtin.Tuple.tupleIsExact (.ref t)) ?_
  refine wpAny_bind (wpAny_typeOf ht.typeIs (wpAny_pure ?_))
  rw [if_pos (by decide)]
  exact wpAny_bind (wpAny_rule (wpAny_pure ⟨_, rfl, wpAny_pure h⟩))
def rSlTW (K : PySem.W.Frag) : V → Option Int → Option Int → Hp → VK → Prop := fun x lo hi H Q => ∃ a xs, x = .ref a ∧ SqT K H a xs ∧ (HT.sIx xs.length 0 lo = 0 ∧ HT.sIx xs.length xs.length hi = xs.length) ∧ Q (.ref a) H
theorem sl_tupW : SlR X (rSlTW X.K) := by
  intro pins s σ H x v vl vu lo hi sl Q I rx hs pl pu h
  obtain ⟨a, xs, rfl, hx, hw, q⟩ := h
  cases rx
  obtain ⟨its, r, ht, hz⟩ := I.tuple hx
  have hlen : its.toArray.size = xs.length := by rw [List.size_toArray]; exact r.length.symm
  refine ⟨"tuple", _, PyProof.Rows.slot_tuple_getitem.lookup, ht.typeIs, ?_⟩
  exact cut_tup_whole ht hs pl pu (by rw [hlen]; exact hw) ⟨.ref a, H, I, rfl, q⟩ (by rw [hlen]; exact hz)
def cutL {α : Type} (xs : List α) (lo hi : Option Int) : List α := (xs.drop (HT.sIx xs.length 0 lo)).take (HT.sIx xs.length xs.length hi - HT.sIx xs.length 0 lo)
def dSl : D → Option Int → Option Int → Option D
  | .lst xs, lo, hi => some (.lst (cutL xs lo hi))
  | .tup xs, lo, hi => some (.tup (cutL xs lo hi))
  | .str x, lo, hi => if x.length ≤ 100000 then some (.str (cutS x lo hi)) else none
  | .scr ns, lo, hi => some (.lst ((cutL ns lo hi).map .int))
  | _, _, _ => none
def rSl (K : PySem.W.Frag) : V → Option Int → Option Int → Hp → VK → Prop := fun x lo hi H Q => ((rSlL K x lo hi H Q ∨ rSlT K x lo hi H Q) ∨ rSlTW K x lo hi H Q) ∨ rSlS x lo hi H Q
theorem sl_any : SlR X (rSl X.K) := ((sl_list.or sl_tup).or sl_tupW).or sl_str
theorem Reps.cut {G : CT} {K : PySem.W.Frag} {H : Hp} {ds : List D} {vs : List V} {lo hi : Option Int} (h : Reps G K H ds vs) : Reps G K H (cutL ds lo hi) (cutV vs lo hi) := by
  unfold cutL cutV
  rw [h.len]
  exact (h.drop _).take _
theorem reps_ints {G : CT} {K : PySem.W.Frag} {H : Hp} : ∀ ns : List Int, Reps G K H (ns.map .int) (ns.map V.int)
  | [] => .nil
  | n :: ns => .cons (by simp only [Rep]) (reps_ints ns)
theorem ok_sl {O : List Addr} {T : Tmp} {ρ : Rho} {σ : L2.St} {H : Hp} {x : D} {v : V} {z : D} {lo hi : Option Int} {Q : VK} (I : Env X.K P O T ρ σ H) (rx : RepB X.K P (hz T O P.Z) H x v) (hz : dSl x lo hi = some z)
    (p : Post X.K P (RE X.K P) O T σ H (.ok z ρ) Q) : rSl X.K v lo hi H Q := by
  cases x <;> first | (cases hz; done) | skip
  · simp only [RepB, Rep] at rx
    obtain ⟨h, rfl⟩ := ite_some hz
    exact .inr ⟨_, rx, Evl.sz_of h, p.txt I⟩
  · simp only [RepB, Rep] at rx
    obtain ⟨a, vs, rfl, h1, h2⟩ := rx
    cases hz
    exact .inl (.inl (.inl ⟨a, vs, rfl, SqL.of h1, fun q hq => p.lst I hq h2.cut⟩))
  · simp only [RepB, Rep] at rx
    obtain ⟨a, vs, rfl, h1, h2⟩ := rx
    cases hz
    by_cases hw : HT.sIx vs.length 0 lo = 0 ∧ HT.sIx vs.length vs.length hi = vs.length
    · refine .inl (.inr ⟨a, vs, rfl, Evl.ex_t ex_unhid h1, hw, p.ok I ?_⟩)
      simp only [RE, Rep]
      refine ⟨a, vs, rfl, h1, ?_⟩
      have e : cutV vs lo hi = vs := by
        unfold cutV
        rw [hw.1, hw.2]
        simp
      have := h2.cut (lo := lo) (hi := hi)
      rw [e] at this
      exact this
    · exact .inl (.inl (.inr ⟨a, vs, rfl, Evl.ex_t ex_unhid h1, hw, fun q hq => p.tup I hq h2.cut⟩))
  · simp only [RepB, Rep] at rx
    obtain ⟨a, rfl, h1⟩ := rx
    cases hz
    refine .inl (.inl (.inl ⟨a, _, rfl, Evl.ex_l ex_unhid h1, fun q hq => p.lst I hq ?_⟩))
    exact (reps_ints _).cut (lo := lo) (hi := hi) |> fun z => by
      unfold cutL at z ⊢
      simpa [List.map_take, List.map_drop] using z
/-- parts -/
def dInt : D → Option (Option Int)
  | .int i => some (some i)
  | _ => none
def mPart (f : M D) : M (Option Int) := mBind f fun d => mOpt (dInt d)
theorem dO_none : DO X P none (mRet none) := PO.imp po_none fun σ H Q ⟨O, T, ρ, I, p⟩ => p.ok I rfl
theorem dO_some (h : DE X P e f) : DO X P (some e) (mPart f) := PO.imp (po_some h) fun σ H Q ⟨O, T, ρ, I, p⟩ => ⟨O, T, ρ, I, Post.bind p fun x ρ1 v H1 I1 e1 r1 p1 => by
  obtain ⟨b, hb, p2⟩ := p1.opt
  cases x with
  | int i =>
    cases hb
    simp only [RE, Rep] at r1
    exact ⟨i, r1, p2.ok I1 rfl⟩
  | _ => cases hb⟩
def mSl (f : M D) (l h : M (Option Int)) : M D := mBind f fun x => mBind l fun lo => mBind h fun hi => mOpt (dSl x lo hi)
theorem dE_sl {lo hi : Option Expr} {fl fh : M (Option Int)} {p2 : Pos} (ha : DE X P a f) (hl : DO X P lo fl) (hh : DO X P hi fh) : DE X P (.Subscript a (.Slice lo hi none p2) pos) (mSl f fl fh) :=
  PE.imp (pe_slice sl_any ha hl hh) fun σ H Q ⟨O, T, ρ, I, p⟩ => ⟨O, T, ρ, I, Post.bind p fun x ρ1 v H1 I1 e1 r1 p1 => ⟨O, T, ρ1, I1, Post.bind p1 fun lo ρ2 lo' H2 I2 e2 r2 p2 => ⟨O, T, ρ2, I2, Post.bind p2 fun hi ρ3 hi' H3 I3 e3 r3 p3 => by
    subst r2 r3
    obtain ⟨z, hz, p4⟩ := p3.opt
    exact ok_sl I3 (Rep.ex (e2.trans e3) _ _ r1).b hz p4⟩⟩⟩
/-! ### built-in functions of one argument -/
/-- a rule for a call does what op says; the argument may be a list of one's own -/
def Op1 (X : Cx) (P : Pr) (r : List V → Hp → VK → Prop) (op : D → Option D) : Prop := ∀ (O : List Addr) (T : Tmp) (ρ : Rho) (σ : L2.St) (H : Hp) (x : D) (v : V) (z : D) (Q : VK), Env X.K P O T ρ σ H → RepB X.K P (hz T O P.Z) H x v → op x = some z →
  Post X.K P (RE X.K P) O T σ H (.ok z ρ) Q → r [v] H Q
def mUn (op : D → Option D) (f : M D) : M D := mBind f fun x => mOpt (op x)
theorem tCB1 {r : List V → Hp → VK → Prop} {op : D → Option D} (ho : Op1 X P r op) {σ : L2.St} {H : Hp} {Q : VK} (h : tE X.K P (mUn op f) σ H Q) : tCB r (tAb X.K P f) σ H Q := by
  obtain ⟨O, T, ρ, I, p⟩ := h
  refine ⟨O, T, ρ, I, Post.bind p fun x ρ1 vs H1 I1 e1 r1 p1 => ?_⟩
  obtain ⟨v, rfl, r1⟩ := r1
  obtain ⟨z, hz, p2⟩ := p1.opt
  exact ho O T ρ1 σ H1 x v z Q I1 r1 hz p2
theorem dE_callB {x : Str} {p : Pos} {id : String} {r : List V → Hp → VK → Prop} {op : D → Option D} (hr : CallR X (.builtin id) r) (ho : Op1 X P r op) (hg : Gl X x) (hm : X.mg x = none) (hv : bootBuiltins x = some (.builtin id)) (ha : DB X P e f)
    (hn : x ≠ "__name__" := by decide) (hdb : (x == ("__debug__" : Str)) = false := by decide) (hs : starEach (e :: []) X.env = (false, eval e X.env) :: starEach [] X.env := by rfl) (hpl : (backTo pos (starEach [] X.env)).any (·.1) = false := by rfl) :
    DE X P (.Call (.Name x p) [e] [] pos) (mUn op f) := PE.imp (pe_callB hr hg hm hv (dA_b ha hs) hn hdb hs hpl) fun σ H Q h => tCB1 ho h
theorem dE_callTy {x : Str} {p : Pos} {id : String} {r : List V → Hp → VK → Prop} {op : D → Option D} (hr : CallR X (.type id) r) (ho : Op1 X P r op) (hg : Gl X x) (hm : X.mg x = none) (hv : bootBuiltins x = some (.type id)) (ha : DB X P e f)
    (hn : x ≠ "__name__" := by decide) (hdb : (x == ("__debug__" : Str)) = false := by decide) (hs : starEach (e :: []) X.env = (false, eval e X.env) :: starEach [] X.env := by rfl) (hpl : (backTo pos (starEach [] X.env)).any (·.1) = false := by rfl) :
    DE X P (.Call (.Name x p) [e] [] pos) (mUn op f) := PE.imp (pe_callTy hr hg hm hv (dA_b ha hs) hn hdb hs hpl) fun σ H Q h => tCB1 ho h
/-- len -/
def dLen : D → Option D
  | .str x => if x.length ≤ 100000 then some (.int x.length) else none
  | .lst xs => some (.int xs.length)
  | .tup xs => some (.int xs.length)
  | .scr ns => some (.int ns.length)
  | _ => none
theorem ok_len : Op1 X P (fun xs H Q => ∃ x n, xs = [x] ∧ LenV X.K x H n ∧ Q (.int n) H) dLen := by
  intro O T ρ σ H x v z Q I rx hz p
  cases x <;> first | (cases hz; done) | skip
  · simp only [RepB, Rep] at rx
    obtain ⟨h, rfl⟩ := ite_some hz
    subst rx
    exact ⟨_, _, rfl, ⟨Evl.sz_of h, rfl⟩, p.int I⟩
  · simp only [RepB, Rep] at rx
    obtain ⟨a, vs, rfl, h1, h2⟩ := rx
    cases hz
    exact ⟨_, _, rfl, .inl ⟨vs, SqL.of h1, rfl⟩, by rw [h2.len]; exact p.int I⟩
  · simp only [RepB, Rep] at rx
    obtain ⟨a, vs, rfl, h1, h2⟩ := rx
    cases hz
    exact ⟨_, _, rfl, .inr ⟨vs, Evl.ex_t ex_unhid h1, rfl⟩, by rw [h2.len]; exact p.int I⟩
  · simp only [RepB, Rep] at rx
    obtain ⟨a, rfl, h1⟩ := rx
    cases hz
    exact ⟨_, _, rfl, .inl ⟨_, Evl.ex_l ex_unhid h1, rfl⟩, by rw [List.length_map]; exact p.int I⟩
/-- bools -/
def dBls : List D → Option (List Bool)
  | [] => some []
  | .bl b :: r => (dBls r).map (b :: ·)
  | _ => none
theorem reps_bls {G : CT} {K : PySem.W.Frag} {H : Hp} : ∀ {ds : List D} {vs : List V} {bs : List Bool}, dBls ds = some bs → Reps G K H ds vs → vs = bs.map V.bl
  | [], vs, bs, h, r => by simp only [Reps] at r; cases h; exact r
  | d :: ds, vs, bs, h, r => by
    simp only [Reps] at r
    obtain ⟨v, ws, rfl, r1, r2⟩ := r
    cases d <;> first | (cases h; done) | skip
    obtain ⟨cs, h1, rfl⟩ := Option.map_eq_some_iff.mp (show (dBls ds).map _ = some bs from h)
    simp only [Rep] at r1
    rw [r1, reps_bls h1 r2]
    rfl
def dAll : D → Option D
  | .lst xs => (dBls xs).map fun bs => .bl (bs.all id)
  | _ => none
def dAny : D → Option D
  | .lst xs => (dBls xs).map fun bs => .bl (bs.any id)
  | _ => none
theorem ok_all : Op1 X P (rAll X.K) dAll := by
  intro O T ρ σ H x v z Q I rx hz p
  cases x <;> first | (cases hz; done) | skip
  obtain ⟨a, vs, rfl, h1, h2⟩ := rx
  obtain ⟨bs, hb, rfl⟩ := Option.map_eq_some_iff.mp hz
  exact ⟨a, bs, rfl, SqL.of (by rw [← reps_bls hb h2]; exact h1), p.bool I⟩
theorem ok_any : Op1 X P (rAny X.K) dAny := by
  intro O T ρ σ H x v z Q I rx hz p
  cases x <;> first | (cases hz; done) | skip
  obtain ⟨a, vs, rfl, h1, h2⟩ := rx
  obtain ⟨bs, hb, rfl⟩ := Option.map_eq_some_iff.mp hz
  exact ⟨a, bs, rfl, SqL.of (by rw [← reps_bls hb h2]; exact h1), p.bool I⟩
/-- tuple(list | tuple) -/
def dTuple : D → Option D
  | .lst xs => some (.tup xs)
  | .tup xs => some (.tup xs)
  | _ => none
theorem ok_tuple : Op1 X P (fun xs H Q => ∃ p ys, xs = [.ref p] ∧ ((SqL X.K H p ys ∧ ∀ l, H l = none → Q (.ref l) (upd H l (.tup ys))) ∨ (SqT X.K H p ys ∧ Q (.ref p) H))) dTuple := by
  intro O T ρ σ H x v z Q I rx hz p
  cases x <;> first | (cases hz; done) | skip
  · obtain ⟨a, vs, rfl, h1, h2⟩ := rx
    cases hz
    exact ⟨a, vs, rfl, .inl ⟨SqL.of h1, fun q hq => p.tup I hq h2⟩⟩
  · simp only [RepB, Rep] at rx
    obtain ⟨a, vs, rfl, h1, h2⟩ := rx
    cases hz
    exact ⟨a, vs, rfl, .inr ⟨Evl.ex_t ex_unhid h1, p.ok I (by simp only [RE, Rep]; exact ⟨a, vs, rfl, h1, h2⟩)⟩⟩
/-- abs, int -/
def dAbs : D → Option D
  | .int i => some (.int (if i < 0 then -i else i))
  | _ => none
def dToInt : D → Option D
  | .int i => some (.int i)
  | _ => none
theorem ok_abs : Op1 X P (fun xs H Q => ∃ i, xs = [.int i] ∧ Q (.int (if i < 0 then -i else i)) H) dAbs := by
  intro O T ρ σ H x v z Q I rx hz p
  cases x <;> first | (cases hz; done) | skip
  simp only [RepB, Rep] at rx
  subst rx
  cases hz
  exact ⟨_, rfl, p.int I⟩
theorem ok_int : Op1 X P (fun xs H Q => (∃ i, xs = [.int i] ∧ Q (.int i) H) ∨ ∃ k, xs = [.bl k] ∧ Q (.int (if k then 1 else 0)) H) dToInt := by
  intro O T ρ σ H x v z Q I rx hz p
  cases x <;> first | (cases hz; done) | skip
  simp only [RepB, Rep] at rx
  subst rx
  cases hz
  exact .inl ⟨_, rfl, p.int I⟩
/-! ### list(..): a new list -/
def dList : D → Option (List D)
  | .lst xs => some xs
  | .tup xs => some xs
  | .str x => if x.length ≤ 100000 then some (x.cps.toList.map fun c => .str (chr1 c)) else none
  | _ => none
theorem vals_of_get : ∀ {xs : List V} {us : List Value}, xs.length = us.length → (∀ (i : Nat) v u, xs[i]? = some v → us[i]? = some u → RelV v u) → Vals xs us
  | [], [], _, _ => .nil
  | [], _ :: _, h, _ => by simp at h
  | _ :: _, [], h, _ => by simp at h
  | x :: xs, u :: us, h, k => .cons (k 0 x u rfl rfl) (vals_of_get (by simpa using h) fun i v w a b => k (i + 1) v w (by simpa using a) (by simpa using b))
def rListB (K : PySem.W.Frag) : List V → Hp → VK → Prop := fun xs H Q => (∃ p ys, xs = [.ref p] ∧ (SqL K H p ys ∨ SqT K H p ys) ∧ ∀ l, H l = none → Q (.ref l) (upd H l (.lst ys))) ∨
  ∃ x, xs = [.str x] ∧ x.length ≤ sizeLine ∧ ∀ l, H l = none → Q (.ref l) (upd H l (.lst (x.cps.toList.map fun c => .str (chr1 c))))
theorem call_listB (hc : X.calm = true) : CallR X (.type "list") (rListB X.K) := by
  refine CallR.or call_list_of ?_
  intro pins s σ H vs us Q I r h
  obtain ⟨x, rfl, hz, q⟩ := h
  obtain ⟨u, rfl, ru⟩ := r.one
  obtain ⟨t, rfl⟩ := ru
  refine call_list_str (I.ok.hd hc) x t (hn := hz) fun h' tk acc' c' hk hS' hacc => ?_
  have rv : Vals (x.cps.toList.map fun c => V.str (chr1 c)) acc'.toList := by
    have hl : (x.cps.toList.map fun c => V.str (chr1 c)).length = acc'.toList.length := by simp [hacc.1]
    exact vals_of_get hl fun i v u h1 h2 => by
      obtain ⟨c, t', hc', rfl⟩ := hacc.2 i u (by simpa using h2)
      rw [List.getElem?_map] at h1
      have : x.cps.toList[i]? = some c := by simpa using hc'
      rw [this] at h1
      cases h1
      exact ⟨t', rfl⟩
  refine ⟨.ref s.heap.objs.size, _, I.laid (t' := tk) (o := .lst (x.cps.toList.map fun c => .str (chr1 c))) hk (Nat.le_refl _) ?_, rfl, q _ (I.hok.fresh (Nat.le_refl _))⟩
  exact ⟨by rw [List.length_map, Array.length_toList]; exact hz, _, c', rv, by simpa using hS'⟩
/-- a rule that hands back a new list -/
def Op1F (X : Cx) (P : Pr) (r : List V → Hp → VK → Prop) (op : D → Option (List D)) : Prop := ∀ (O : List Addr) (T : Tmp) (ρ : Rho) (σ : L2.St) (H : Hp) (x : D) (v : V) (ds : List D) (Q : VK), Env X.K P O T ρ σ H → RepB X.K P (hz T O P.Z) H x v → op x = some ds →
  Post X.K P (RF X.K P) O T σ H (.ok ds ρ) (fun pv H' => Q (.ref pv.1) (upd H' pv.1 (.lst pv.2))) → r [v] H Q
def mUnF (op : D → Option (List D)) (f : M D) : M (List D) := mBind f fun x => mOpt (op x)
theorem tCB1F {r : List V → Hp → VK → Prop} {op : D → Option (List D)} (ho : Op1F X P r op) {σ : L2.St} {H : Hp} {Q : VK} (h : tF X.K P (mUnF op f) σ H Q) : tCB r (tAb X.K P f) σ H Q := by
  obtain ⟨O, T, ρ, I, p⟩ := h
  refine ⟨O, T, ρ, I, Post.bind p fun x ρ1 vs H1 I1 e1 r1 p1 => ?_⟩
  obtain ⟨v, rfl, r1⟩ := r1
  obtain ⟨z, hz, p2⟩ := p1.opt
  exact ho O T ρ1 σ H1 x v z Q I1 r1 hz p2
theorem Post.fresh {O : List Addr} {T : Tmp} {σ : L2.St} {H : Hp} {ρ : Rho} {ds : List D} {vs : List V} {p : Addr} {Q : VK} (h : Post X.K P (RF X.K P) O T σ H (.ok ds ρ) (fun pv H' => Q (.ref pv.1) (upd H' pv.1 (.lst pv.2)))) (I : Env X.K P O T ρ σ H) (hp : H p = none)
    (r : Reps P.G X.K (hid (hz T O P.Z) H) ds vs) : Q (.ref p) (upd H p (.lst vs)) := h.ok (b := (p, vs)) I ⟨hp, r⟩
theorem dF_callTy {x : Str} {p : Pos} {id : String} {r : List V → Hp → VK → Prop} {op : D → Option (List D)} (hr : CallR X (.type id) r) (ho : Op1F X P r op) (hg : Gl X x) (hm : X.mg x = none) (hv : bootBuiltins x = some (.type id)) (ha : DB X P e f)
    (hn : x ≠ "__name__" := by decide) (hdb : (x == ("__debug__" : Str)) = false := by decide) (hs : starEach (e :: []) X.env = (false, eval e X.env) :: starEach [] X.env := by rfl) (hpl : (backTo pos (starEach [] X.env)).any (·.1) = false := by rfl) :
    DF X P (.Call (.Name x p) [e] [] pos) (mUnF op f) := PE.imp (pe_callTy hr hg hm hv (dA_b ha hs) hn hdb hs hpl) fun σ H Q h => tCB1F ho h
theorem dF_callB {x : Str} {p : Pos} {id : String} {r : List V → Hp → VK → Prop} {op : D → Option (List D)} (hr : CallR X (.builtin id) r) (ho : Op1F X P r op) (hg : Gl X x) (hm : X.mg x = none) (hv : bootBuiltins x = some (.builtin id)) (ha : DB X P e f)
    (hn : x ≠ "__name__" := by decide) (hdb : (x == ("__debug__" : Str)) = false := by decide) (hs : starEach (e :: []) X.env = (false, eval e X.env) :: starEach [] X.env := by rfl) (hpl : (backTo pos (starEach [] X.env)).any (·.1) = false := by rfl) :
    DF X P (.Call (.Name x p) [e] [] pos) (mUnF op f) := PE.imp (pe_callB hr hg hm hv (dA_b ha hs) hn hdb hs hpl) fun σ H Q h => tCB1F ho h
theorem reps_chr {G : CT} {K : PySem.W.Frag} {H : Hp} : ∀ cs : List Nat, Reps G K H (cs.map fun c => .str (chr1 c)) (cs.map fun c => V.str (chr1 c))
  | [] => .nil
  | n :: ns => .cons (by simp only [Rep]) (reps_chr ns)
theorem ok_list : Op1F X P (rListB X.K) dList := by
  intro O T ρ σ H x v ds Q I rx hz p
  cases x <;> first | (cases hz; done) | skip
  · simp only [RepB, Rep] at rx
    obtain ⟨h, rfl⟩ := ite_some hz
    subst rx
    exact .inr ⟨_, rfl, Evl.sz_of h, fun q hq => p.fresh I hq (reps_chr _)⟩
  · obtain ⟨a, vs, rfl, h1, h2⟩ := rx
    cases hz
    exact .inl ⟨a, vs, rfl, .inl (SqL.of h1), fun q hq => p.fresh I hq h2⟩
  · simp only [RepB, Rep] at rx
    obtain ⟨a, vs, rfl, h1, h2⟩ := rx
    cases hz
    exact .inl ⟨a, vs, rfl, .inr (Evl.ex_t ex_unhid h1), fun q hq => p.fresh I hq h2⟩
/-! ### built-in functions of two arguments -/
def Op2 (X : Cx) (P : Pr) (r : List V → Hp → VK → Prop) (op : D → D → Option D) : Prop := ∀ (O : List Addr) (T : Tmp) (ρ : Rho) (σ : L2.St) (H : Hp) (x y : D) (v u : V) (z : D) (Q : VK), Env X.K P O T ρ σ H → Rep P.G X.K (hid (hz T O P.Z) H) x v → Rep P.G X.K (hid (hz T O P.Z) H) y u → op x y = some z →
  Post X.K P (RE X.K P) O T σ H (.ok z ρ) Q → r [v, u] H Q
theorem dE_callB2 {x : Str} {p : Pos} {id : String} {r : List V → Hp → VK → Prop} {op : D → D → Option D} (hr : CallR X (.builtin id) r) (ho : Op2 X P r op) (hg : Gl X x) (hm : X.mg x = none) (hv : bootBuiltins x = some (.builtin id)) (ha : DE X P a f) (hb : DE X P b g)
    (hn : x ≠ "__name__" := by decide) (hdb : (x == ("__debug__" : Str)) = false := by decide) (hs : starEach (a :: [b]) X.env = (false, eval a X.env) :: starEach [b] X.env := by rfl) (hs2 : starEach (b :: []) X.env = (false, eval b X.env) :: starEach [] X.env := by rfl)
    (hpl : (backTo pos (starEach [b] X.env)).any (·.1) = false := by rfl) :
    DE X P (.Call (.Name x p) [a, b] [] pos) (mOp op f g) := PE.imp (pe_callB hr hg hm hv (pa_cons ha (pa_cons hb pa_nil hs2) hs) hn hdb hs hpl) fun σ H Q ⟨O, T, ρ, I, p⟩ =>
    ⟨O, T, ρ, I, Post.bind p fun x ρ1 v H1 I1 e1 r1 p1 => ⟨O, T, ρ1, I1, Post.bind p1 fun y ρ2 u H2 I2 e2 r2 p2 => by
      obtain ⟨z, hz, p3⟩ := p2.opt
      exact ho O T ρ2 σ H2 x y v u z Q I2 (Rep.ex e2 _ _ r1) r2 hz p3⟩⟩
def dMax : D → D → Option D
  | .int i, .int j => some (.int (if j > i then j else i))
  | _, _ => none
def dMin : D → D → Option D
  | .int i, .int j => some (.int (if j < i then j else i))
  | _, _ => none
def dDivmod : D → D → Option D
  | .int i, .int j => if 0 < j ∧ j < 1073741824 then some (.tup [.int (i / j), .int (i % j)]) else none
  | _, _ => none
theorem ok_max2 : Op2 X P (fun xs H Q => ∃ i j, xs = [.int i, .int j] ∧ Q (.int (if j > i then j else i)) H) dMax := by
  intro O T ρ σ H x y v u z Q I rx ry hz p
  cases x <;> cases y <;> first | (cases hz; done) | skip
  simp only [Rep] at rx ry
  subst rx ry
  cases hz
  exact ⟨_, _, rfl, p.int I⟩
theorem ok_min2 : Op2 X P (fun xs H Q => ∃ i j, xs = [.int i, .int j] ∧ Q (.int (if j < i then j else i)) H) dMin := by
  intro O T ρ σ H x y v u z Q I rx ry hz p
  cases x <;> cases y <;> first | (cases hz; done) | skip
  simp only [Rep] at rx ry
  subst rx ry
  cases hz
  exact ⟨_, _, rfl, p.int I⟩
theorem ok_divmod : Op2 X P (fun xs H Q => ∃ i j, xs = [.int i, .int j] ∧ CDiv i j ∧ ∀ p, H p = none → Q (.ref p) (upd H p (.tup [.int (i / j), .int (i % j)]))) dDivmod := by
  intro O T ρ σ H x y v u z Q I rx ry hz p
  cases x <;> cases y <;> first | (cases hz; done) | skip
  simp only [Rep] at rx ry
  subst rx ry
  obtain ⟨h, rfl⟩ := ite_some hz
  exact ⟨_, _, rfl, h, fun q hq => p.tup I hq (.cons (by simp only [Rep]) (.one (by simp only [Rep])))⟩
/-! ### isinstance -/
def IsOk (K : PySem.W.Frag) (G : CT) (u : Value) (q : D → Option Bool) : Prop := ∀ (H : Hp) (d : D) (v : V) (b : Bool), Rep G K H d v → q d = some b → ∃ t, TyX K H v t ∧ PySem.W.kitOne K t u = some b
def mIs (q : D → Option Bool) (f : M D) : M D := mBind f fun x => mOpt ((q x).map .bl)
theorem dE_isT {n : String} {q : D → Option Bool} {x : Str} {p p2 : Pos} (hq : IsOk X.K P.G (.type n) q) (hg : Gl X "isinstance") (hm : X.mg "isinstance" = none) (hgx : Gl X x) (hmx : X.mg x = none) (hvx : bootBuiltins x = some (.type n)) (ha : DE X P a f) (hnx : x ≠ "__name__" := by decide) (hdx : (x == ("__debug__" : Str)) = false := by decide)
    (hs : starEach (a :: [.Name x p2]) X.env = (false, eval a X.env) :: starEach [.Name x p2] X.env := by rfl) (hs2 : starEach (.Name x p2 :: []) X.env = (false, eval (.Name x p2) X.env) :: starEach [] X.env := by rfl) (hpl : (backTo pos (starEach [.Name x p2] X.env)).any (·.1) = false := by rfl) :
    DE X P (.Call (.Name "isinstance" p) [a, .Name x p2] [] pos) (mIs q f) :=
  PE.imp (pe_callB call_isi hg hm (by decide +kernel) (pa_cons ha (pa_cons (pe_bltn (v := .ty n) hgx hmx hvx rfl hnx hdx) pa_nil hs2) hs) (by decide) (by decide) hs hpl) fun σ H Q ⟨O, T, ρ, I, p⟩ =>
    ⟨O, T, ρ, I, Post.bind p fun x ρ1 v H1 I1 e1 r1 p1 => by
      obtain ⟨z, hz, p3⟩ := p1.opt
      obtain ⟨b, hb, rfl⟩ := Option.map_eq_some_iff.mp hz
      obtain ⟨t, h1, h2⟩ := hq H1 x v b (Rep.ex ex_unhid _ _ r1) hb
      exact ⟨v, .ty n, t, .type n, b, rfl, .ty n, h1, h2, p3.bool I1⟩⟩
theorem dE_isC {C : Addr} {q : D → Option Bool} {x : Str} {p p2 : Pos} (hq : IsOk X.K P.G (.ref C) q) (hg : Gl X "isinstance") (hm : X.mg "isinstance" = none) (hgx : Gl X x) (hmx : X.mg x = some (.ref C)) (ha : DE X P a f) (hdx : (x == ("__debug__" : Str)) = false := by decide)
    (hs : starEach (a :: [.Name x p2]) X.env = (false, eval a X.env) :: starEach [.Name x p2] X.env := by rfl) (hs2 : starEach (.Name x p2 :: []) X.env = (false, eval (.Name x p2) X.env) :: starEach [] X.env := by rfl) (hpl : (backTo pos (starEach [.Name x p2] X.env)).any (·.1) = false := by rfl) :
    DE X P (.Call (.Name "isinstance" p) [a, .Name x p2] [] pos) (mIs q f) :=
  PE.imp (pe_callB call_isi hg hm (by decide +kernel) (pa_cons ha (pa_cons (pe_glob (v := .ref C) hgx hmx rfl hdx) pa_nil hs2) hs) (by decide) (by decide) hs hpl) fun σ H Q ⟨O, T, ρ, I, p⟩ =>
    ⟨O, T, ρ, I, Post.bind p fun x ρ1 v H1 I1 e1 r1 p1 => by
      obtain ⟨z, hz, p3⟩ := p1.opt
      obtain ⟨b, hb, rfl⟩ := Option.map_eq_some_iff.mp hz
      obtain ⟨t, h1, h2⟩ := hq H1 x v b (Rep.ex ex_unhid _ _ r1) hb
      exact ⟨v, .ref C, t, .ref C, b, rfl, .own C, h1, h2, p3.bool I1⟩⟩
/-- the name of a built-in type -/
def tyName : D → Option String
  | .non => some "NoneType"
  | .bl _ => some "bool"
  | .int _ => some "int"
  | .str _ => some "str"
  | .lst _ => some "list"
  | .tup _ => some "tuple"
  | _ => none
theorem tyName_ok {G : CT} {K : PySem.W.Frag} {H : Hp} {d : D} {v : V} {n : String} (r : Rep G K H d v) (h : tyName d = some n) : TyX K H v (.type n) := by
  cases d <;> first | (cases h; done) | skip
  all_goals (simp only [Rep] at r; cases h)
  · subst r; exact .base .non
  · subst r; exact .base (.bl _)
  · subst r; exact .base (.int _)
  · subst r; exact .base (.str _)
  · obtain ⟨a, vs, rfl, h1, _⟩ := r; exact .base (.lst h1)
  · obtain ⟨a, vs, rfl, h1, _⟩ := r
    rcases h1 with (h1 | ⟨o, h1⟩) | ⟨o, its, n, h1, h2, _⟩
    · exact .base (.tup h1)
    · exact .fTuple h1
    · exact .kTuple h1 h2
/-- is it of the built-in type n (instances: as told) -/
def qTy (n : String) (ins : Bool) : D → Option Bool
  | .ins _ _ => if ins then some false else none
  | d => (tyName d).bind fun m => kitB m n
theorem qTy_ok (n : String) (K : PySem.W.Frag) (G : CT) : IsOk K G (.type n) (qTy n false) := by
  intro H d v b r h
  have h' : (tyName d).bind (fun m => kitB m n) = some b := by
    cases d <;> first | exact h | (cases h; done)
  obtain ⟨m, hm, hk⟩ := Option.bind_eq_some_iff.mp h'
  exact ⟨_, tyName_ok r hm, kit_ty hk⟩
end
end Nv

namespace Nv
open PySem PySem.Spec PyProof.Rows L2
/-! ## defs called where no guard is under way (so that repr is known) -/
structure Fn (P : Program) (w : World) (K : PySem.W.Frag) (mg : Str → Option Value) (base : Heap) (CX : CXT) (k : Nat) (f : Addr) (fd : FuncData) (ps : List Str) (sp : Sp) : Prop where
  len : ∀ vs H Q E, sp vs H Q E → vs.length = ps.length
  run : ∀ (A : Around) (outer : List PySem.Env) (s : Shared) (H : Hp) (args : Args) (us : List Value) (vs : List V) (Q : VK) (E : XK), Room k A → A.guards = some [] → Env0 P w K mg base A outer s H → BindsTo s fd args (ps.zip us) → Vals vs us → sp vs H Q E →
    codeAny (model P w) A (.call (.ref f) args) (CR CX outer P w H s Q E) s
theorem Fn.mono {P : Program} {w : World} {K : PySem.W.Frag} {mg : Str → Option Value} {base : Heap} {CX : CXT} {j k : Nat} {f : Addr} {fd : FuncData} {ps : List Str} {sp : Sp} (F : Fn P w K mg base CX j f fd ps sp) (h : j ≤ k) :
    Fn P w K mg base CX k f fd ps sp := ⟨F.len, fun A outer s H args us vs Q E hr => F.run A outer s H args us vs Q E (hr.mono h)⟩
section
variable {X : Cx} {CX : CXT} {k : Nat} {f C p g : Addr} {fd : FuncData} {ps ks : List Str} {sp : Sp} {E : XK} {x m : Str} {pp pos apos : Pos} {e o : Expr} {es : List Expr} {ta : TE} {t : TA}
/-- behind the callee -/
theorem fn_end {pins : List (Addr × Obj)} {σ : L2.St} {H : Hp} {s : Shared} {Q : VK} (hx : Passes CX X E) (I : L2.Inv X pins σ H s) {r : Result} {s' : Shared} (hq : CR CX X.stack X.prog X.w H s Q E r s') : wants (EP X pins σ Q) X.xe r s' := by
  cases r with
  | error e => exact hx pins σ H s e s' I hq
  | ok fl =>
    cases fl with
    | ret u => exact I.after hq
    | next => exact False.elim hq
    | brk => exact False.elim hq
    | cont => exact False.elim hq
theorem run_g {pins : List (Addr × Obj)} {σ : L2.St} {H : Hp} {s : Shared} {Q : VK} {us : List Value} {vs : List V} (F : Fn X.prog X.w X.K X.mg X.base CX k f fd ps sp) (hr : Room k X.A) (gd : X.A.guards = some []) (hb : Binds X.K fd ps []) (hx : Passes CX X E)
    (I : L2.Inv X pins σ H s) (r : Vals vs us) (h : sp vs H Q E) : wpAny (model X.prog X.w) X.A (call (.ref f) us) (EP X pins σ Q) X.xe s := by
  have hl : us.length = ps.length := by rw [← r.length]; exact F.len _ _ _ _ h
  have hb2 := hb s us I.kIn (by simpa using hl)
  rw [List.append_nil] at hb2
  exact wpAny_call (codeAny_mono (F.run X.A X.stack s H ⟨us, []⟩ us vs Q E hr gd I.env0 hb2 r h) fun r s' hq => fn_end hx I hq)
theorem pe_callG (F : Fn X.prog X.w X.K X.mg X.base CX k f fd ps sp) (hr : Room k X.A) (gd : X.A.guards = some []) (hg : Gl X x) (hm : X.mg x = some (.ref f)) (hk : PySem.W.keepIn X.K (.ref f) = true) (hb : Binds X.K fd ps []) (hx : Passes CX X E)
    (ha : PA X (e :: es) t) (hdb : (x == ("__debug__" : Str)) = false := by decide) (he : starEach (e :: es) X.env = (false, eval e X.env) :: starEach es X.env := by rfl) (hpl : (backTo pos (starEach es X.env)).any (·.1) = false := by rfl) :
    PE X (.Call (.Name x pp) (e :: es) [] pos) (fun σ H Q => t σ H fun vs H1 => sp vs H1 Q E) := by
  refine ⟨fun pins s σ H Q I h => ?_⟩
  refine wpAny_Call_Name_kw (ld_glob I hg hm ?_ hdb)
  refine PySem.W.callWith_K (h₀ := X.base) I.ok.mod.kin hk (thn (ha.run pos pins s σ H _ I h) fun us s1 ⟨vs, H1, I1, r, q⟩ => ⟨I1.kIn, ?_⟩) he hpl
  exact run_g F hr gd hb hx I1 r q
theorem pe_callG0 (F : Fn X.prog X.w X.K X.mg X.base CX k f fd ps sp) (hr : Room k X.A) (gd : X.A.guards = some []) (hg : Gl X x) (hm : X.mg x = some (.ref f)) (hk : PySem.W.keepIn X.K (.ref f) = true) (hb : Binds X.K fd ps []) (hx : Passes CX X E)
    (hdb : (x == ("__debug__" : Str)) = false := by decide) : PE X (.Call (.Name x pp) [] [] pos) (fun σ H Q => sp [] H Q E) := by
  refine ⟨fun pins s σ H Q I h => ?_⟩
  refine wpAny_Call_Name_kw (ld_glob I hg hm ?_ hdb)
  exact PySem.W.callWith_K0 I.kIn hk (run_g (us := []) F hr gd hb hx I .nil h)
theorem pe_methG {pl : Sem Bool} (he : PE X o ta) (c : Cls X.K C) (hm : Meth X.K C m f) (F : Fn X.prog X.w X.K X.mg X.base CX k f fd ps sp) (hr : Room k X.A) (gd : X.A.guards = some []) (hb : Binds X.K fd ps []) (hx : Passes CX X E) (ha : PA X (e :: es) t)
    (hst : starEach (e :: es) X.env = (false, eval e X.env) :: starEach es X.env := by rfl) (hpl : (backTo pos (starEach es X.env)).any (·.1) = false := by rfl)
    (ht : eval (.Call (.Attribute o m apos) (e :: es) [] pos) X.env = (do
      let ov ← eval o X.env
      standAt apos.atName
      let (f, first) ← holding [ov] (getMethod ov m pl)
      callWith pos f first (backTo pos (starEach (e :: es) X.env)) (backToKw pos (keywordEach [] X.env))) := by rfl) :
    PE X (.Call (.Attribute o m apos) (e :: es) [] pos) (fun σ H Q => ta σ H fun x H1 => ∃ a dx fs, x = .ref a ∧ H1 a = some (.ins C dx fs) ∧ fs.lookup m = none ∧ t σ H1 fun vs H2 => sp (x :: vs) H2 Q E) := by
  refine ⟨fun pins s σ H Q I h => ?_⟩
  refine PySem.W.methodCall_KW (pl := pl) (thn (he.run pins s σ H _ I h) fun u s1 ⟨x, H1, I1, rx, a, dx, fs, ex, ea, l, q⟩ => ?_) ht
  subst ex
  obtain rfl : u = Value.ref a := rx
  refine getmeth_ok I1 ea c hm l ?_
  refine PySem.W.callWith_K (first := [.ref a]) (h₀ := X.base) I.ok.mod.kin hm.kp (thn (ha.run pos pins s1 σ H1 _ I1 q) fun us s2 ⟨vs, H2, I2, r, q2⟩ => ⟨I2.kIn, ?_⟩) hst hpl
  exact run_g (us := .ref a :: us) (vs := .ref a :: vs) F hr gd hb hx I2 (.cons rfl r) q2
theorem pe_methG0 {pl : Sem Bool} (he : PE X o ta) (c : Cls X.K C) (hm : Meth X.K C m f) (F : Fn X.prog X.w X.K X.mg X.base CX k f fd ps sp) (hr : Room k X.A) (gd : X.A.guards = some []) (hb : Binds X.K fd ps []) (hx : Passes CX X E)
    (ht : eval (.Call (.Attribute o m apos) [] [] pos) X.env = (do
      let ov ← eval o X.env
      standAt apos.atName
      let (f, first) ← holding [ov] (getMethod ov m pl)
      callWith pos f first (backTo pos (starEach [] X.env)) (backToKw pos (keywordEach [] X.env))) := by rfl) :
    PE X (.Call (.Attribute o m apos) [] [] pos) (fun σ H Q => ta σ H fun x H1 => ∃ a dx fs, x = .ref a ∧ H1 a = some (.ins C dx fs) ∧ fs.lookup m = none ∧ sp [x] H1 Q E) := by
  refine ⟨fun pins s σ H Q I h => ?_⟩
  refine PySem.W.methodCall_KW (pl := pl) (thn (he.run pins s σ H _ I h) fun u s1 ⟨x, H1, I1, rx, a, dx, fs, ex, ea, l, q⟩ => ?_) ht
  subst ex
  obtain rfl : u = Value.ref a := rx
  refine getmeth_ok I1 ea c hm l ?_
  exact PySem.W.callWith_K0 (first := [.ref a]) I1.kIn hm.kp (run_g (us := [.ref a]) (vs := [.ref a]) F hr gd hb hx I1 (.cons rfl .nil) q)
theorem pe_propG {nm : Str} (he : PE X e ta) (c : Cls X.K C) (hp : PropOf X.K C nm p g) (F : Fn X.prog X.w X.K X.mg X.base CX k g fd ps sp) (hr : Room (k + 1) X.A) (gd : X.A.guards = some []) (hb : Binds X.K fd ps []) (hx : Passes CX X.nox E)
    (hab : attributeBase e nm X.env (eval e X.env) = eval e X.env) : PE X (.Attribute e nm pos) (fun σ H Q => ta σ H fun x H1 => ∃ a dx fs, x = .ref a ∧ H1 a = some (.ins C dx fs) ∧ sp [.ref a] H1 Q E) := by
  refine ⟨fun pins s σ H Q I h => ?_⟩
  refine attr_of hab (thn (he.run pins s σ H _ I h) fun u s1 ⟨x, H1, I0, rx, a, dx, fs, ex, ea, q⟩ => ?_)
  subst ex
  obtain rfl : u = Value.ref a := rx
  obtain ⟨mA, OM, _, _, _, _⟩ := ins_get I0.hok ea
  obtain ⟨od, J, _⟩ := OM.look
  obtain ⟨rest, hrec⟩ := hp.rec_
  have I1 := I0.tok (s1.toks + 1)
  have hl : [Value.ref a].length = ps.length := F.len _ _ _ _ q
  have hc : (PySem.W.clsIn X.K C).isSome = true := by
    obtain ⟨cd, hc, _⟩ := PySem.W.any_some c.hd
    rw [hc]
    rfl
  have hb2 := hb { s1 with toks := s1.toks + 1 } [.ref a] I1.kIn (by simpa using hl)
  rw [List.append_nil] at hb2
  refine PySem.W.get_bind I0.kIn J (PySem.W.plainGet_of (c.get nm)).1 (PySem.W.findObj_data hc hp.at_ hp.get hp.tak) (PySem.W.plainGet_of (c.get nm)).2 (wpAny_call (PySem.W.prop_get (s := { s1 with toks := s1.toks + 1 }) I0.kIn hrec ?_))
  refine codeAny_mono (F.run X.A.in1 X.stack { s1 with toks := s1.toks + 1 } H1 ⟨[.ref a], []⟩ [.ref a] [.ref a] Q E hr.in1 gd I1.env0.in1 hb2 (.cons rfl .nil) q) fun r s' hq => ?_
  cases r with
  | error er => exact False.elim (hx pins σ H1 { s1 with toks := s1.toks + 1 } er s' (I1.wish _) hq)
  | ok fl =>
    cases fl with
    | ret u =>
      obtain ⟨v, H', I3, rv, q3⟩ := I1.after hq
      show wpAny _ _ (handedOut u) _ _ _
      rw [PySem.W.handedOut_of (handed_of rv)]
      exact wpAny_pure ⟨v, H', I3, rv, q3⟩
    | next => exact False.elim hq
    | brk => exact False.elim hq
    | cont => exact False.elim hq
theorem run_makeG {pins : List (Addr × Obj)} {σ : L2.St} {H : Hp} {s : Shared} {Q : VK} {us : List Value} {vs : List V} (M : Mk X.K C f) (F : Fn X.prog X.w X.K X.mg X.base CX k f fd ps sp) (hr : Room (k + 1) X.A) (gd : X.A.guards = some []) (hb : Binds X.K fd ps [])
    (hx : Passes CX X E) (I : L2.Inv X pins σ H s) (r : Vals vs us)
    (h : ∀ x dx, H x = none → H dx = none → dx ≠ x → sp (.ref x :: vs) (upd (upd H dx (.own x)) x (.ins C dx [])) (fun v H2 => v = .non ∧ Q (.ref x) H2) E) :
    wpAny (model X.prog X.w) X.A (call (.ref C) us) (EP X pins σ Q) X.xe s := by
  have hq := h (s.heap.objs.size + 1) s.heap.objs.size (I.hok.fresh (Nat.le_succ _)) (I.hok.fresh (Nat.le_refl _)) (Nat.ne_of_lt (Nat.lt_succ_self _))
  have I2 := L2.Inv.made (C := C) I
  have r2 : Vals (V.ref (s.heap.objs.size + 1) :: vs) (Value.ref (s.heap.objs.size + 1) :: us) := .cons rfl r
  have hl : (Value.ref (s.heap.objs.size + 1) :: us).length = ps.length := by
    rw [← r2.length]; exact F.len _ _ _ _ hq
  have hb2 := hb _ (Value.ref (s.heap.objs.size + 1) :: us) I2.kIn (by simpa using hl)
  rw [List.append_nil] at hb2
  have gd2 : (X.A.under (.builtin "type.__call__" ⟨.ref C :: us, []⟩)).guards = some [] := by
    show pushGuards (Code.builtin "type.__call__" ⟨.ref C :: us, []⟩).guards X.A.guards = some []
    rw [gd]
    rfl
  refine wpAny_call (make_map (f := f) I.kIn M.makes M.init (beq_iff_eq.mp M.fn) (codeAny_mono (F.run _ X.stack _ _ ⟨Value.ref (s.heap.objs.size + 1) :: us, []⟩ (Value.ref (s.heap.objs.size + 1) :: us) _ _ E (hr.make C us []) gd2
    (I2.env0.make C us []) hb2 r2 hq) fun r s' hq' => ?_))
  cases r with
  | error e => exact hx pins σ _ _ e s' I2 hq'
  | ok fl =>
    cases fl with
    | ret u =>
      obtain ⟨v, H', I3, rv, ev, q3⟩ := I2.after hq'
      subst ev
      exact ⟨rv, ⟨V.ref (s.heap.objs.size + 1), H', I3, rfl, q3⟩⟩
    | next => exact False.elim hq'
    | brk => exact False.elim hq'
    | cont => exact False.elim hq'
theorem pe_makeG (M : Mk X.K C f) (F : Fn X.prog X.w X.K X.mg X.base CX k f fd ps sp) (hr : Room (k + 1) X.A) (gd : X.A.guards = some []) (hg : Gl X x) (hm : X.mg x = some (.ref C)) (hb : Binds X.K fd ps []) (hx : Passes CX X E)
    (ha : PA X (e :: es) t) (hdb : (x == ("__debug__" : Str)) = false := by decide) (he : starEach (e :: es) X.env = (false, eval e X.env) :: starEach es X.env := by rfl) (hpl : (backTo pos (starEach es X.env)).any (·.1) = false := by rfl) :
    PE X (.Call (.Name x pp) (e :: es) [] pos) (fun σ H Q => t σ H fun vs H1 => ∀ x dx, H1 x = none → H1 dx = none → dx ≠ x → sp (.ref x :: vs) (upd (upd H1 dx (.own x)) x (.ins C dx [])) (fun v H2 => v = .non ∧ Q (.ref x) H2) E) := by
  refine ⟨fun pins s σ H Q I h => ?_⟩
  refine wpAny_Call_Name_kw (ld_glob I hg hm ?_ hdb)
  refine PySem.W.callWith_K (h₀ := X.base) I.ok.mod.kin M.kp (thn (ha.run pos pins s σ H _ I h) fun us s1 ⟨vs, H1, I1, r, q⟩ => ⟨I1.kIn, ?_⟩) he hpl
  exact run_makeG M F hr gd hb hx I1 r q
/-- f(k = e, ..): the values in the order that gg says -/
theorem pe_callKG {kws : List Keyword} {tk : TA} {gg : List Value → List Value} {gV : List V → List V} (F : Fn X.prog X.w X.K X.mg X.base CX k f fd ps sp) (hr : Room k X.A) (gd : X.A.guards = some []) (hg : Gl X x) (hm : X.mg x = some (.ref f)) (hk : PySem.W.keepIn X.K (.ref f) = true)
    (hb : ∀ (s : Shared) (ws : List Value), X.K.In s.heap → (gg ws).length = ps.length → BindsTo s fd ⟨[], ks.zip ws⟩ (ps.zip (gg ws))) (hrel : ∀ {zs : List V} {ws : List Value}, Vals zs ws → Vals (gV zs) (gg ws)) (hx : Passes CX X E)
    (hkw : PK X kws tk) (hall : (backToKw pos (keywordEach kws X.env)).all (·.1.isSome) = true := by rfl) (hks : (backToKw pos (keywordEach kws X.env)).filterMap (·.1) = ks := by rfl) (hdb : (x == ("__debug__" : Str)) = false := by decide)
    (hpl : ((backTo pos (starEach [] X.env)).any (·.1) || (backToKw pos (keywordEach kws X.env)).any (·.1.isNone)) = false := by rfl) :
    PE X (.Call (.Name x pp) [] kws pos) (fun σ H Q => tk σ H fun zs H1 => sp (gV zs) H1 Q E) := by
  refine ⟨fun pins s σ H Q I h => ?_⟩
  refine wpAny_Call_Name_kw (ld_glob I hg hm ?_ hdb)
  refine PySem.W.callWith_KW0 (h₀ := X.base) I.ok.mod.kin hk hall (thn (hkw.run pos pins s σ H _ I h) fun ws s2 ⟨zs, H2, I2, rz, q2⟩ => ⟨I2.kIn, ?_⟩) hpl
  rw [hks]
  have r2 := hrel rz
  have hl : (gg ws).length = ps.length := by rw [← r2.length]; exact F.len _ _ _ _ q2
  exact wpAny_call (codeAny_mono (F.run X.A X.stack s2 H2 ⟨[], ks.zip ws⟩ (gg ws) (gV zs) Q E hr gd I2.env0 (hb s2 ws I2.kIn hl) r2 q2) fun r s' hq => fn_end hx I2 hq)
end
/-- THE RULE of a def: by its body -/
theorem fnG {CX : CXT} {P : Program} {w : World} {K : PySem.W.Frag} {mg : Str → Option Value} {base : Heap} {x qual : Str} {params : Arguments} {body : List Stmt} {scope : Scope} {f : Addr} {fd : FuncData} {N ps : List Str} {k : Nat} {sp : Sp} (F : FunD K x qual params body scope [] [] f fd) (S : FnScope N ps scope)
    (len : ∀ vs H Q E, sp vs H Q E → vs.length = ps.length)
    (hbody : ∀ (cdv : Value) (A : Around) (outer : List PySem.Env) (s : Shared) (H : Hp) (vs : List V) (Q : VK) (E : XK), Room k (A.deeper (envOfC qual scope s.heap.objs.size f cdv)) → A.guards = some [] → sp vs H Q E →
      ∃ t, PSs (cxOf CX P w K mg base N qual scope f cdv A outer s H E) body t ∧ t { nx := fun _ H' => Q .non H', rt := Q } (start N vs) H) : Fn P w K mg base CX (k + 1) f fd ps sp := by
  obtain ⟨oc, od, dV, kV, doc, pm, an, cdv, ct, osl, rfl, lk, hcd, _, _⟩ := F.ex
  refine ⟨len, fun A outer s H args us vs Q E hr gd e0 hb r hsp => ?_⟩
  have KX : K.In s.heap := e0.mod.kin.keeps fun b o e => (e0.bs b o e).1
  have lim : s.heap.NoLimit := e0.mod.nolimit.keeps fun b o e => (e0.bs b o e).1
  refine codeAny_call_function hr.depth (KX _ _ lk) rfl S.co S.gen rfl (PySem.W.codeRec_of KX hcd) (hb _ _ _ _ ?_)
  refine wpAny_newFunctionEnv_cells S.kind (fun ⟨n, v⟩ hy => ?_) fun env he s1 X => ?_
  · rcases S.par n (List.of_mem_zip hy).1 with q | q
    · exact .inl q
    · exact .inr ⟨q, PySem.W.cellsFrom_some _ _ _ (.inl q)⟩
  subst he
  refine ⟨lim.keeps X.toInCall.keep, codeAny_func ?_⟩
  obtain ⟨t, ht, hq⟩ := hbody cdv A outer s H vs Q E (hr.deeper _) gd hsp
  have I : L2.Inv (cxOf CX P w K mg base N qual scope f cdv A outer s H E) [] (start N vs) H s1 := inv_start S hr.hd e0 (len _ _ _ _ hsp) r X
  refine wpAny_mono (ht.run [] s1 (start N vs) H _ I hq) (fun fl s' hs => ?_) fun e s' hs => hs
  cases fl with
  | ret u =>
    obtain ⟨v, σ', H', J, rv, q⟩ := hs
    exact ⟨v, H', J.os, J.bare, J.base, J.hok, rv, q⟩
  | next =>
    obtain ⟨σ', H', J, q⟩ := hs
    exact ⟨V.non, H', J.os, J.bare, J.base, J.hok, rfl, q⟩
  | brk =>
    obtain ⟨_, _, _, q⟩ := hs
    exact False.elim q
  | cont =>
    obtain ⟨_, _, _, q⟩ := hs
    exact False.elim q
end Nv

namespace Nv
open PySem PySem.Spec PyProof.Rows L2
/-! ## promises of defs -/
inductive FR where
  | ok (d : D) | exc (c : Nat) (d : D) | err
/-- behind an error of the class c that holds d -/
def ExcTo (G : CT) (K : PySem.W.Frag) (Z : List Addr) (H : Hp) (c : Nat) (d : D) (E : XK) : Prop := ∀ dd v f H', Ex H H' → G.flds c = [f] → H' dd = some (.xd [(f, v)]) → Rep G K (hid Z H') d v → E (.ref (G.adr c)) (some dd) H'
/-- a def that changes nothing -/
def spP (G : CT) (K : PySem.W.Frag) (n : Nat) (m : List D → FR) : Sp := fun vs H Q E => ∃ (Z : List Addr) (ds : List D), ds.length = n ∧ (∀ a ∈ Z, ∃ o, H a = some o) ∧ Reps G K (hid Z H) ds vs ∧ match m ds with
  | .ok d => ∀ v H', Ex H H' → Rep G K (hid Z H') d v → Q v H'
  | .exc c d => ExcTo G K Z H c d E
  | .err => False
/-- a def that hands back a new list -/
def spF (G : CT) (K : PySem.W.Frag) (n : Nat) (m : List D → Option (List D)) : Sp := fun vs H Q E => ∃ (Z : List Addr) (ds : List D), ds.length = n ∧ (∀ a ∈ Z, ∃ o, H a = some o) ∧ Reps G K (hid Z H) ds vs ∧ ∃ xs, m ds = some xs ∧
  ∀ p ws H', Ex H H' → H' p = none → Reps G K (hid Z H') xs ws → Q (.ref p) (upd H' p (.lst ws))
inductive FI where
  | ok (d s : D) | exc (c : Nat) (d s : D) | err
/-- a def that changes the list or object it is handed first -/
def spI (G : CT) (K : PySem.W.Frag) (n : Nat) (m : D → List D → FI) : Sp := fun vs H Q E => ∃ (Z : List Addr) (a : Addr) (us : List V) (s : D) (ds : List D), vs = .ref a :: us ∧ ds.length = n ∧ a ∈ Z ∧ (∀ b ∈ Z, ∃ o, H b = some o) ∧ OwnAt G K Z H a s ∧ Reps G K (hid Z H) ds us ∧ match m s ds with
  | .ok d s' => ∀ v H', (∀ b o, b ≠ a → H b = some o → H' b = some o) → OwnAt G K Z H' a s' → Rep G K (hid Z H') d v → Q v H'
  | .exc c d s' => ∀ dd v f H', (∀ b o, b ≠ a → H b = some o → H' b = some o) → OwnAt G K Z H' a s' → G.flds c = [f] → H' dd = some (.xd [(f, v)]) → Rep G K (hid Z H') d v → E (.ref (G.adr c)) (some dd) H'
  | .err => False
section
variable {X : Cx} {P : Pr} {pos : Pos} {e a b c : Expr} {es : List Expr} {f g : M D}
/-! ### calls -/
def mCall (m : List D → FR) (as : M (List D)) : M D := mBind as fun ds ρ => match m ds with
  | .ok d => .ok d ρ
  | .exc c d => .exc c d ρ
  | .err => .err
/-- errors are taken as P wants them -/
abbrev Tk (X : Cx) (P : Pr) : Prop := Takes X (fun c d _ H => P.E c d H)
theorem Tk.pass (tk : Tk X P) : Passes (L2.CX X.prog X.w) X P.E := passes_call tk fun _ _ _ _ h => h
theorem hz_live {O : List Addr} {T : Tmp} {ρ : Rho} {σ : L2.St} {H : Hp} (I : Env X.K P O T ρ σ H) : ∀ a ∈ hz T O P.Z, ∃ o, H a = some o := I.live
/-- the promise of a pure def, from a result -/
theorem call_ok {O : List Addr} {T : Tmp} {ρ : Rho} {σ : L2.St} {H : Hp} {m : List D → FR} {n : Nat} {ds : List D} {vs : List V} {Q : VK} (I : Env X.K P O T ρ σ H) (r : Reps P.G X.K (hid (hz T O P.Z) H) ds vs) (hn : ds.length = n)
    (p : Post X.K P (RE X.K P) O T σ H (match m ds with | .ok d => .ok d ρ | .exc c d => .exc c d ρ | .err => .err) Q) : spP P.G X.K n m vs H Q P.E := by
  refine ⟨hz T O P.Z, ds, hn, I.live, r, ?_⟩
  cases hm : m ds with
  | ok d => rw [hm] at p; exact fun v H' e q => p v H' (I.ex e) (ex_hid e) q
  | exc c d => rw [hm] at p; exact fun dd v f H' e hf q1 q2 => p dd v f H' (I.ex e) (ex_hid e) hf q1 q2
  | err => rw [hm] at p; exact p
/-- f(e, ..) -/
def mCallN (n : Nat) (m : List D → FR) (as : M (List D)) : M D := mBind as fun ds ρ => if ds.length = n then (match m ds with
  | .ok d => .ok d ρ
  | .exc c d => .exc c d ρ
  | .err => .err) else .err
theorem ifN {α β : Type} {R : List Addr → Hp → α → β → Prop} {O : List Addr} {T : Tmp} {σ : L2.St} {H : Hp} {c : Prop} [Decidable c] {r : Res α} {Q : β → Hp → Prop} (p : Post X.K P R O T σ H (if c then r else .err) Q) : c ∧ Post X.K P R O T σ H r Q := by
  split at p
  · exact ⟨by assumption, p⟩
  · exact (show False from p).elim
theorem dE_call {k fA : Nat} {fd : FuncData} {ps : List Str} {n : Nat} {m : List D → FR} {x : Str} {p : Pos} {as : M (List D)} (F : Fn X.prog X.w X.K X.mg X.base (L2.CX X.prog X.w) k fA fd ps (spP P.G X.K n m)) (hr : Room k X.A) (gd : X.A.guards = some []) (tk : Tk X P) (hg : Gl X x) (hm : X.mg x = some (.ref fA)) (hk : PySem.W.keepIn X.K (.ref fA) = true)
    (hb : Binds X.K fd ps []) (ha : DA X P (e :: es) as) (hdb : (x == ("__debug__" : Str)) = false := by decide) (he : starEach (e :: es) X.env = (false, eval e X.env) :: starEach es X.env := by rfl) (hpl : (backTo pos (starEach es X.env)).any (·.1) = false := by rfl) :
    DE X P (.Call (.Name x p) (e :: es) [] pos) (mCallN n m as) :=
  PE.imp (pe_callG F hr gd hg hm hk hb tk.pass ha hdb he hpl) fun σ H Q ⟨O, T, ρ, I, p⟩ => ⟨O, T, ρ, I, Post.bind p fun ds ρ' vs H1 I1 e1 r1 p1 => by
    obtain ⟨hn, p2⟩ := ifN p1
    exact call_ok I1 r1 hn p2⟩
/-- f(x, e, ..), x a list or object of one's own that f changes -/
def ioRes (i n : Nat) (m : D → List D → FI) (x : D) (ds : List D) (ρ : Rho) : Res D := if ds.length = n then (match m x ds with
  | .ok d s' => .ok d (ρ.set i (.own s'))
  | .exc c d s' => .exc c d (ρ.set i (.own s'))
  | .err => .err) else .err
def mCallI (i n : Nat) (m : D → List D → FI) (as : M (List D)) : M D := mOwnThen i as fun x ds ρ => ioRes i n m x ds ρ
theorem callI_ok {O : List Addr} {T : Tmp} {ρ : Rho} {σ : L2.St} {H : Hp} {i n : Nat} {m : D → List D → FI} {x : D} {ds : List D} {us : List V} {a : Addr} {Q : VK} (I : Env X.K P O T ρ σ H) (hi : ρ[i]? = some (.own x)) (ha : σ[i]? = some (some (.ref a))) (hO : a ∈ O)
    (q3 : OwnAt P.G X.K (hz T O P.Z) H a x) (r : Reps P.G X.K (hid (hz T O P.Z) H) ds us) (p : Post X.K P (RE X.K P) O T σ H (ioRes i n m x ds ρ) Q) : spI P.G X.K n m (.ref a :: us) H Q P.E := by
  unfold ioRes at p
  obtain ⟨hn, p⟩ := ifN p
  have ex : ∀ {H' : Hp}, (∀ b o, b ≠ a → H b = some o → H' b = some o) → Ex (hid (hz T O P.Z) H) (hid (hz T O P.Z) H') := fun kp b u e => by
    obtain ⟨w1, w2⟩ := hid_some e
    rw [hid_out w1]
    exact kp b u (fun z => w1 (by rw [z]; exact hz_O hO)) w2
  refine ⟨hz T O P.Z, a, us, x, ds, rfl, hn, hz_O hO, I.live, q3, r, ?_⟩
  cases hms : m x ds with
  | ok d s' => simp only [hms] at p; exact fun v H' kp hA rv => p v H' (I.ownCall hi ha hO kp hA) (ex kp) rv
  | exc c d s' => simp only [hms] at p; exact fun dd v f H' kp hA hf q1 q2 => p dd v f H' (I.ownCall hi ha hO kp hA) (ex kp) hf q1 q2
  | err => simp only [hms] at p; exact p
theorem dE_callI {k fA : Nat} {fd : FuncData} {ps : List Str} {n i : Nat} {m : D → List D → FI} {x y : Str} {p py : Pos} {as : M (List D)} (F : Fn X.prog X.w X.K X.mg X.base (L2.CX X.prog X.w) k fA fd ps (spI P.G X.K n m)) (hr : Room k X.A) (gd : X.A.guards = some []) (tk : Tk X P) (hg : Gl X x) (hm : X.mg x = some (.ref fA)) (hk : PySem.W.keepIn X.K (.ref fA) = true)
    (hb : Binds X.K fd ps []) (hN : X.N[i]? = some y) (hv : Vis X.env.scope y) (ha : DA X P es as) (hdb : (x == ("__debug__" : Str)) = false := by decide) (hd : (y == ("__debug__" : Str)) = false := by decide) (hcd : (y == ("__classdict__" : Str)) = false := by decide)
    (he : starEach (.Name y py :: es) X.env = (false, eval (.Name y py) X.env) :: starEach es X.env := by rfl) (hpl : (backTo pos (starEach es X.env)).any (·.1) = false := by rfl) :
    DE X P (.Call (.Name x p) (.Name y py :: es) [] pos) (mCallI i n m as) :=
  PE.imp (pe_callG F hr gd hg hm hk hb tk.pass (pa_cons (pe_var hN hv hd hcd) ha he) hdb he hpl) fun σ H Q ⟨O, T, ρ, I, p⟩ => by
    obtain ⟨a, h1, k⟩ := ownThen (R1 := RA X.K P) I p
    refine ⟨.ref a, h1, O, T, ρ, I, k _ fun ds ρ2 us H2 x I2 e2 r2 hx hO q3 p2 => ?_⟩
    show spI P.G X.K n m (.ref a :: us) H2 Q P.E
    exact callI_ok I2 hx h1 hO q3 r2 p2
/-- as mOwnThen, of a list -/
def mOwnL {α β : Type} (i : Nat) (g : M α) (k : D → α → M β) : M β := fun ρ => match ρ[i]? with
  | some (.own (.lst _)) => mOwnThen i g k ρ
  | _ => .err
theorem own_ty {i : Nat} {O : List Addr} {T : Tmp} {ρ : Rho} {σ : L2.St} {H : Hp} {α γ δ : Type} {R : List Addr → Hp → γ → δ → Prop} {g : M α} {k : D → α → M γ} {Q : δ → Hp → Prop} (I : Env X.K P O T ρ σ H) (p : Post X.K P R O T σ H (mOwnL i g k ρ) Q) :
    Post X.K P R O T σ H (mOwnThen i g k ρ) Q ∧ ∀ a, σ[i]? = some (some (.ref a)) → tyV X.K "list" (.ref a) H := by
  unfold mOwnL at p
  cases h : ρ[i]? with
  | none => rw [h] at p; exact (show False from p).elim
  | some s =>
    rw [h] at p
    cases s with
    | no => exact (show False from p).elim
    | shr d => exact (show False from p).elim
    | own d =>
      cases d with
      | lst ds =>
        refine ⟨p, fun a h1 => ?_⟩
        obtain ⟨a', w1, w2, w3⟩ := I.own i _ h
        rw [h1] at w1
        cases w1
        obtain ⟨vs, w4, _⟩ := w3
        exact .inl ⟨rfl, vs, SqL.of w4⟩
      | _ => exact (show False from p).elim
/-- x.pop(k), x a list of one's own -/
def mPop (i : Nat) (f : M D) : M D := mOwnL i f fun x k ρ => match x, k with
  | .lst ds, .int j => (match seqIndex? j ds.length with
    | some n => (match ds[n]? with
      | some d => if -1000000 ≤ j ∧ j ≤ 1000000 then .ok d (ρ.set i (.own (.lst (ds.eraseIdx n)))) else .err
      | none => .err)
    | none => .err)
  | _, _ => .err
theorem dE_pop {i : Nat} {y : Str} {py : Pos} {apos cpos : Pos} (hN : X.N[i]? = some y) (hv : Vis X.env.scope y) (ha : DE X P e f) (hd : (y == ("__debug__" : Str)) = false := by decide) (hcd : (y == ("__classdict__" : Str)) = false := by decide)
    (hbase : attributeBase (.Name y py) "pop" X.env (eval (.Name y py) X.env) = eval (.Name y py) X.env := by rfl)
    (hfew : ((backTo cpos (starEach (e :: []) X.env)).all (fun x => !x.1) && (backToKw cpos (keywordEach [] X.env)).all (fun x => x.1.isSome) && decide ((e :: []).length + ([] : List Keyword).length + (if ([] : List Keyword).isEmpty then 0 else 1) < 30)) = true := by rfl)
    (hline : (apos.endLine == cpos.line) = true := by rfl) (hs : starEach (e :: []) X.env = (false, eval e X.env) :: starEach [] X.env := by rfl) (hplain : (backTo cpos (starEach [] X.env)).any (·.1) = false := by rfl) :
    DE X P (.Call (.Attribute (.Name y py) "pop" apos) [e] [] cpos) (mPop i f) :=
  PE.imp (pe_bm PySem.F.plainAttrs_list PySem.F.slot_list_pop PySem.F.type_list_pop mt_popAt (pe_var hN hv hd hcd) (pa_cons ha pa_nil hs) hbase hfew hline hs hplain) fun σ H Q ⟨O, T, ρ, I, p⟩ => by
    obtain ⟨p, ty⟩ := own_ty I p
    obtain ⟨a, h1, k⟩ := ownThen (R1 := RE X.K P) I p
    have ty := ty a h1
    refine ⟨.ref a, h1, ty, O, T, ρ, I, k _ fun y ρ2 u H2 x I2 e2 r2 hx hO q3 p2 => ?_⟩
    cases x with
    | lst ds =>
      cases y with
      | int j =>
        simp only [RE, Rep] at r2
        obtain ⟨ws, q4, q5⟩ := q3
        cases h3 : seqIndex? j ds.length with
        | none => simp only [h3] at p2; exact (show False from p2).elim
        | some n =>
          cases h4 : ds[n]? with
          | none => simp only [h3, h4] at p2; exact (show False from p2).elim
          | some d =>
            simp only [h3, h4] at p2
            obtain ⟨hj, p3⟩ := ifN p2
            obtain ⟨v, w1, w2⟩ := q5.get h4
            refine ⟨a, ws, j, n, v, rfl, by rw [r2], q4, by omega, by omega, by rw [q5.len]; exact h3, w1, ?_⟩
            exact p3 v _ (I2.ownSet hx h1 hO (q5.erase n)) (ex_hid_upd (hz_O hO)) (Rep.ex (ex_hid_upd (hz_O hO)) _ _ w2)
      | _ => exact (show False from p2).elim
    | _ => exact (show False from p2).elim
end
end Nv

namespace Nv
open PySem PySem.Spec PyProof.Rows L2
/-! ## statements -/
inductive SR where
  | nx (ρ : Rho) | rt (d : D) (ρ : Rho) | rf (ds : List D) (ρ : Rho) | bk (ρ : Rho) | ct (ρ : Rho) | exc (c : Nat) (d : D) (ρ : Rho) | err
abbrev MS := Rho → SR
section
variable (K : PySem.W.Frag) (P : Pr)
/-- behind a statement: the new state, what was shared stays -/
abbrev Bh (O : List Addr) (H : Hp) (O' : List Addr) (H' : Hp) : Prop := Ex (hid (hz [] O P.Z) H) (hid (hz [] O' P.Z) H')
def SPost (O : List Addr) (H : Hp) (r : SR) (E : Ends) : Prop := match r with
  | .nx ρ => ∀ O' σ' H', Env K P O' [] ρ σ' H' → Bh P O H O' H' → E.nx σ' H'
  | .rt d ρ => ∀ O' σ' H' v, Env K P O' [] ρ σ' H' → Bh P O H O' H' → Rep P.G K (hid (hz [] O' P.Z) H') d v → E.rt v H'
  | .rf ds ρ => ∀ O' σ' H' p vs, Env K P O' [] ρ σ' H' → Bh P O H O' H' → H' p = none → Reps P.G K (hid (hz [] O' P.Z) H') ds vs → E.rt (.ref p) (upd H' p (.lst vs))
  | .bk ρ => ∀ O' σ' H', Env K P O' [] ρ σ' H' → Bh P O H O' H' → E.bk σ' H'
  | .ct ρ => ∀ O' σ' H', Env K P O' [] ρ σ' H' → Bh P O H O' H' → E.ct σ' H'
  | .exc c d ρ => ∀ O' σ' dd v f H', Env K P O' [] ρ σ' H' → Bh P O H O' H' → P.G.flds c = [f] → H' dd = some (.xd [(f, v)]) → Rep P.G K (hid (hz [] O' P.Z) H') d v → P.E (.ref (P.G.adr c)) (some dd) H'
  | .err => False
def tS (F : MS) : TS := fun E σ H => ∃ O ρ, Env K P O [] ρ σ H ∧ SPost K P O H (F ρ) E
end
abbrev DS (X : Cx) (P : Pr) (st : Stmt) (F : MS) : Prop := PS X st (tS X.K P F)
abbrev DSs (X : Cx) (P : Pr) (st : List Stmt) (F : MS) : Prop := PSs X st (tS X.K P F)
section
variable {K : PySem.W.Frag} {P : Pr} {O O1 : List Addr} {H H1 : Hp} {r : SR} {E E' : Ends}
theorem SPost.step (h : SPost K P O H r E) (b : Bh P O H O1 H1) : SPost K P O1 H1 r E := by
  cases r with
  | nx ρ => exact fun O' σ' H' I e => h O' σ' H' I (b.trans e)
  | rt d ρ => exact fun O' σ' H' v I e => h O' σ' H' v I (b.trans e)
  | rf d ρ => exact fun O' σ' H' v vs I e => h O' σ' H' v vs I (b.trans e)
  | bk ρ => exact fun O' σ' H' I e => h O' σ' H' I (b.trans e)
  | ct ρ => exact fun O' σ' H' I e => h O' σ' H' I (b.trans e)
  | exc c d ρ => exact fun O' σ' dd v f H' I e => h O' σ' dd v f H' I (b.trans e)
  | err => exact h
theorem SPost.nxt {ρ : Rho} {σ : L2.St} (h : SPost K P O H (.nx ρ) E) (I : Env K P O [] ρ σ H) : E.nx σ H := h O σ H I (Evl.Ex.refl _)
def mSeq (F G : MS) : MS := fun ρ => match F ρ with
  | .nx ρ' => G ρ'
  | r => r
def mNext : MS := fun ρ => .nx ρ
/-- the result of an expression, then a statement's -/
def sBind {α : Type} (m : M α) (k : α → MS) : MS := fun ρ => match m ρ with
  | .ok a ρ' => k a ρ'
  | .exc c d ρ' => .exc c d ρ'
  | .err => .err
theorem SPost.bind {α β : Type} {R : List Addr → Hp → α → β → Prop} {m : M α} {k : α → MS} {σ : L2.St} {ρ : Rho} {Q : β → Hp → Prop} (p : SPost K P O H (sBind m k ρ) E)
    (h : ∀ a ρ' b H1, Env K P O [] ρ' σ H1 → Bh P O H O H1 → R (hz [] O P.Z) H1 a b → SPost K P O H1 (k a ρ') E → Q b H1) : Post K P R O [] σ H (m ρ) Q := by
  unfold sBind at p
  cases hm : m ρ with
  | ok a ρ' =>
    rw [hm] at p
    exact fun b H' I e q => h a ρ' b H' I e q (SPost.step p e)
  | exc c d ρ' =>
    rw [hm] at p
    exact fun dd v f H' I e hf q1 q2 => p O σ dd v f H' I e hf q1 q2
  | err => rw [hm] at p; exact p
end
/-- an expression in a statement: nothing is under way -/
theorem tM0 {K : PySem.W.Frag} {P : Pr} {α β : Type} {R : List Addr → Hp → α → β → Prop} {m : M α} {O : List Addr} {ρ : Rho} {σ : L2.St} {H : Hp} {Q : β → Hp → Prop} (I : Env K P O [] ρ σ H) (p : Post K P R O [] σ H (m ρ) Q) : tM K P R m σ H Q := ⟨O, [], ρ, I, p⟩
section
variable {X : Cx} {P : Pr} {pos : Pos} {e : Expr} {st : Stmt} {rest : List Stmt} {F G : MS} {f : M D}
theorem dSs_nil : DSs X P [] mNext := PSs.imp pss_nil fun E σ H ⟨O, ρ, I, p⟩ => p.nxt I
theorem dSs_cons (h1 : DS X P st F) (h2 : DSs X P rest G) : DSs X P (st :: rest) (mSeq F G) := PSs.imp (pss_cons h1 h2) fun E σ H ⟨O, ρ, I, p⟩ => ⟨O, ρ, I, by
  unfold mSeq at p
  cases hF : F ρ with
  | nx ρ' => rw [hF] at p; exact fun O' σ' H' I' b => ⟨O', ρ', I', SPost.step p b⟩
  | rt d ρ' => rw [hF] at p; exact p
  | rf d ρ' => rw [hF] at p; exact p
  | bk ρ' => rw [hF] at p; exact p
  | ct ρ' => rw [hF] at p; exact p
  | exc c d ρ' => rw [hF] at p; exact p
  | err => rw [hF] at p; exact p⟩
theorem dSs_one (h1 : DS X P st F) : DSs X P [st] F := pss_one h1
theorem dS_pass : DS X P (.Pass pos) mNext := PS.imp ps_pass fun E σ H ⟨O, ρ, I, p⟩ => p.nxt I
def mRt (f : M D) : MS := sBind f fun d ρ => .rt d ρ
theorem dS_ret (he : DE X P e f) : DS X P (.Return (some e) pos) (mRt f) := PS.imp (ps_ret he) fun E σ H ⟨O, ρ, I, p⟩ => tM0 I (SPost.bind p fun d ρ' v H1 I1 b1 r1 p1 => p1 O σ H1 v I1 (Evl.Ex.refl _) r1)
def mRtF (f : M (List D)) : MS := sBind f fun d ρ => .rf d ρ
theorem dS_retF {f : M (List D)} (he : DF X P e f) : DS X P (.Return (some e) pos) (mRtF f) := PS.imp (ps_ret he) fun E σ H ⟨O, ρ, I, p⟩ => tM0 I (SPost.bind p fun d ρ' pv H1 I1 b1 r1 p1 => p1 O σ H1 pv.1 pv.2 I1 (Evl.Ex.refl _) r1.1 r1.2)
def mRtN : MS := fun ρ => .rt .non ρ
theorem dS_retN : DS X P (.Return none pos) mRtN := PS.imp ps_retN fun E σ H ⟨O, ρ, I, p⟩ => p O σ H .non I (Evl.Ex.refl _) (by simp only [Rep])
/-- return x, a list of one's own -/
def mRtO (i : Nat) : MS := fun ρ => match ρ[i]? with
  | some (.own d) => .rt d (ρ.set i .no)
  | _ => .err
/-- a slot is given up: its list is shared from now on -/
theorem EnvOk.give {Gc : CT} {K : PySem.W.Frag} {B : Hp} {io : List (Nat × Addr)} {Z O : List Addr} {T : Tmp} {ρ : Rho} {σ : L2.St} {H : Hp} {i : Nat} {d : D} {a : Addr} {s : Sl} (I : EnvOk Gc K B io Z O T ρ σ H) (hi : ρ[i]? = some (.own d)) (ha : σ[i]? = some (some (.ref a))) (hio : ∀ p ∈ io, p.1 ≠ i) (hs : s = .no ∨ s = .shr d) :
    EnvOk Gc K B io Z (O.filter (fun b => decide (b ≠ a))) T (ρ.set i s) σ H ∧ Rep Gc K (hid (hz T (O.filter (fun b => decide (b ≠ a))) Z) H) d (.ref a) ∧ Ex (hid (hz T O Z) H) (hid (hz T (O.filter (fun b => decide (b ≠ a))) Z) H) := by
  have sub : Ex (hid (hz T O Z) H) (hid (hz T (O.filter (fun b => decide (b ≠ a))) Z) H) := ex_sub fun b hb => by
    unfold hz at hb ⊢
    simp only [List.append_assoc, List.mem_append, List.mem_filter] at hb ⊢
    rcases hb with h | ⟨h, _⟩ | h
    · exact .inl h
    · exact .inr (.inl h)
    · exact .inr (.inr h)
  obtain ⟨a', h1, h2, h3⟩ := I.own i d hi
  rw [ha] at h1
  cases h1
  have hZ : a ∉ Z := fun z => by
    obtain ⟨p, q1, q2⟩ := I.nz a h2 z
    obtain ⟨w1, w2, e, w3⟩ := I.io p q1
    exact hio p q1 (I.inj p.1 i e d p.2 w3 hi w1 (by rw [q2]; exact ha))
  have na : a ∉ hz T (O.filter (fun b => decide (b ≠ a))) Z := by
    unfold hz
    simp only [List.append_assoc, List.mem_append, List.mem_filter, List.mem_map, not_or]
    exact ⟨fun ⟨p, q1, q2⟩ => (I.bT p q1).2 (by rw [q2]; exact h2), fun z => by simp at z, hZ⟩
  have rep : Rep Gc K (hid (hz T (O.filter (fun b => decide (b ≠ a))) Z) H) d (.ref a) := by
    cases d with
    | lst ds =>
      obtain ⟨vs, q1, q2⟩ := h3
      simp only [Rep]
      exact ⟨a, vs, rfl, by rw [hid_out na]; exact q1, Reps.ex sub _ _ q2⟩
    | ins c ds =>
      obtain ⟨dx, vs, q1, q3, q2⟩ := h3
      simp only [Rep]
      exact ⟨a, dx, vs, rfl, by rw [hid_out na]; exact q1, q3, Reps.ex sub _ _ q2⟩
    | _ => exact h3.elim
  refine ⟨?_, rep, sub⟩
  exact {
  len := by rw [List.length_set]; exact I.len
  base := I.base
  bO := fun b hb => I.bO b (List.mem_filter.mp hb).1
  bT := fun p hp => ⟨(I.bT p hp).1, fun z => (I.bT p hp).2 (List.mem_filter.mp z).1⟩
  live := fun b hb => I.live b (by
    unfold hz at hb ⊢
    simp only [List.append_assoc, List.mem_append, List.mem_filter] at hb ⊢
    rcases hb with h | ⟨h, _⟩ | h
    · exact .inl h
    · exact .inr (.inl h)
    · exact .inr (.inr h))
  tmp := I.tmp
  nz := fun b hb hZ => I.nz b (List.mem_filter.mp hb).1 hZ
  shr := fun j e q => by
    rcases get_set q with ⟨rfl, w⟩ | ⟨w1, w2⟩
    · rcases hs with rfl | rfl
      · cases w
      · cases w; exact ⟨_, ha, rep⟩
    · obtain ⟨v, q1, q2⟩ := I.shr j e w2
      exact ⟨v, q1, Rep.ex sub _ _ q2⟩
  own := fun j e q => by
    rcases get_set q with ⟨rfl, w⟩ | ⟨w1, w2⟩
    · rcases hs with rfl | rfl <;> cases w
    · obtain ⟨b, q1, q2, q3⟩ := I.own j e w2
      have hb : b ≠ a := fun z => w1 (I.inj j i e d a w2 hi (by rw [← z]; exact q1) ha)
      exact ⟨b, q1, List.mem_filter.mpr ⟨q2, by simpa using hb⟩, q3.ex sub rfl⟩
  inj := fun j k e f b w1 w2 w3 w4 => by
    rcases get_set w1 with ⟨_, w⟩ | ⟨_, v1⟩
    · rcases hs with rfl | rfl <;> cases w
    · rcases get_set w2 with ⟨_, w⟩ | ⟨_, v2⟩
      · rcases hs with rfl | rfl <;> cases w
      · exact I.inj j k e f b v1 v2 w3 w4
  io := fun p hp => by
    obtain ⟨w1, w2, e, w3⟩ := I.io p hp
    have n := hio p hp
    refine ⟨w1, List.mem_filter.mpr ⟨w2, ?_⟩, e, by rw [List.getElem?_set_ne (fun z => n z.symm)]; exact w3⟩
    simp only [decide_not, Bool.not_eq_true', decide_eq_false_iff_not]
    exact fun z => n (I.inj p.1 i e d p.2 w3 hi w1 (by rw [z]; exact ha)) }
theorem dS_retO {i : Nat} {x : Str} {p1 : Pos} (hN : X.N[i]? = some x) (hv : Vis X.env.scope x) (hio : ∀ P' : Pr, P' = P → ∀ p ∈ P'.io, p.1 ≠ i) (hd : (x == ("__debug__" : Str)) = false := by decide) (hcd : (x == ("__classdict__" : Str)) = false := by decide) : DS X P (.Return (some (.Name x p1)) pos) (mRtO i) :=
  PS.imp (ps_ret (pe_var hN hv hd hcd)) fun E σ H ⟨O, ρ, I, p⟩ => by
    unfold mRtO at p
    cases h : ρ[i]? with
    | none => rw [h] at p; exact (show False from p).elim
    | some s =>
      rw [h] at p
      cases s with
      | no => exact (show False from p).elim
      | shr d => exact (show False from p).elim
      | own d =>
        obtain ⟨a, h1, h2, h3⟩ := I.own i d h
        obtain ⟨J, r, sub⟩ := EnvOk.give (s := .no) I h h1 (hio P rfl) (.inl rfl)
        exact ⟨.ref a, h1, p _ σ H _ J sub r⟩
/-- the list of slot i is shared from here on -/
def mGive (i : Nat) (F : MS) : MS := fun ρ => match ρ[i]? with
  | some (.own d) => F (ρ.set i (.shr d))
  | _ => F ρ
theorem give_ok {i : Nat} {E : Ends} {σ : L2.St} {H : Hp} (hio : ∀ p ∈ P.io, p.1 ≠ i) (h : tS X.K P (mGive i F) E σ H) : tS X.K P F E σ H := by
  obtain ⟨O, ρ, I, p⟩ := h
  unfold mGive at p
  cases h : ρ[i]? with
  | none => rw [h] at p; exact ⟨O, ρ, I, p⟩
  | some s =>
    rw [h] at p
    cases s with
    | no => exact ⟨O, ρ, I, p⟩
    | shr d => exact ⟨O, ρ, I, p⟩
    | own d =>
      obtain ⟨a, h1, h2, h3⟩ := I.own i d h
      obtain ⟨J, r, sub⟩ := EnvOk.give (s := .shr d) I h h1 hio (.inr rfl)
      exact ⟨_, _, J, SPost.step p sub⟩
theorem dS_give {i : Nat} (hio : ∀ p ∈ P.io, p.1 ≠ i) (h : DS X P st F) : DS X P st (mGive i F) := PS.imp h fun E σ H q => give_ok hio q
/-! ### assignments -/
def tG (K : PySem.W.Frag) (P : Pr) (g : D → MS) : TG := fun v σ H Q => ∃ O ρ d, Env K P O [] ρ σ H ∧ Rep P.G K (hid (hz [] O P.Z) H) d v ∧ SPost K P O H (g d ρ) ⟨Q, fun _ _ => False, fun _ _ => False, fun _ _ => False⟩
def tGs (K : PySem.W.Frag) (P : Pr) (g : List D → MS) : TGs := fun v σ H Q => ∃ O ρ d, Env K P O [] ρ σ H ∧ Reps P.G K (hid (hz [] O P.Z) H) d v ∧ SPost K P O H (g d ρ) ⟨Q, fun _ _ => False, fun _ _ => False, fun _ _ => False⟩
abbrev DG (X : Cx) (P : Pr) (tg : Expr) (g : D → MS) : Prop := PG X tg (tG X.K P g)
abbrev DGs (X : Cx) (P : Pr) (tg : List Expr) (g : List D → MS) : Prop := PGs X tg (tGs X.K P g)
theorem PG.imp {X : Cx} {e : Expr} {t t' : TG} (h : PG X e t) (k : ∀ v σ H Q, t' v σ H Q → t v σ H Q) : PG X e t' := ⟨fun pins s σ H v u Q I r q => h.run pins s σ H v u Q I r (k v σ H Q q)⟩
theorem PGs.imp {X : Cx} {e : List Expr} {t t' : TGs} (h : PGs X e t) (k : ∀ v σ H Q, t' v σ H Q → t v σ H Q) : PGs X e t' := ⟨fun pins s σ H v u Q I r q => h.run pins s σ H v u Q I r (k v σ H Q q)⟩
def gNm (i : Nat) (d : D) : MS := fun ρ => .nx (ρ.set i (.shr d))
theorem dG_name {i : Nat} {x : Str} (hN : X.N.Nodup) (hi : X.N[i]? = some x) (hx : Loc X.env.scope x) (hio : ∀ p ∈ P.io, p.1 ≠ i) (hf : X.fn x = true ∨ X.env.scope.names.lookup x = some .local := by first | exact .inl rfl | exact .inr rfl | assumption) : DG X P (.Name x pos) (gNm i) :=
  PG.imp (pg_name hN hi hx hf) fun v σ H Q ⟨O, ρ, d, I, r, p⟩ => p O _ H (I.set r hio) (Evl.Ex.refl _)
/-- behind a part of an assignment -/
theorem SPost.seqG {K : PySem.W.Frag} {O : List Addr} {H : Hp} {ρ : Rho} {F G : MS} {Q Q1 : L2.St → Hp → Prop} (p : SPost K P O H (mSeq F G ρ) ⟨Q, fun _ _ => False, fun _ _ => False, fun _ _ => False⟩)
    (k : ∀ O' ρ' σ' H', Env K P O' [] ρ' σ' H' → Bh P O H O' H' → SPost K P O' H' (G ρ') ⟨Q, fun _ _ => False, fun _ _ => False, fun _ _ => False⟩ → Q1 σ' H') : SPost K P O H (F ρ) ⟨Q1, fun _ _ => False, fun _ _ => False, fun _ _ => False⟩ := by
  unfold mSeq at p
  cases hF : F ρ with
  | nx ρ' => rw [hF] at p; exact fun O' σ' H' I' b => k O' ρ' σ' H' I' b (SPost.step p b)
  | rt d ρ' => rw [hF] at p; exact p
  | rf d ρ' => rw [hF] at p; exact p
  | bk ρ' => rw [hF] at p; exact p
  | ct ρ' => rw [hF] at p; exact p
  | exc c d ρ' => rw [hF] at p; exact p
  | err => rw [hF] at p; exact p
def gNil' (ds : List D) : MS := fun ρ => if ds.isEmpty then .nx ρ else .err
def gCons' (g : D → MS) (h : List D → MS) (ds : List D) : MS := match ds with
  | d :: r => mSeq (g d) (h r)
  | [] => fun _ => .err
theorem dGs_nil : DGs X P [] gNil' := PGs.imp pgs_nil fun v σ H Q ⟨O, ρ, d, I, r, p⟩ => by
  cases d with
  | nil => simp only [Reps] at r; exact ⟨r, p.nxt I⟩
  | cons _ _ => exact (show False from p).elim
theorem dGs_cons {es : List Expr} {g : D → MS} {h : List D → MS} (h1 : DG X P e g) (h2 : DGs X P es h) (hs : (assignEach (e :: es) X.env).map (·.2) = assign e X.env :: (assignEach es X.env).map (·.2) := by rfl) : DGs X P (e :: es) (gCons' g h) :=
  PGs.imp (pgs_cons h1 h2 hs) fun v σ H Q ⟨O, ρ, d, I, r, p⟩ => by
    cases d with
    | nil => exact (show False from p).elim
    | cons d ds =>
      simp only [Reps] at r
      obtain ⟨u, ws, rfl, r1, r2⟩ := r
      exact ⟨u, ws, rfl, O, ρ, d, I, r1, SPost.seqG p fun O' ρ' σ' H' I' b p' => ⟨O', ρ', ds, I', Reps.ex b _ _ r2, p'⟩⟩
def gTp (n : Nat) (h : List D → MS) (d : D) : MS := match d with
  | .tup ds => if ds.length = n then h ds else fun _ => .err
  | _ => fun _ => .err
theorem dG_tup {es : List Expr} {k n : Nat} {h : List D → MS} (hc : X.calm = true) (hh : DGs X P es h) (hn : (assignEach es X.env).length = n := by rfl) (hst : (assignEach es X.env).findIdx? (·.1) = none := by rfl) : DG X P (.Tuple es k pos) (gTp n h) :=
  PG.imp (pg_tup hc hh hn hst) fun v σ H Q ⟨O, ρ, d, I, r, p⟩ => by
    cases d with
    | tup ds =>
      simp only [Rep] at r
      obtain ⟨a, vs, rfl, r1, r2⟩ := r
      unfold gTp at p
      by_cases hl : ds.length = n
      · simp only [hl, if_true] at p
        exact ⟨a, vs, rfl, Evl.ex_t ex_unhid r1, by rw [r2.len]; exact hl, O, ρ, ds, I, r2, p⟩
      · simp only [hl, if_false] at p
        exact (show False from p).elim
    | _ => exact (show False from p).elim
/-- x[k] = .., x a list of one's own -/
def gIx (i : Nat) (f : M D) (d : D) : MS := fun ρ => match ρ[i]? with
  | some (.own _) => sBind f (fun k ρ' => match ρ'[i]?, k with
    | some (.own (.lst ds)), .int j => (match ixN ds.length j with
      | some n => .nx (ρ'.set i (.own (.lst (ds.set n d))))
      | none => .err)
    | _, _ => .err) ρ
  | _ => .err
theorem dG_sub {i : Nat} {x : Str} {p1 : Pos} {ie : Expr} {f : M D} (hN : X.N[i]? = some x) (hv : Vis X.env.scope x) (hb : DE X P ie f)
    (ha : ∀ v, assign (.Subscript (.Name x p1) ie pos) X.env v = (do
      let ov ← holding [v] (eval (.Name x p1) X.env)
      let iv ← holding [v, ov] (eval ie X.env)
      standAt pos
      holding [v, ov, iv] (setItem ov iv v)
      release [v, ov, iv] []) := by intro _; rfl) (hd : (x == ("__debug__" : Str)) = false := by decide) (hcd : (x == ("__classdict__" : Str)) = false := by decide) : DG X P (.Subscript (.Name x p1) ie pos) (gIx i f) :=
  PG.imp (pg_sub (pe_var hN hv hd hcd) hb set_list ha) fun v σ H Q ⟨O, ρ, d, I, r, p⟩ => by
    unfold gIx at p
    cases h : ρ[i]? with
    | none => rw [h] at p; exact (show False from p).elim
    | some s =>
      rw [h] at p
      cases s with
      | no => exact (show False from p).elim
      | shr d => exact (show False from p).elim
      | own d0 =>
        obtain ⟨a, h1, h2, h3⟩ := I.own i d0 h
        refine ⟨.ref a, h1, tM0 I (SPost.bind p fun k ρ' u H1 I1 b1 r1 p1 => ?_)⟩
        cases h' : ρ'[i]? with
        | none => simp only [h'] at p1; exact (show False from p1).elim
        | some s2 =>
          cases s2 with
          | no => simp only [h'] at p1; exact (show False from p1).elim
          | shr d => simp only [h'] at p1; exact (show False from p1).elim
          | own x2 =>
            cases x2 <;> cases k <;> simp only [h'] at p1 <;> first | exact (show False from p1).elim | skip
            rename_i ds j
            obtain ⟨a', w1, w2, w3⟩ := I1.own i _ h'
            rw [h1] at w1
            cases w1
            obtain ⟨ws, w4, w5⟩ := w3
            cases hn : ixN ds.length j with
            | none => simp only [hn] at p1; exact (show False from p1).elim
            | some n =>
              simp only [hn] at p1
              simp only [RE, Rep] at r1
              exact ⟨a, ws, j, n, rfl, r1, w4, by rw [w5.len]; exact hn, p1 O σ _ (I1.ownSet h' h1 h2 (w5.set n (Rep.ex b1 _ _ r))) (ex_hid_upd (hz_O h2))⟩
/-- target = value -/
def mAsg (f : M D) (g : D → MS) : MS := sBind f g
/-- the ends of an assignment's statement -/
theorem SPost.endsG {K : PySem.W.Frag} {O : List Addr} {H : Hp} {r : SR} {E : Ends} (hr : ∀ x ρ, r ≠ .rt x ρ) (hf : ∀ x ρ, r ≠ .rf x ρ) (hb : ∀ ρ, r ≠ .bk ρ) (hc : ∀ ρ, r ≠ .ct ρ) (p : SPost K P O H r E) : SPost K P O H r ⟨E.nx, fun _ _ => False, fun _ _ => False, fun _ _ => False⟩ := by
  cases r with
  | nx ρ => exact p
  | rt d ρ => exact (hr d ρ rfl).elim
  | rf d ρ => exact (hf d ρ rfl).elim
  | bk ρ => exact (hb ρ rfl).elim
  | ct ρ => exact (hc ρ rfl).elim
  | exc c d ρ => exact p
  | err => exact p
/-- only on, or an error -/
def onlyNx (F : MS) : MS := fun ρ => match F ρ with
  | .nx ρ' => .nx ρ'
  | .exc c d ρ' => .exc c d ρ'
  | _ => .err
theorem SPost.only {K : PySem.W.Frag} {O : List Addr} {H : Hp} {ρ : Rho} {F : MS} {E : Ends} (p : SPost K P O H (onlyNx F ρ) E) : SPost K P O H (F ρ) ⟨E.nx, fun _ _ => False, fun _ _ => False, fun _ _ => False⟩ := by
  unfold onlyNx at p
  cases hF : F ρ with
  | nx ρ' => rw [hF] at p; exact p
  | exc c d ρ' => rw [hF] at p; exact p
  | _ => rw [hF] at p; exact (show False from p).elim
theorem dS_asg {tg : Expr} {g : D → MS} (he : DE X P e f) (hg : DG X P tg g) (hs : swapsWithSole [tg] e pos.line X.env = pure false := by rfl) (hw : swappedStores [tg] e X.env = pure none := by rfl) (h1 : (assignEach [tg] X.env).map (·.2) = [assign tg X.env] := by rfl) :
    DS X P (.Assign [tg] e pos) (sBind f fun d => onlyNx (g d)) := PS.imp (ps_asg he hg hs hw h1) fun E σ H ⟨O, ρ, I, p⟩ => tM0 I (SPost.bind p fun d ρ' v H1 I1 b1 r1 p1 => ⟨O, ρ', d, I1, r1, p1.only⟩)
def mSet (i : Nat) (f : M D) : MS := sBind f fun d ρ => .nx (ρ.set i (.shr d))
theorem dS_set {i : Nat} {x : Str} {pos' : Pos} (hN : X.N.Nodup) (hi : X.N[i]? = some x) (hx : Loc X.env.scope x) (hio : ∀ p ∈ P.io, p.1 ≠ i) (he : DE X P e f) (hs : swapsWith e (some (.Name x pos')) pos.line X.env = pure false := by rfl) (hf : X.fn x = true ∨ X.env.scope.names.lookup x = some .local := by first | exact .inl rfl | exact .inr rfl | assumption) :
    DS X P (.Assign [.Name x pos'] e pos) (mSet i f) := PS.imp (ps_set hN hi hx he hs hf) fun E σ H ⟨O, ρ, I, p⟩ => tM0 I (SPost.bind p fun d ρ' v H1 I1 b1 r1 p1 => p1 O _ H1 (I1.set r1 hio) (Evl.Ex.refl _))
def mSetF (i : Nat) (f : M (List D)) : MS := sBind f fun d ρ => .nx (ρ.set i (.own (.lst d)))
theorem own_bh {O : List Addr} {a : Addr} {o : HO} {Z : List Addr} {H : Hp} (h : H a = none) : Ex (hid (hz [] O Z) H) (hid (hz [] (a :: O) Z) (upd H a o)) := fun b u e => by
  obtain ⟨q1, q2⟩ := hid_some e
  have hb : b ≠ a := fun z => by rw [z, h] at q2; cases q2
  rw [hid_out (by unfold hz at q1 ⊢; simp at q1 ⊢; exact ⟨hb, q1⟩), upd_ne hb]
  exact q2
theorem dS_setF {i : Nat} {x : Str} {pos' : Pos} {f : M (List D)} (hN : X.N.Nodup) (hi : X.N[i]? = some x) (hx : Loc X.env.scope x) (hio : ∀ p ∈ P.io, p.1 ≠ i) (he : DF X P e f) (hs : swapsWith e (some (.Name x pos')) pos.line X.env = pure false := by rfl) (hf : X.fn x = true ∨ X.env.scope.names.lookup x = some .local := by first | exact .inl rfl | exact .inr rfl | assumption) :
    DS X P (.Assign [.Name x pos'] e pos) (mSetF i f) := PS.imp (ps_set hN hi hx he hs hf) fun E σ H ⟨O, ρ, I, p⟩ => tM0 I (SPost.bind p fun d ρ' v H1 I1 b1 r1 p1 => p1 _ _ _ (I1.setOwn r1.1 r1.2 hio) (own_bh r1.1))
/-! ### if, expression statements -/
def mIfS (t : M Bool) (F G : MS) : MS := sBind t fun b => if b then F else G
theorem dS_if {c : Expr} {as bs : List Stmt} {t : M Bool} (hc : DT X P c t) (ha : DSs X P as F) (hb : DSs X P bs G) : DS X P (.If c as bs pos) (mIfS t F G) :=
  PS.imp (ps_if hc ha hb) fun E σ H ⟨O, ρ, I, p⟩ => tM0 I (SPost.bind p fun b ρ' c H1 I1 b1 r1 p1 => by
    subst r1
    cases b with
    | true => rw [if_pos rfl] at p1 ⊢; exact ⟨O, ρ', I1, p1⟩
    | false => rw [if_neg (by decide)] at p1 ⊢; exact ⟨O, ρ', I1, p1⟩)
def mDrop (f : M D) : MS := sBind f fun _ ρ => .nx ρ
theorem dS_expr (he : DE X P e f) (hs : swapsWith e none pos.line X.env = pure false := by rfl) : DS X P (.Expr e pos) (mDrop f) := PS.imp (ps_expr he hs) fun E σ H ⟨O, ρ, I, p⟩ => tM0 I (SPost.bind p fun d ρ' v H1 I1 b1 r1 p1 => p1.nxt I1)
/-- x.append(e) -/
def mApp (i : Nat) (f : M D) : M D := mOwnL i f fun x d ρ => match x with
  | .lst ds => if ds.length < 100000 then .ok .non (ρ.set i (.own (.lst (ds ++ [d])))) else .err
  | _ => .err
theorem dE_app {i : Nat} {y : Str} {py : Pos} {apos cpos : Pos} (hN : X.N[i]? = some y) (hv : Vis X.env.scope y) (ha : DE X P e f) (hd : (y == ("__debug__" : Str)) = false := by decide) (hcd : (y == ("__classdict__" : Str)) = false := by decide)
    (hbase : attributeBase (.Name y py) "append" X.env (eval (.Name y py) X.env) = eval (.Name y py) X.env := by rfl)
    (hfew : ((backTo cpos (starEach (e :: []) X.env)).all (fun x => !x.1) && (backToKw cpos (keywordEach [] X.env)).all (fun x => x.1.isSome) && decide ((e :: []).length + ([] : List Keyword).length + (if ([] : List Keyword).isEmpty then 0 else 1) < 30)) = true := by rfl)
    (hline : (apos.endLine == cpos.line) = true := by rfl) (hs : starEach (e :: []) X.env = (false, eval e X.env) :: starEach [] X.env := by rfl) (hplain : (backTo cpos (starEach [] X.env)).any (·.1) = false := by rfl) :
    DE X P (.Call (.Attribute (.Name y py) "append" apos) [e] [] cpos) (mApp i f) :=
  PE.imp (pe_bm PySem.F.plainAttrs_list PySem.F.slot_list_append PySem.F.type_list_append mt_append (pe_var hN hv hd hcd) (pa_cons ha pa_nil hs) hbase hfew hline hs hplain) fun σ H Q ⟨O, T, ρ, I, p⟩ => by
    obtain ⟨p, ty⟩ := own_ty I p
    obtain ⟨a, h1, k⟩ := ownThen (R1 := RE X.K P) I p
    refine ⟨.ref a, h1, ty a h1, O, T, ρ, I, k _ fun y ρ2 u H2 x I2 e2 r2 hx hO q3 p2 => ?_⟩
    cases x with
    | lst ds =>
      obtain ⟨hl, p3⟩ := ifN p2
      obtain ⟨ws, q4, q5⟩ := q3
      exact ⟨a, ws, u, rfl, rfl, q4, Evl.sz_lt (by rw [q5.len]; exact hl), p3 .non _ (I2.ownSet hx h1 hO (q5.app (.one r2))) (ex_hid_upd (hz_O hO)) (by simp only [RE, Rep])⟩
    | _ => exact (show False from p2).elim
end
end Nv

namespace Nv
open PySem PySem.Spec PyProof.Rows L2
/-! ## what is walked -/
/-- an iterator that gives these, whatever else grows -/
def RI (K : PySem.W.Frag) (P : Pr) : List Addr → Hp → List D → It → Prop := fun hs H ds J => ∀ hs2 H2, Ex (hid hs H) (hid hs2 H2) → (∀ a ∈ hs2, ∃ o, H2 a = some o) → ∀ i : Nat, match ds[i]? with
  | some d => J.go i H2 ∧ ∀ x H3, J.yld i H2 x H3 → Ex H2 H3 ∧ Rep P.G K (hid hs2 H3) d x
  | none => J.stop i H2
def tI (K : PySem.W.Frag) (P : Pr) (f : M (List D)) : TI := tM K P (RI K P) f
abbrev DI (X : Cx) (P : Pr) (tg e : Expr) (f : M (List D)) : Prop := PI X tg e (tI X.K P f)
theorem PI.imp {X : Cx} {tg e : Expr} {t t' : TI} (h : PI X tg e t) (k : ∀ σ H Q, t' σ H Q → t σ H Q) : PI X tg e t' := ⟨fun pins s σ H Q I q => h.run pins s σ H Q I (k σ H Q q)⟩
section
variable {X : Cx} {P : Pr} {pos : Pos} {e tg : Expr} {f : M D}
/-- the items of a list, a tuple; the signs of a text -/
def dItems : D → Option (List D)
  | .lst xs => some xs
  | .tup xs => some xs
  | .str x => some (x.cps.toList.map fun c => .str (chr1 c))
  | .scr ns => some (ns.map .int)
  | _ => none
def mItems (f : M D) : M (List D) := mBind f fun d => mOpt (dItems d)
/-- whichever of the three it is -/
def iAny (K : PySem.W.Frag) (te : TE) : TI := fun σ H R => te σ H fun x H1 => ((∃ a, x = .ref a ∧ (∃ xs, SqL K H1 a xs) ∧ R (Itl K a) H1) ∨ (∃ a, x = .ref a ∧ (∃ xs, SqT K H1 a xs) ∧ R (Itt K a) H1)) ∨ ∃ z, x = .str z ∧ R (Its z) H1
theorem pi_any {te : TE} (he : PE X e te) : PI X tg e (iAny X.K te) := by
  refine ⟨fun pins s σ H R I h => ?_⟩
  refine thn (he.run pins s σ H _ I h) fun v s1 ⟨x, H1, I1, r1, q1⟩ => ?_
  rcases q1 with (⟨a, e, ⟨xs, hq⟩, q⟩ | ⟨a, e, ⟨xs, hq⟩, q⟩) | ⟨z, e, q⟩
  · subst e
    cases r1
    obtain ⟨its, rv, p, hz⟩ := I1.list hq
    refine wpAny_pyIter_list p.isList ?_
    refine ⟨s1.heap.objs.size, [s1.heap.objs.size], _, _, H1, rfl, I1.kept (t' := s1.toks) fun b o e => Heap.get?_push_of_some _ e, turn_list a _, ⟨_, Heap.get?_push_size _ rfl, rfl, rfl⟩, fun b hb => ?_, q⟩
    have e : b = s1.heap.objs.size := by simpa using hb
    subst e
    exact I1.fpOk (Nat.le_refl _) (I1.hok.fresh (Nat.le_refl _))
  · subst e
    cases r1
    obtain ⟨its, rv, p, hz⟩ := I1.tuple hq
    refine wpAny_pyIter_tuple (show s1.heap.IsTuple a its.toArray from p) ?_
    refine ⟨s1.heap.objs.size, [s1.heap.objs.size], _, _, H1, rfl, I1.kept (t' := s1.toks) fun b o e => Heap.get?_push_of_some _ e, turn_tuple a _, ⟨_, Heap.get?_push_size _ rfl, rfl, rfl⟩, fun b hb => ?_, q⟩
    have e : b = s1.heap.objs.size := by simpa using hb
    subst e
    exact I1.fpOk (Nat.le_refl _) (I1.hok.fresh (Nat.le_refl _))
  · subst e
    obtain ⟨t, rfl⟩ := r1
    cases ha : z.cps.all (· < 128)
    · exact wpAny_pyIter_wide ha (pi_one (tk := s1.toks) I1 _ (turn_str _ z t "str_iterator" (.inr rfl)) ⟨_, Heap.get?_push_size _ rfl, rfl, rfl⟩ q)
    · exact wpAny_pyIter_ascii ha (pi_one (tk := s1.toks) I1 _ (turn_str _ z t "str_ascii_iterator" (.inl rfl)) ⟨_, Heap.get?_push_size _ rfl, rfl, rfl⟩ q)
theorem ri_list {K : PySem.W.Frag} {hs : List Addr} {H : Hp} {a : Addr} {vs : List V} {ds : List D} (h1 : hid hs H a = some (.lst vs)) (h2 : Reps P.G K (hid hs H) ds vs) : RI K P hs H ds (Itl K a) := fun hs2 H2 e lv i => by
  have h3 := e a _ h1
  have h4 : SqL K H2 a vs := SqL.of (hid_some h3).2
  have h5 := Reps.ex e _ _ h2
  cases hd : ds[i]? with
  | none =>
    have : vs.length ≤ i := by rw [h2.len]; exact List.getElem?_eq_none_iff.mp hd
    exact ⟨vs, h4, this⟩
  | some d =>
    obtain ⟨v, q1, q2⟩ := h5.get hd
    refine ⟨⟨vs, v, h4, q1⟩, fun x H3 ⟨e3, hx⟩ => ?_⟩
    subst e3
    have := hx vs h4
    rw [q1] at this
    cases this
    exact ⟨Evl.Ex.refl _, q2⟩
theorem ri_scr {K : PySem.W.Frag} {hs : List Addr} {H : Hp} {a : Addr} {ns : List Int} (h1 : SqL K (hid hs H) a (ns.map V.int)) : RI K P hs H (ns.map .int) (Itl K a) := fun hs2 H2 e lv i => by
  have h4 : SqL K H2 a (ns.map V.int) := Evl.ex_l ex_unhid (Evl.ex_l e h1)
  cases hd : (ns.map D.int)[i]? with
  | none =>
    have : (ns.map V.int).length ≤ i := by
      have := List.getElem?_eq_none_iff.mp hd
      simpa using this
    exact ⟨_, h4, this⟩
  | some d =>
    rw [List.getElem?_map] at hd
    obtain ⟨n, hn, rfl⟩ := Option.map_eq_some_iff.mp hd
    have q1 : (ns.map V.int)[i]? = some (.int n) := by rw [List.getElem?_map, hn]; rfl
    refine ⟨⟨_, _, h4, q1⟩, fun x H3 ⟨e3, hx⟩ => ?_⟩
    subst e3
    have := hx _ h4
    rw [q1] at this
    cases this
    exact ⟨Evl.Ex.refl _, by simp only [Rep]⟩
theorem ri_tup {K : PySem.W.Frag} {hs : List Addr} {H : Hp} {a : Addr} {vs : List V} {ds : List D} (h1 : SqT K (hid hs H) a vs) (h2 : Reps P.G K (hid hs H) ds vs) : RI K P hs H ds (Itt K a) := fun hs2 H2 e lv i => by
  have h4 : SqT K H2 a vs := Evl.ex_t ex_unhid (Evl.ex_t e h1)
  have h5 := Reps.ex e _ _ h2
  cases hd : ds[i]? with
  | none =>
    have : vs.length ≤ i := by rw [h2.len]; exact List.getElem?_eq_none_iff.mp hd
    exact ⟨vs, h4, this⟩
  | some d =>
    obtain ⟨v, q1, q2⟩ := h5.get hd
    refine ⟨⟨vs, v, h4, q1⟩, fun x H3 ⟨e3, hx⟩ => ?_⟩
    subst e3
    have := hx vs h4
    rw [q1] at this
    cases this
    exact ⟨Evl.Ex.refl _, q2⟩
theorem ri_str {K : PySem.W.Frag} {hs : List Addr} {H : Hp} {z : Str} : RI K P hs H (z.cps.toList.map fun c => .str (chr1 c)) (Its z) := fun hs2 H2 e lv i => by
  cases hd : (z.cps.toList.map fun c => D.str (chr1 c))[i]? with
  | none =>
    have : z.cps.size ≤ i := by
      have := List.getElem?_eq_none_iff.mp hd
      simpa using this
    exact this
  | some d =>
    rw [List.getElem?_map] at hd
    obtain ⟨c, hc, rfl⟩ := Option.map_eq_some_iff.mp hd
    have hc' : z.cps[i]? = some c := by simpa using hc
    refine ⟨(Array.getElem?_eq_some_iff.mp hc').1, fun x H3 ⟨e3, c', h1, h2⟩ => ?_⟩
    subst e3 h2
    rw [hc'] at h1
    cases h1
    exact ⟨Evl.Ex.refl _, by simp only [Rep]; rfl⟩
theorem dI_any (he : DE X P e f) : DI X P tg e (mItems f) := PI.imp (pi_any he) fun σ H R ⟨O, T, ρ, I, p⟩ => ⟨O, T, ρ, I, Post.bind p fun d ρ1 v H1 I1 e1 r1 p1 => by
  obtain ⟨ds, hd, p2⟩ := p1.opt
  cases d <;> first | (cases hd; done) | skip
  all_goals (cases hd; simp only [RE, Rep] at r1)
  · exact .inr ⟨_, r1, p2.ok I1 ri_str⟩
  · obtain ⟨a, vs, rfl, h1, h2⟩ := r1
    exact .inl (.inl ⟨a, rfl, ⟨vs, SqL.of (hid_some h1).2⟩, p2.ok I1 (ri_list h1 h2)⟩)
  · obtain ⟨a, vs, rfl, h1, h2⟩ := r1
    exact .inl (.inr ⟨a, rfl, ⟨vs, Evl.ex_t ex_unhid h1⟩, p2.ok I1 (ri_tup h1 h2)⟩)
  · obtain ⟨a, rfl, h1⟩ := r1
    exact .inl (.inl ⟨a, rfl, ⟨_, Evl.ex_l ex_unhid h1⟩, p2.ok I1 (ri_scr h1)⟩)⟩
/-- ranges -/
def rgs (lo : Int) (n : Nat) : List D := (List.range n).map fun k : Nat => .int (lo + (k : Int))
theorem ri_rng {K : PySem.W.Frag} {hs : List Addr} {H : Hp} {lo : Int} {n : Nat} : RI K P hs H (rgs lo n) (Itr lo n) := fun hs2 H2 e lv i => by
  unfold rgs
  cases hd : ((List.range n).map fun k : Nat => D.int (lo + (k : Int)))[i]? with
  | none =>
    have : n ≤ i := by
      have := List.getElem?_eq_none_iff.mp hd
      simpa using this
    exact this
  | some d =>
    rw [List.getElem?_map] at hd
    obtain ⟨c, hc, rfl⟩ := Option.map_eq_some_iff.mp hd
    obtain ⟨hi, hc'⟩ := List.getElem?_eq_some_iff.mp hc
    rw [List.getElem_range] at hc'
    subst hc'
    refine ⟨(show i < n by simpa using hi), fun x H3 ⟨e3, h1⟩ => ?_⟩
    subst e3 h1
    exact ⟨Evl.Ex.refl _, by simp only [Rep]⟩
def dRg1 : List D → Option (List D)
  | [.int n] => if -1000000 ≤ n ∧ n ≤ 1000000 then some (rgs 0 n.toNat) else none
  | _ => none
def dRg2 : List D → Option (List D)
  | [.int a, .int b] => if -1000000 ≤ a ∧ a ≤ 1000000 ∧ -1000000 ≤ b ∧ b ≤ 1000000 then some (rgs a (b - a).toNat) else none
  | _ => none
theorem dI_rng1 {a : Expr} {p : Pos} {as : M (List D)} (hg : Gl X "range") (hm : X.mg "range" = none) (ha : DA X P [a] as) (hs : starEach [a] X.env = [(false, eval a X.env)] := by rfl) : DI X P tg (.Call (.Name "range" p) [a] [] pos) (mBind as fun ds => mOpt (dRg1 ds)) :=
  PI.imp (pi_range1 hg hm ha hs) fun σ H R ⟨O, T, ρ, I, p⟩ => ⟨O, T, ρ, I, Post.bind p fun d ρ1 v H1 I1 e1 r1 p1 => by
    obtain ⟨ds, hd, p2⟩ := p1.opt
    unfold dRg1 at hd
    split at hd
    · obtain ⟨h, rfl⟩ := ite_some hd
      simp only [RA, Reps, Rep] at r1
      obtain ⟨v, ws, rfl, rfl, rfl⟩ := r1
      exact ⟨_, rfl, by omega, by omega, p2.ok I1 ri_rng⟩
    · cases hd⟩
theorem dI_rng2 {a b : Expr} {p : Pos} {as : M (List D)} (hg : Gl X "range") (hm : X.mg "range" = none) (ha : DA X P [a, b] as) (hs : starEach [a, b] X.env = [(false, eval a X.env), (false, eval b X.env)] := by rfl) (hs2 : starEach [b] X.env = [(false, eval b X.env)] := by rfl) : DI X P tg (.Call (.Name "range" p) [a, b] [] pos) (mBind as fun ds => mOpt (dRg2 ds)) :=
  PI.imp (pi_range2 hg hm ha hs hs2) fun σ H R ⟨O, T, ρ, I, p⟩ => ⟨O, T, ρ, I, Post.bind p fun d ρ1 v H1 I1 e1 r1 p1 => by
    obtain ⟨ds, hd, p2⟩ := p1.opt
    unfold dRg2 at hd
    split at hd
    · obtain ⟨h, rfl⟩ := ite_some hd
      simp only [RA, Reps, Rep] at r1
      obtain ⟨v, ws, rfl, rfl, v2, ws2, rfl, rfl, rfl⟩ := r1
      exact ⟨_, _, rfl, by omega, p2.ok I1 ri_rng⟩
    · cases hd⟩
/-! ## for -/
def forR (g : D → MS) (body : MS) : List D → MS
  | [], ρ => .nx ρ
  | d :: ds, ρ => match onlyNx (g d) ρ with
    | .nx ρ1 => (match body ρ1 with
      | .nx ρ2 => forR g body ds ρ2
      | .ct ρ2 => forR g body ds ρ2
      | .bk ρ2 => .nx ρ2
      | r => r)
    | r => r
def mFor (it : M (List D)) (g : D → MS) (body : MS) : MS := sBind it fun ds => forR g body ds
theorem dS_for {iter : Expr} {body : List Stmt} {it : M (List D)} {g : D → MS} {F : MS} (hp : PassesOwn (model X.prog X.w) X.A X.env X.xe) (hc : X.calm = true) (hi : DI X P tg iter it) (hg : DG X P tg g) (hb : DSs X P body F) (hs : ∀ x, foldedSetIterable iter X.env x = pure x := by intro _; rfl) :
    DS X P (.For tg iter body [] pos) (mFor it g F) := PS.imp (ps_for hp hc hi hg hb hs) fun E σ H ⟨O, ρ, I, p⟩ => tM0 I (SPost.bind p fun ds ρ' J H1 I1 b1 r1 p1 => by
  refine ⟨fun i m σ2 H2 => ∃ O2 ρ2, Env X.K P O2 [] ρ2 σ2 H2 ∧ Bh P O H1 O2 H2 ∧ i + m = ds.length ∧ SPost X.K P O2 H2 (forR g F (ds.drop i) ρ2) E, ⟨ds.length, O, ρ', I1, Evl.Ex.refl _, by omega, p1⟩, ?_⟩
  rintro i m σ2 H2 ⟨O2, ρ2, I2, b2, hm, p2⟩
  have r2 := r1 (hz [] O2 P.Z) H2 b2 I2.live i
  cases hd : ds[i]? with
  | none =>
    rw [hd] at r2
    have : ds.drop i = [] := List.drop_eq_nil_of_le (List.getElem?_eq_none_iff.mp hd)
    rw [this] at p2
    exact .inl ⟨r2, p2.nxt I2⟩
  | some d =>
    rw [hd] at r2
    have hi := (List.getElem?_eq_some_iff.mp hd).1
    have hdr : ds.drop i = d :: ds.drop (i + 1) := by
      rw [List.drop_eq_getElem_cons hi]
      have := (List.getElem?_eq_some_iff.mp hd).2
      rw [this]
    rw [hdr] at p2
    refine .inr ⟨r2.1, fun σ3 H3 => ∃ O3 ρ3, Env X.K P O3 [] ρ3 σ3 H3 ∧ Bh P O H1 O3 H3 ∧ SPost X.K P O3 H3 (forR g F (ds.drop (i + 1)) ρ3) E, fun σ3 H3 ⟨O3, ρ3, q1, q2, q3⟩ => ⟨m - 1, by omega, O3, ρ3, q1, q2, by omega, q3⟩, fun x H3 hy => ?_⟩
    obtain ⟨e3, rx⟩ := r2.2 x H3 hy
    have I3 := I2.ex e3
    have b3 : Bh P O H1 O2 H3 := b2.trans (ex_hid e3)
    have p3 := SPost.step (O1 := O2) (H1 := H3) p2 (ex_hid e3)
    refine ⟨O2, ρ2, d, I3, rx, ?_⟩
    unfold forR at p3
    refine SPost.only (E := ⟨fun σ4 H4 => tS X.K P F _ σ4 H4, fun _ _ => False, fun _ _ => False, fun _ _ => False⟩) ?_
    cases hg' : onlyNx (g d) ρ2 with
    | nx ρ4 =>
      simp only [hg'] at p3
      intro O4 σ4 H4 I4 b4
      refine ⟨O4, ρ4, I4, ?_⟩
      have p4 := SPost.step p3 b4
      have b5 : Bh P O H1 O4 H4 := b3.trans b4
      cases hF : F ρ4 with
      | nx ρ5 => simp only [hF] at p4; exact fun O5 σ5 H5 I5 b => ⟨O5, ρ5, I5, b5.trans b, SPost.step p4 b⟩
      | ct ρ5 => simp only [hF] at p4; exact fun O5 σ5 H5 I5 b => ⟨O5, ρ5, I5, b5.trans b, SPost.step p4 b⟩
      | bk ρ5 => simp only [hF] at p4; exact p4
      | rt d ρ5 => simp only [hF] at p4; exact p4
      | rf d ρ5 => simp only [hF] at p4; exact p4
      | exc c d ρ5 => simp only [hF] at p4; exact p4
      | err => simp only [hF] at p4; exact p4
    | exc c d ρ4 => simp only [hg'] at p3; exact p3
    | rt x y => exact (by unfold onlyNx at hg'; split at hg' <;> cases hg')
    | rf x y => exact (by unfold onlyNx at hg'; split at hg' <;> cases hg')
    | bk y => exact (by unfold onlyNx at hg'; split at hg' <;> cases hg')
    | ct y => exact (by unfold onlyNx at hg'; split at hg' <;> cases hg')
    | err => simp only [hg'] at p3; exact p3)
end
end Nv

namespace Nv
open PySem PySem.Spec PyProof.Rows L2
/-! ## list comprehensions -/
def wipeR (ρ : Rho) : List Nat → Rho
  | [] => ρ
  | v :: vs => (wipeR ρ vs).set v .no
def restore (vs : List Nat) (ρ1 ρ : Rho) : Rho := match vs with
  | [] => ρ
  | v :: vs => (restore vs ρ1 ρ).set v (match ρ1[v]? with
    | some (.shr d) => .shr d
    | _ => .no)
theorem wipeR_len (ρ : Rho) : ∀ vs, (wipeR ρ vs).length = ρ.length
  | [] => rfl
  | v :: vs => by simp [wipeR, wipeR_len ρ vs]
theorem restore_len (ρ1 ρ : Rho) : ∀ vs, (restore vs ρ1 ρ).length = ρ.length
  | [] => rfl
  | v :: vs => by simp [restore, restore_len ρ1 ρ vs]
theorem wipeR_get {ρ : Rho} {j : Nat} {s : Sl} : ∀ {vs : List Nat}, (wipeR ρ vs)[j]? = some s → (j ∈ vs ∧ s = .no) ∨ (j ∉ vs ∧ ρ[j]? = some s)
  | [], h => .inr ⟨by simp, h⟩
  | v :: vs, h => by
    rcases get_set h with ⟨h1, h2⟩ | ⟨h1, h2⟩
    · exact .inl ⟨by simp [h1], h2⟩
    · rcases wipeR_get h2 with ⟨q1, q2⟩ | ⟨q1, q2⟩
      · exact .inl ⟨by simp [q1], q2⟩
      · exact .inr ⟨by simp [h1, q1], q2⟩
theorem wipeR_out {ρ : Rho} {j : Nat} : ∀ {vs : List Nat}, j ∉ vs → (wipeR ρ vs)[j]? = ρ[j]?
  | [], _ => rfl
  | v :: vs, h => by
    have h1 : v ≠ j := fun z => h (by simp [z])
    have h2 : j ∉ vs := fun z => h (by simp [z])
    simp only [wipeR]
    rw [List.getElem?_set_ne h1, wipeR_out h2]
theorem restore_get {ρ1 ρ : Rho} {j : Nat} {s : Sl} : ∀ {vs : List Nat}, (restore vs ρ1 ρ)[j]? = some s → (j ∈ vs ∧ (s = .no ∨ ∃ d, s = .shr d ∧ ρ1[j]? = some (.shr d))) ∨ (j ∉ vs ∧ ρ[j]? = some s)
  | [], h => .inr ⟨by simp, h⟩
  | v :: vs, h => by
    rcases get_set h with ⟨h1, h2⟩ | ⟨h1, h2⟩
    · refine .inl ⟨by simp [h1], ?_⟩
      subst h1
      split at h2
      · rename_i d hd
        exact .inr ⟨d, h2, hd⟩
      · exact .inl h2
    · rcases restore_get h2 with ⟨q1, q2⟩ | ⟨q1, q2⟩
      · exact .inl ⟨by simp [q1], q2⟩
      · exact .inr ⟨by simp [h1, q1], q2⟩
theorem restore_out {ρ1 ρ : Rho} {j : Nat} : ∀ {vs : List Nat}, j ∉ vs → (restore vs ρ1 ρ)[j]? = ρ[j]?
  | [], _ => rfl
  | v :: vs, h => by
    have h1 : v ≠ j := fun z => h (by simp [z])
    have h2 : j ∉ vs := fun z => h (by simp [z])
    simp only [restore]
    rw [List.getElem?_set_ne h1, restore_out h2]
section
variable {G : CT} {K : PySem.W.Frag} {B : Hp} {io : List (Nat × Addr)} {Z O : List Addr} {T : Tmp} {ρ ρ1 : Rho} {σ : L2.St} {H H' : Hp} {a : Addr}
theorem EnvOk.wipe {vs : List Nat} (I : EnvOk G K B io Z O T ρ σ H) (hio : ∀ p ∈ io, p.1 ∉ vs) : EnvOk G K B io Z O T (wipeR ρ vs) (L2.wipe σ vs) H where
  len := by rw [wipeR_len, wipe_length]; exact I.len
  base := I.base
  bO := I.bO
  bT := I.bT
  live := I.live
  tmp := I.tmp
  nz := I.nz
  shr := fun j e h => by
    rcases wipeR_get h with ⟨_, h2⟩ | ⟨h1, h2⟩
    · cases h2
    · obtain ⟨w, q1, q2⟩ := I.shr j e h2
      exact ⟨w, by rw [wipe_out h1]; exact q1, q2⟩
  own := fun j e h => by
    rcases wipeR_get h with ⟨_, h2⟩ | ⟨h1, h2⟩
    · cases h2
    · obtain ⟨w, q1, q2⟩ := I.own j e h2
      exact ⟨w, by rw [wipe_out h1]; exact q1, q2⟩
  inj := fun j k e f b h1 h2 h3 h4 => by
    rcases wipeR_get h1 with ⟨_, q⟩ | ⟨n1, q1⟩
    · cases q
    · rcases wipeR_get h2 with ⟨_, q⟩ | ⟨n2, q2⟩
      · cases q
      · rw [wipe_out n1] at h3
        rw [wipe_out n2] at h4
        exact I.inj j k e f b q1 q2 h3 h4
  io := fun p hp => by
    obtain ⟨h1, h2, e, h3⟩ := I.io p hp
    have n := hio p hp
    exact ⟨by rw [wipe_out n]; exact h1, h2, e, by rw [wipeR_out n]; exact h3⟩
theorem EnvOk.restore {vs : List Nat} (I1 : EnvOk G K B io Z O T ρ1 σ H) (I : EnvOk G K B io Z O T (wipeR ρ vs) (L2.wipe σ vs) H') (e : Ex (hid (hz T O Z) H) (hid (hz T O Z) H')) (hio : ∀ p ∈ io, p.1 ∉ vs) : EnvOk G K B io Z O T (Nv.restore vs ρ1 ρ) σ H' where
  len := by
    rw [restore_len]
    have := I.len
    rw [wipeR_len, wipe_length] at this
    exact this
  base := I.base
  bO := I.bO
  bT := I.bT
  live := I.live
  tmp := I.tmp
  nz := I.nz
  shr := fun j d h => by
    rcases restore_get h with ⟨h1, h2⟩ | ⟨h1, h2⟩
    · rcases h2 with h2 | ⟨d', h2, h3⟩
      · cases h2
      · cases h2
        obtain ⟨w, q1, q2⟩ := I1.shr j _ h3
        exact ⟨w, q1, Rep.ex e _ _ q2⟩
    · obtain ⟨w, q1, q2⟩ := I.shr j d (by rw [wipeR_out h1]; exact h2)
      exact ⟨w, by rw [wipe_out h1] at q1; exact q1, q2⟩
  own := fun j d h => by
    rcases restore_get h with ⟨h1, h2⟩ | ⟨h1, h2⟩
    · rcases h2 with h2 | ⟨d', h2, h3⟩ <;> cases h2
    · obtain ⟨w, q1, q2⟩ := I.own j d (by rw [wipeR_out h1]; exact h2)
      exact ⟨w, by rw [wipe_out h1] at q1; exact q1, q2⟩
  inj := fun j k d f b h1 h2 h3 h4 => by
    rcases restore_get h1 with ⟨_, q⟩ | ⟨n1, q1⟩
    · rcases q with q | ⟨d', q, _⟩ <;> cases q
    · rcases restore_get h2 with ⟨_, q⟩ | ⟨n2, q2⟩
      · rcases q with q | ⟨d', q, _⟩ <;> cases q
      · exact I.inj j k d f b (by rw [wipeR_out n1]; exact q1) (by rw [wipeR_out n2]; exact q2) (by rw [wipe_out n1]; exact h3) (by rw [wipe_out n2]; exact h4)
  io := fun p hp => by
    obtain ⟨h1, h2, d, h3⟩ := I.io p hp
    have n := hio p hp
    rw [wipe_out n] at h1
    rw [wipeR_out n] at h3
    exact ⟨h1, h2, d, by rw [restore_out n]; exact h3⟩
end
theorem wipe_at {σ : L2.St} {j : Nat} : ∀ {vs : List Nat}, (L2.wipe σ vs)[j]? = if j ∈ vs then (if j < σ.length then some none else none) else σ[j]?
  | [] => by simp [L2.wipe]
  | v :: vs => by
    simp only [L2.wipe]
    by_cases h : v = j
    · subst h
      rw [if_pos (by simp), List.getElem?_set_self']
      by_cases hl : v < σ.length
      · rw [if_pos hl]
        have : v < (L2.wipe σ vs).length := by rw [wipe_length]; exact hl
        rw [List.getElem?_eq_getElem this]
        rfl
      · rw [if_neg hl]
        have : (L2.wipe σ vs)[v]? = none := List.getElem?_eq_none_iff.mpr (by rw [wipe_length]; omega)
        rw [this]
        rfl
    · rw [List.getElem?_set_ne h, wipe_at]
      have : (j ∈ v :: vs) ↔ (j ∈ vs) := by simp; exact fun z => (h z.symm).elim
      simp only [this]
theorem wipe_set {σ : L2.St} {i : Nat} {x : Option V} {vs : List Nat} (h : i ∈ vs) : L2.wipe (σ.set i x) vs = L2.wipe σ vs := by
  apply List.ext_getElem?
  intro j
  rw [wipe_at, wipe_at, List.length_set]
  by_cases hj : j ∈ vs
  · rw [if_pos hj, if_pos hj]
  · rw [if_neg hj, if_neg hj, List.getElem?_set_ne (fun z => hj (by rw [← z]; exact h))]
theorem wipe_wipe {σ : L2.St} {vs : List Nat} : L2.wipe (L2.wipe σ vs) vs = L2.wipe σ vs := by
  apply List.ext_getElem?
  intro j
  rw [wipe_at, wipe_length, wipe_at]
  by_cases hj : j ∈ vs
  · simp only [if_pos hj]
  · simp only [if_neg hj]
/-- a target of a comprehension -/
def PatOk (K : PySem.W.Frag) (P : Pr) (vs : List Nat) (g : TG) (u : D → Rho → Option Rho) : Prop := ∀ (O : List Addr) (T : Tmp) (ρ ρ' : Rho) (σ : L2.St) (H : Hp) (d : D) (x : V), Env K P O T ρ σ H → Rep P.G K (hid (hz T O P.Z) H) d x → u d ρ = some ρ' →
  ∃ σ', Env K P O T ρ' σ' H ∧ L2.wipe σ' vs = L2.wipe σ vs ∧ ∀ Q : L2.St → Hp → Prop, Q σ' H → g x σ H Q
def uNm (j : Nat) (d : D) (ρ : Rho) : Option Rho := some (ρ.set j (.shr d))
theorem pat_nm {K : PySem.W.Frag} {P : Pr} {vs : List Nat} {j : Nat} (hj : j ∈ vs) (hio : ∀ p ∈ P.io, p.1 ≠ j) : PatOk K P vs (gName j) (uNm j) := fun O T ρ ρ' σ H d x I r h => by
  cases h
  exact ⟨_, I.set r hio, wipe_set hj, fun Q q => q⟩
def uTp (j k : Nat) (d : D) (ρ : Rho) : Option Rho := match d with
  | .tup [a, b] => some ((ρ.set j (.shr a)).set k (.shr b))
  | _ => none
theorem pat_tp {K : PySem.W.Frag} {P : Pr} {vs : List Nat} {j k : Nat} (hj : j ∈ vs) (hk : k ∈ vs) (h1 : ∀ p ∈ P.io, p.1 ≠ j) (h2 : ∀ p ∈ P.io, p.1 ≠ k) : PatOk K P vs (gTup K 2 (gCons (gName j) (gCons (gName k) gNil))) (uTp j k) := fun O T ρ ρ' σ H d x I r h => by
  unfold uTp at h
  split at h
  · rename_i a b
    cases h
    simp only [Rep, Reps] at r
    obtain ⟨q, vs', rfl, r1, v, ws, rfl, r2, w, us, rfl, r3, rfl⟩ := r
    exact ⟨_, (I.set r2 h1).set r3 h2, by rw [wipe_set hk, wipe_set hj], fun Q hq => ⟨q, [v, w], rfl, Evl.ex_t ex_unhid r1, rfl, v, [w], rfl, w, [], rfl, rfl, hq⟩⟩
  · cases h
def lcR (vs : List Nat) (u : D → Rho → Option Rho) (t : M Bool) (f : M D) : List D → List D → M (List D)
  | [], acc, ρ => .ok acc ρ
  | d :: ds, acc, ρ => match u d (wipeR ρ vs) with
    | none => .err
    | some ρ1 => (match t ρ1 with
      | .ok true ρ2 => (match f ρ2 with
        | .ok y ρ3 => if acc.length < 100000 then lcR vs u t f ds (acc ++ [y]) ρ3 else .err
        | _ => .err)
      | .ok false ρ2 => lcR vs u t f ds acc ρ2
      | _ => .err)
def mLc (it : M (List D)) (vs : List Nat) (u : D → Rho → Option Rho) (t : M Bool) (f : M D) : M (List D) := mBind it fun ds ρ1 => match lcR vs u t f ds [] ρ1 with
  | .ok acc ρ' => .ok acc (restore vs ρ1 ρ')
  | _ => .err
/-- in a block no error goes out -/
abbrev Pr.quiet (P : Pr) : Pr := { P with E := fun _ _ _ => False }
theorem wipeR_wipeR (ρ : Rho) (vs : List Nat) : wipeR (wipeR ρ vs) vs = wipeR ρ vs := by
  apply List.ext_getElem?
  intro j
  by_cases hj : j ∈ vs
  · cases h : (wipeR (wipeR ρ vs) vs)[j]? with
    | none =>
      have := List.getElem?_eq_none_iff.mp h
      rw [wipeR_len] at this
      exact (List.getElem?_eq_none_iff.mpr this).symm
    | some s =>
      cases h' : (wipeR ρ vs)[j]? with
      | none =>
        have := List.getElem?_eq_none_iff.mp h'
        rw [List.getElem?_eq_none_iff.mpr (by rw [wipeR_len]; exact this)] at h
        cases h
      | some s' =>
        rcases wipeR_get h with ⟨_, rfl⟩ | ⟨q, _⟩
        · rcases wipeR_get h' with ⟨_, rfl⟩ | ⟨q, _⟩
          · rfl
          · exact (q hj).elim
        · exact (q hj).elim
  · rw [wipeR_out hj]
theorem tLc_ok {K : PySem.W.Frag} {P : Pr} {it : M (List D)} {vs : List Nat} {g : TG} {u : D → Rho → Option Rho} {t : M Bool} {f : M D} (hg : PatOk K P vs g u) (hio : ∀ p ∈ P.io, p.1 ∉ vs) {σ : L2.St} {H : Hp} {Q : VK} (h : tF K P (mLc it vs u t f) σ H Q) :
    tLc (tI K P it) g (tTs K P.quiet t) (tE K P.quiet f) vs σ H Q := by
  obtain ⟨O, T, ρ, I, p⟩ := h
  refine ⟨O, T, ρ, I, Post.bind p fun ds ρ1 J H1 I1 e1 r1 p1 D nD => ?_⟩
  have hD : D ∉ hz T O P.Z := I1.fresh nD
  -- the end, from what is collected
  let Fin : Res (List Nv.D) → Prop := fun r => match r with
    | .ok acc ρ' => Post K P (RF K P) O T σ H1 (.ok acc (restore vs ρ1 ρ')) fun pv H' => Q (.ref pv.1) (upd H' pv.1 (.lst pv.2))
    | _ => False
  have hfin : Fin (lcR vs u t f ds [] ρ1) := by
    show match lcR vs u t f ds [] ρ1 with
      | .ok acc ρ' => Post K P (RF K P) O T σ H1 (.ok acc (restore vs ρ1 ρ')) fun pv H' => Q (.ref pv.1) (upd H' pv.1 (.lst pv.2))
      | _ => False
    cases hl : lcR vs u t f ds [] ρ1 with
    | ok acc ρ' => rw [hl] at p1; exact p1
    | exc c d ρ' => rw [hl] at p1; exact p1
    | err => rw [hl] at p1; exact p1
  refine ⟨fun i m H2 => ∃ ρ2 acc va, Env K P O ((D, va) :: T) (wipeR ρ2 vs) (L2.wipe σ vs) H2 ∧ Ex (hid (hz T O P.Z) H1) (hid (hz ((D, va) :: T) O P.Z) H2) ∧ Reps P.G K (hid (hz ((D, va) :: T) O P.Z) H2) acc va ∧ i + m = ds.length ∧ Fin (lcR vs u t f (ds.drop i) acc ρ2),
    ⟨ds.length, ρ1, [], [], (I1.push nD []).wipe hio, by rw [hz_cons]; exact ex_hid_add nD, .nil, by omega, hfin⟩, ?_⟩
  rintro i m H2 ⟨ρ2, acc, va, I2, e2, r2, hm, p2⟩
  have rj := r1 (hz ((D, va) :: T) O P.Z) H2 e2 I2.live i
  cases hd : ds[i]? with
  | none =>
    rw [hd] at rj
    have : ds.drop i = [] := List.drop_eq_nil_of_le (List.getElem?_eq_none_iff.mp hd)
    rw [this] at p2
    have p3 : Post K P (RF K P) O T σ H1 (.ok acc (restore vs ρ1 ρ2)) fun pv H' => Q (.ref pv.1) (upd H' pv.1 (.lst pv.2)) := p2
    have I3 := I2.pop hD
    have e3 : Ex (hid (hz T O P.Z) H1) (hid (hz T O P.Z) (hid [D] H2)) := e2.trans (by rw [hz_cons]; exact ex_hid_pop hD)
    refine .inl ⟨rj, ?_⟩
    have q : Q (.ref D) (upd (hid [D] H2) D (.lst va)) := p3 (D, va) (hid [D] H2) (I1.restore I3 e3 hio) e3 ⟨hid_in (by simp), Reps.ex (by rw [hz_cons]; exact ex_hid_pop hD) _ _ r2⟩
    rw [show upd (hid [D] H2) D (.lst va) = H2 from upd_hid (I2.tmp (D, va) List.mem_cons_self)] at q
    exact q
  | some d =>
    rw [hd] at rj
    have hi := (List.getElem?_eq_some_iff.mp hd).1
    have hdr : ds.drop i = d :: ds.drop (i + 1) := by
      rw [List.drop_eq_getElem_cons hi]
      have := (List.getElem?_eq_some_iff.mp hd).2
      rw [this]
    rw [hdr] at p2
    refine .inr ⟨rj.1, fun H3 => ∃ ρ2 acc va, Env K P O ((D, va) :: T) (wipeR ρ2 vs) (L2.wipe σ vs) H3 ∧ Ex (hid (hz T O P.Z) H1) (hid (hz ((D, va) :: T) O P.Z) H3) ∧ Reps P.G K (hid (hz ((D, va) :: T) O P.Z) H3) acc va ∧ Fin (lcR vs u t f (ds.drop (i + 1)) acc ρ2),
      fun H3 ⟨ρ3, acc3, va3, q1, q2, q3, q4⟩ => ⟨m - 1, by omega, ρ3, acc3, va3, q1, q2, q3, by omega, q4⟩, fun x H3 hy => ?_⟩
    obtain ⟨e3, rx⟩ := rj.2 x H3 hy
    have I3 := I2.ex e3
    unfold lcR at p2
    cases hu : u d (wipeR ρ2 vs) with
    | none => simp only [hu] at p2; exact (show False from p2).elim
    | some ρa =>
      simp only [hu] at p2
      obtain ⟨σa, Ia, hw, hq⟩ := hg O ((D, va) :: T) _ ρa _ H3 d x I3 rx hu
      refine hq _ ⟨by rw [hw, wipe_wipe], ?_⟩
      have ea : Ex (hid (hz T O P.Z) H1) (hid (hz ((D, va) :: T) O P.Z) H3) := e2.trans (ex_hid e3)
      refine ⟨O, (D, va) :: T, ρa, Ia, ?_⟩
      cases ht : t ρa with
      | exc c d ρb => simp only [ht] at p2; exact (show False from p2).elim
      | err => simp only [ht] at p2; exact (show False from p2).elim
      | ok b ρb =>
        intro b' H4 I4 e4 rb
        have rb : b = b' := rb
        subst rb
        cases b with
        | false =>
          simp only [ht] at p2
          rw [if_neg (by decide)]
          have J := (show Env K P O ((D, va) :: T) ρb σa H4 from I4).wipe hio
          rw [hw, wipe_wipe] at J
          exact ⟨ρb, acc, va, J, ea.trans e4, Reps.ex ((ex_hid e3).trans e4) _ _ r2, p2⟩
        | true =>
          simp only [ht] at p2
          rw [if_pos rfl]
          refine ⟨O, (D, va) :: T, ρb, I4, ?_⟩
          cases hf : f ρb with
          | exc c d ρc => simp only [hf] at p2; exact (show False from p2).elim
          | err => simp only [hf] at p2; exact (show False from p2).elim
          | ok y ρc =>
            simp only [hf] at p2
            intro w H5 I5 e5 ry
            have hlen : acc.length < 100000 := by
              by_cases q : acc.length < 100000
              · exact q
              · rw [if_neg q] at p2; exact (show False from p2).elim
            rw [if_pos hlen] at p2
            have r5 := Reps.ex (((ex_hid e3).trans e4).trans e5) _ _ r2
            refine ⟨va, I5.tmp (D, va) List.mem_cons_self, Evl.sz_lt (by rw [r2.len]; exact hlen), ?_⟩
            have J := ((show Env K P O ((D, va) :: T) ρc σa H5 from I5).pset hD (va ++ [w])).wipe hio
            rw [hw, wipe_wipe] at J
            have eu : Ex (hid (hz ((D, va) :: T) O P.Z) H5) (hid (hz ((D, va ++ [w]) :: T) O P.Z) (upd H5 D (.lst (va ++ [w])))) := by
              rw [hz_cons, hz_cons]
              exact ex_hid_upd (by simp)
            exact ⟨ρc, acc ++ [y], va ++ [w], J, ((ea.trans e4).trans e5).trans eu, (Reps.ex eu _ _ r5).app (.one (Rep.ex eu _ _ ry)), p2⟩
section
variable {X : Cx} {P : Pr}
theorem dF_lc {elt tg iter : Expr} {ifs : List Expr} {scope : Scope} {own : List (Str × Nat)} {pos : Pos} {it : M (List D)} {g : TG} {u : D → Rho → Option Rho} {t : M Bool} {f : M D} (hc : X.calm = true) (hN : X.N.Nodup) (hp : PatOk X.K P (own.map (·.2)) g u) (hio : ∀ p ∈ P.io, p.1 ∉ own.map (·.2)) (hi : DI X P tg iter it) (ok : BlkOk X.N X.env.scope scope own)
    (hg : ∀ (s : Shared) (H : Hp) (C : Addr) (cl : List (Str × Addr)) (fp : List Addr), PG (X.blk s H scope (compEnvC scope cl C X.env) fp) tg g) (ht : ∀ (s : Shared) (H : Hp) (C : Addr) (cl : List (Str × Addr)) (fp : List Addr), PTs (X.blk s H scope (compEnvC scope cl C X.env) fp) ifs (tTs X.K P.quiet t))
    (he : ∀ (s : Shared) (H : Hp) (C : Addr) (cl : List (Str × Addr)) (fp : List Addr), DE (X.blk s H scope (compEnvC scope cl C X.env) fp) P.quiet elt f) (hs : ∀ x, foldedSetIterable iter X.env x = pure x := by intro _; rfl) :
    DF X P (.ListComp elt [⟨tg, iter, ifs, 0⟩] scope pos) (mLc it (own.map (·.2)) u t f) := PE.imp (pe_lc hc hN hi ok hg ht he hs) fun σ H Q h => tLc_ok hp hio h
/-- y = [..] -/
theorem dS_setLc {i : Nat} {y : Str} {py : Pos} {elt tg iter : Expr} {ifs : List Expr} {scope : Scope} {own : List (Str × Nat)} {pos spos : Pos} {it : M (List D)} {g : TG} {u : D → Rho → Option Rho} {t : M Bool} {f : M D} (hc : X.calm = true) (hN : X.N.Nodup) (hy : X.N[i]? = some y) (hyl : X.env.scope.names.lookup y = some .local) (hoi : ∀ p ∈ P.io, p.1 ≠ i)
    (hsw : swapsWith (.ListComp elt [⟨tg, iter, ifs, 0⟩] scope pos) (some (.Name y py)) spos.line X.env = pure true) (hp : PatOk X.K P (own.map (·.2)) g u) (hio : ∀ p ∈ P.io, p.1 ∉ own.map (·.2)) (hi : DI X P tg iter it) (ok : BlkOk X.N X.env.scope scope own)
    (hg : ∀ (s : Shared) (H : Hp) (C : Addr) (cl : List (Str × Addr)) (fp : List Addr), PG (X.blk s H scope (compEnvC scope cl C X.env) fp) tg g) (ht : ∀ (s : Shared) (H : Hp) (C : Addr) (cl : List (Str × Addr)) (fp : List Addr), PTs (X.blk s H scope (compEnvC scope cl C X.env) fp) ifs (tTs X.K P.quiet t))
    (he : ∀ (s : Shared) (H : Hp) (C : Addr) (cl : List (Str × Addr)) (fp : List Addr), DE (X.blk s H scope (compEnvC scope cl C X.env) fp) P.quiet elt f) (hs : ∀ x, foldedSetIterable iter X.env x = pure x := by intro _; rfl) :
    DS X P (.Assign [.Name y py] (.ListComp elt [⟨tg, iter, ifs, 0⟩] scope pos) spos) (mSetF i (mLc it (own.map (·.2)) u t f)) :=
  PS.imp (ps_setLc hc hN hy hyl hsw hi ok hg ht he hs) fun E σ H ⟨O, ρ, I, p⟩ => tLc_ok hp hio (tM0 I (SPost.bind p fun d ρ' v H1 I1 b1 r1 p1 => p1 _ _ _ (I1.setOwn r1.1 r1.2 hoi) (own_bh r1.1)))
theorem dTs_nil : PTs X [] (tTs X.K P (mRet true)) := ⟨fun pins s σ H Q I ⟨O, T, ρ, J, p⟩ => pts_nil.run pins s σ H Q I (p.ok J rfl)⟩
theorem dTs_one {c : Expr} {t : M Bool} (h : DT X P c t) : PTs X [c] (tTs X.K P t) := pts_one h
end
end Nv

namespace Nv
open PySem PySem.Spec PyProof.Rows L2
/-! ## defs -/
def st0 (n : Nat) (ds : List D) : Rho := ds.map .shr ++ List.replicate (n - ds.length) .no
def frOf : SR → FR
  | .nx _ => .ok .non
  | .rt d _ => .ok d
  | .rf ds _ => .ok (.lst ds)
  | .exc c d _ => .exc c d
  | _ => .err
def runP (n : Nat) (m : MS) (ds : List D) : FR := frOf (m (st0 n ds))
def ffOf : SR → Option (List D)
  | .rf ds _ => some ds
  | _ => none
def runF (n : Nat) (m : MS) (ds : List D) : Option (List D) := ffOf (m (st0 n ds))
def st1 (n : Nat) (s : D) (ds : List D) : Rho := .own s :: (ds.map .shr ++ List.replicate (n - (ds.length + 1)) .no)
def own0 (ρ : Rho) : Option D := match ρ[0]? with
  | some (Sl.own s) => some s
  | _ => none
def fiOf : SR → FI
  | .nx ρ => (match own0 ρ with
    | some s => .ok .non s
    | none => .err)
  | .rt d ρ => (match own0 ρ with
    | some s => .ok d s
    | none => .err)
  | .rf ds ρ => (match own0 ρ with
    | some s => .ok (.lst ds) s
    | none => .err)
  | .exc c d ρ => (match own0 ρ with
    | some s => .exc c d s
    | none => .err)
  | _ => .err
def runI (n : Nat) (m : MS) (s : D) (ds : List D) : FI := fiOf (m (st1 n s ds))
theorem start_len {N : List Str} {vs : List V} (h : vs.length ≤ N.length) : (L2.start N vs).length = N.length := by
  unfold L2.start
  simp
  omega
section
variable {Pg : Program} {w : World} {K : PySem.W.Frag} {mg : Str → Option Value} {base : Heap} {G : CT} {x qual : Str} {params : Arguments} {body : List Stmt} {scope : Scope} {f : Addr} {fd : FuncData} {N ps : List Str} {k n : Nat} {m : MS}
/-- the state ahead of a body: the arguments' values -/
theorem env_start {H : Hp} {Z : List Addr} {ds : List D} {vs : List V} (hZ : ∀ a ∈ Z, ∃ o, H a = some o) (r : Reps G K (hid Z H) ds vs) (hn : vs.length ≤ N.length) : EnvOk G K H [] Z [] [] (st0 N.length ds) (L2.start N vs) H where
  len := by
    rw [start_len hn]
    unfold st0
    have := r.len
    simp
    omega
  base := fun b o h => h
  bO := fun a h => by simp at h
  bT := fun a h => by simp at h
  live := fun a h => hZ a (by simpa [hz] using h)
  tmp := fun a h => by simp at h
  nz := fun a h => by simp at h
  shr := fun i d h => by
    have e : hz [] [] Z = Z := by simp [hz]
    rw [e]
    unfold st0 at h
    by_cases hi : i < ds.length
    · rw [List.getElem?_append_left (by simpa using hi), List.getElem?_map] at h
      obtain ⟨d', h1, h2⟩ := Option.map_eq_some_iff.mp h
      cases h2
      obtain ⟨v, q1, q2⟩ := r.get h1
      refine ⟨v, ?_, q2⟩
      unfold L2.start
      rw [List.getElem?_append_left (by rw [List.length_map, r.len]; exact hi), List.getElem?_map, q1]
      rfl
    · rw [List.getElem?_append_right (by simp; omega)] at h
      have := List.mem_of_getElem? h
      rw [List.mem_replicate] at this
      cases this.2
  own := fun i d h => by
    unfold st0 at h
    by_cases hi : i < ds.length
    · rw [List.getElem?_append_left (by simpa using hi), List.getElem?_map] at h
      obtain ⟨d', h1, h2⟩ := Option.map_eq_some_iff.mp h
      cases h2
    · rw [List.getElem?_append_right (by simp; omega)] at h
      have := List.mem_of_getElem? h
      rw [List.mem_replicate] at this
      cases this.2
  inj := fun i j d e a h => by
    exfalso
    unfold st0 at h
    by_cases hi : i < ds.length
    · rw [List.getElem?_append_left (by simpa using hi), List.getElem?_map] at h
      obtain ⟨d', h1, h2⟩ := Option.map_eq_some_iff.mp h
      cases h2
    · rw [List.getElem?_append_right (by simp; omega)] at h
      have := List.mem_of_getElem? h
      rw [List.mem_replicate] at this
      cases this.2
  io := fun p h => by simp at h
/-- a body's statement, told for the context of its def -/
def BodyOk (Pg : Program) (w : World) (K : PySem.W.Frag) (mg : Str → Option Value) (base : Heap) (G : CT) (N : List Str) (qual : Str) (scope : Scope) (body : List Stmt) (k : Nat) (f : Addr) (io : Bool) (m : MS) : Prop :=
  ∀ (cdv : Value) (A : Around) (outer : List PySem.Env) (s : Shared) (H : Hp) (E : XK), Room k (A.deeper (envOfC qual scope s.heap.objs.size f cdv)) → A.guards = some [] → ∀ (B : Hp) (Z : List Addr) (a : Addr), DSs (cxOf (L2.CX Pg w) Pg w K mg base N qual scope f cdv A outer s H E) ⟨G, B, if io then [(0, a)] else [], Z, E⟩ body m
theorem sp_len {vs : List V} {H : Hp} {Q : VK} {E : XK} {m : List D → FR} (h : spP G K n m vs H Q E) : vs.length = n := by
  obtain ⟨Z, ds, h1, _, r, _⟩ := h
  rw [r.len, h1]
theorem fn_pure (F : FunD K x qual params body scope [] [] f fd) (S : FnScope N ps scope) (hn : ps.length = n) (hb : BodyOk Pg w K mg base G N qual scope body k f false m) : Fn Pg w K mg base (L2.CX Pg w) (k + 1) f fd ps (spP G K n (runP N.length m)) := by
  have hps : ps.length ≤ N.length := by
    have := congrArg List.length S.pre
    rw [List.length_take] at this
    omega
  refine fnG F S (fun vs H Q E h => by rw [sp_len h, hn]) fun cdv A outer s H vs Q E hr gd h => ?_
  have hl := sp_len h
  obtain ⟨Z, ds, h1, hZ, r, q⟩ := h
  refine ⟨_, hb cdv A outer s H E hr gd H Z 0, [], st0 N.length ds, env_start hZ r (by rw [hl, ← hn]; exact hps), ?_⟩
  unfold runP at q
  have hbs : ∀ {O' : List Addr} {ρ : Rho} {σ' : L2.St} {H' : Hp}, Env K ⟨G, H, [], Z, E⟩ O' [] ρ σ' H' → Ex H H' := fun I b o e => I.base b o e
  have up : ∀ {O' : List Addr} {H' : Hp}, Ex (hid (hz [] O' Z) H') (hid Z H') := fun {O' H'} => ex_sub fun b hb => by unfold hz; simp [hb]
  cases hm : m (st0 N.length ds) with
  | nx ρ => rw [hm] at q; exact fun O' σ' H' I b => q .non H' (hbs I) (by simp only [Rep])
  | rt d ρ => rw [hm] at q; exact fun O' σ' H' v I b rv => q v H' (hbs I) (Rep.ex up _ _ rv)
  | rf xs ρ =>
    rw [hm] at q
    intro O' σ' H' p vs' I b hp rv
    refine q (.ref p) _ ((hbs I).trans (ex_new hp)) ?_
    simp only [Rep]
    have hpZ : p ∉ Z := fun z => by
      obtain ⟨o, ho⟩ := hZ p z
      rw [hbs I p o ho] at hp
      cases hp
    exact ⟨p, vs', rfl, by rw [hid_out hpZ]; exact upd_same, Reps.ex (up.trans (ex_hid_new hp)) _ _ rv⟩
  | exc c d ρ => rw [hm] at q; exact fun O' σ' dd v f H' I b hf w1 w2 => q dd v f H' (hbs I) hf w1 (Rep.ex up _ _ w2)
  | bk ρ => rw [hm] at q; exact (show False from q).elim
  | ct ρ => rw [hm] at q; exact (show False from q).elim
  | err => rw [hm] at q; exact (show False from q).elim
theorem fn_fresh (F : FunD K x qual params body scope [] [] f fd) (S : FnScope N ps scope) (hn : ps.length = n) (hb : BodyOk Pg w K mg base G N qual scope body k f false m) : Fn Pg w K mg base (L2.CX Pg w) (k + 1) f fd ps (spF G K n (runF N.length m)) := by
  have hps : ps.length ≤ N.length := by
    have := congrArg List.length S.pre
    rw [List.length_take] at this
    omega
  refine fnG F S (fun vs H Q E h => ?_) fun cdv A outer s H vs Q E hr gd h => ?_
  · obtain ⟨Z, ds, h1, _, r, _⟩ := h
    rw [r.len, h1, hn]
  obtain ⟨Z, ds, h1, hZ, r, xs, hx, q⟩ := h
  refine ⟨_, hb cdv A outer s H E hr gd H Z 0, [], st0 N.length ds, env_start hZ r (by rw [r.len, h1, ← hn]; exact hps), ?_⟩
  unfold runF at hx
  cases hm : m (st0 N.length ds) with
  | rf xs' ρ =>
    rw [hm] at hx
    cases hx
    intro O' σ' H' p vs' I b hp rv
    exact q p vs' H' (fun b o e => I.base b o e) hp (Reps.ex (ex_sub fun b hb => by unfold hz; simp [hb]) _ _ rv)
  | _ => rw [hm] at hx; cases hx
theorem fn_io (F : FunD K x qual params body scope [] [] f fd) (S : FnScope N ps scope) (hn : ps.length = n + 1) (hb : BodyOk Pg w K mg base G N qual scope body k f true m) : Fn Pg w K mg base (L2.CX Pg w) (k + 1) f fd ps (spI G K n (runI N.length m)) := by
  have hps : ps.length ≤ N.length := by
    have := congrArg List.length S.pre
    rw [List.length_take] at this
    omega
  refine fnG F S (fun vs H Q E h => ?_) fun cdv A outer s H vs Q E hr gd h => ?_
  · obtain ⟨Z, a, us, s, ds, rfl, h1, _, _, _, r, _⟩ := h
    rw [List.length_cons, r.len, h1, hn]
  obtain ⟨Z, a, us, s0, ds, rfl, h1, haZ, hZ, hA, r, hm'⟩ := h
  have hus : us.length = n := by rw [r.len, h1]
  have same : ∀ H' : Hp, Ex (hid Z H') (hid (hz [] [a] Z) H') := fun H' => ex_sub fun b hb => by
    unfold hz at hb
    simp only [List.map_nil, List.nil_append, List.cons_append, List.mem_cons] at hb
    rcases hb with rfl | hb
    · exact haZ
    · exact hb
  have I0 : Env K ⟨G, hid [a] H, [(0, a)], Z, E⟩ [a] [] (st1 N.length s0 ds) (L2.start N (.ref a :: us)) H := {
    len := by
      rw [start_len (by rw [List.length_cons, hus, ← hn]; exact hps)]
      unfold st1
      have := h1
      simp
      omega
    base := fun b o h => (hid_some h).2
    bO := fun b hb => by
      rw [List.mem_singleton] at hb
      subst hb
      exact hid_in (by simp)
    bT := fun p hp => by simp at hp
    live := fun b hb => by
      unfold hz at hb
      simp only [List.map_nil, List.nil_append, List.cons_append, List.mem_cons] at hb
      rcases hb with rfl | hb
      · exact hA.live
      · exact hZ b hb
    tmp := fun p hp => by simp at hp
    nz := fun b hb _ => by
      rw [List.mem_singleton] at hb
      subst hb
      exact ⟨(0, b), by simp, rfl⟩
    shr := fun i d h => by
      cases i with
      | zero => cases h
      | succ i =>
        have h' : (ds.map Sl.shr ++ List.replicate (N.length - (ds.length + 1)) Sl.no)[i]? = some (.shr d) := h
        by_cases hi : i < ds.length
        · rw [List.getElem?_append_left (by simpa using hi), List.getElem?_map] at h'
          obtain ⟨d', w1, w2⟩ := Option.map_eq_some_iff.mp h'
          cases w2
          obtain ⟨v, q1, q2⟩ := r.get w1
          refine ⟨v, ?_, Rep.ex (same H) _ _ q2⟩
          show (some (V.ref a) :: (us.map some ++ List.replicate (N.length - (us.length + 1)) none))[i + 1]? = some (some v)
          rw [List.getElem?_cons_succ, List.getElem?_append_left (by rw [List.length_map, hus, ← h1]; exact hi), List.getElem?_map, q1]
          rfl
        · rw [List.getElem?_append_right (by simp; omega)] at h'
          have := List.mem_of_getElem? h'
          rw [List.mem_replicate] at this
          cases this.2
    own := fun i d h => by
      cases i with
      | zero =>
        cases h
        exact ⟨a, rfl, by simp, hA.ex (same H) rfl⟩
      | succ i =>
        exfalso
        have h' : (ds.map Sl.shr ++ List.replicate (N.length - (ds.length + 1)) Sl.no)[i]? = some (.own d) := h
        have := List.mem_of_getElem? h'
        simp at this
    inj := fun i j d e b h h2 _ _ => by
      have z : ∀ (i : Nat) d, (st1 N.length s0 ds)[i]? = some (.own d) → i = 0 := fun i d h => by
        cases i with
        | zero => rfl
        | succ i =>
          exfalso
          have h' : (ds.map Sl.shr ++ List.replicate (N.length - (ds.length + 1)) Sl.no)[i]? = some (.own d) := h
          have := List.mem_of_getElem? h'
          simp at this
      rw [z i d h, z j e h2]
    io := fun p hp => by
      rw [List.mem_singleton] at hp
      subst hp
      exact ⟨rfl, by simp, s0, rfl⟩ }
  refine ⟨_, hb cdv A outer s H E hr gd (hid [a] H) Z a, [a], st1 N.length s0 ds, I0, ?_⟩
  -- the end
  have up : ∀ {O' : List Addr} {H' : Hp}, Ex (hid (hz [] O' Z) H') (hid Z H') := fun {O' H'} => ex_sub fun b hb => by unfold hz; simp [hb]
  have fin : ∀ {O' : List Addr} {ρ : Rho} {σ' : L2.St} {H' : Hp} {s2 : D}, Env K ⟨G, hid [a] H, [(0, a)], Z, E⟩ O' [] ρ σ' H' → own0 ρ = some s2 →
      (∀ b o, b ≠ a → H b = some o → H' b = some o) ∧ OwnAt G K Z H' a s2 := fun {O' ρ σ' H' s2} I h => by
    unfold own0 at h
    split at h
    · rename_i s3 h3
      cases h
      obtain ⟨w1, w2, e, w3⟩ := I.io (0, a) (by simp)
      obtain ⟨b, v1, v2, v3⟩ := I.own 0 _ h3
      rw [show σ'[0]? = some (some (.ref a)) from w1] at v1
      cases v1
      exact ⟨fun b o hb e => I.base b o (show hid [a] H b = some o by rw [hid_out (by simpa using hb)]; exact e), v3.ex up rfl⟩
    · cases h
  unfold runI at hm'
  cases hm : m (st1 N.length s0 ds) with
  | nx ρ =>
    rw [hm] at hm'
    cases ho : own0 ρ with
    | none => simp only [fiOf, ho] at hm'
    | some s2 =>
      simp only [fiOf, ho] at hm'
      intro O' σ' H' I b
      obtain ⟨w1, w2⟩ := fin I ho
      exact hm' .non H' w1 w2 (by simp only [Rep])
  | rt y ρ =>
    rw [hm] at hm'
    cases ho : own0 ρ with
    | none => simp only [fiOf, ho] at hm'
    | some s2 =>
      simp only [fiOf, ho] at hm'
      intro O' σ' H' v I b rv
      obtain ⟨w1, w2⟩ := fin I ho
      exact hm' v H' w1 w2 (Rep.ex up _ _ rv)
  | rf xs ρ =>
    rw [hm] at hm'
    cases ho : own0 ρ with
    | none => simp only [fiOf, ho] at hm'
    | some s2 =>
      simp only [fiOf, ho] at hm'
      intro O' σ' H' p vs' I b hp rv
      obtain ⟨w1, w2⟩ := fin I ho
      obtain ⟨o2, ho2⟩ := w2.live
      have hpa : p ≠ a := fun z => by rw [z, ho2] at hp; cases hp
      have hpZ : p ∉ Z := fun z => by
        obtain ⟨o, ho⟩ := hZ p z
        rw [w1 p o hpa ho] at hp
        cases hp
      refine hm' (.ref p) _ (fun b o hb e => ex_new hp b o (w1 b o hb e)) (w2.ex (ex_hid_new hp) (upd_ne hpa.symm)) ?_
      simp only [Rep]
      exact ⟨p, vs', rfl, by rw [hid_out hpZ]; exact upd_same, Reps.ex (up.trans (ex_hid_new hp)) _ _ rv⟩
  | exc c d ρ =>
    rw [hm] at hm'
    cases ho : own0 ρ with
    | none => simp only [fiOf, ho] at hm'
    | some s2 =>
      simp only [fiOf, ho] at hm'
      intro O' σ' dd v f H' I b hf q1 q2
      obtain ⟨w1, w2⟩ := fin I ho
      exact hm' dd v f H' w1 w2 hf q1 (Rep.ex up _ _ q2)
  | bk ρ => rw [hm] at hm'; exact (show False from hm').elim
  | ct ρ => rw [hm] at hm'; exact (show False from hm').elim
  | err => rw [hm] at hm'; exact (show False from hm').elim
end
end Nv

namespace Nv
open PySem PySem.Spec PyProof.Rows L2
/-! ## objects of an own class that never change once made -/
/-- the class of number c stands as it should -/
structure ClsOk (K : PySem.W.Frag) (G : CT) (c : Nat) : Prop where
  cl : Cls K (G.adr c)
section
variable {X : Cx} {P : Pr} {pos : Pos} {e a b : Expr} {es : List Expr} {f g : M D}
/-- o.f, a field -/
def dFld (c j : Nat) : D → Option D
  | .ins c' ds => if c' = c then ds[j]? else none
  | _ => none
def mFld (c j : Nat) (f : M D) : M D := mUn (dFld c j) f
theorem dE_fld {c j : Nat} {fl : Str} (cl : Cls X.K (P.G.adr c)) (na : NoAttr X.K (P.G.adr c) fl) (hl : ∀ vs : List V, (P.G.flds c).length = vs.length → ((P.G.flds c).zip vs).lookup fl = vs[j]?) (ha : DE X P e f) (hb : attributeBase e fl X.env (eval e X.env) = eval e X.env := by rfl) :
    DE X P (.Attribute e fl pos) (mFld c j f) := PE.imp (pe_fld ha hb) fun σ H Q ⟨O, T, ρ, I, p⟩ => ⟨O, T, ρ, I, Post.bind p fun x ρ1 v H1 I1 e1 r1 p1 => by
  obtain ⟨z, hz, p2⟩ := p1.opt
  cases x <;> first | (cases hz; done) | skip
  rename_i c' ds
  have hz' : (if c' = c then ds[j]? else none) = some z := hz
  clear hz
  obtain ⟨rfl, hz⟩ := ite_some2 hz'
  simp only [RE, Rep] at r1
  obtain ⟨q, dx, vs, rfl, h1, h2, h3⟩ := r1
  obtain ⟨w, h4, h5⟩ := h3.get hz
  exact ⟨q, _, dx, _, w, rfl, (hid_some h1).2, cl, na, by rw [hl vs h2]; exact h4, p2.ok I1 h5⟩⟩
/-- o.m(e, ..), a method that changes nothing -/
def insIs (c : Nat) : D → Bool
  | .ins c' _ => decide (c' = c)
  | _ => false
theorem insIs_of {c : Nat} {o : D} (h : insIs c o = true) : ∃ ds, o = .ins c ds := by
  cases o <;> first | (cases h; done) | skip
  have := of_decide_eq_true h
  subst this
  exact ⟨_, rfl⟩
def mObj {α : Type} (c : Nat) (f : M D) (k : D → M α) : M α := mBind f fun o ρ => if insIs c o then k o ρ else .err
/-- the address of an object -/
theorem obj_at {γ δ : Type} {R : List Addr → Hp → γ → δ → Prop} {O : List Addr} {T : Tmp} {ρ : Rho} {σ : L2.St} {H : Hp} {c : Nat} {k : D → M γ} {Q : δ → Hp → Prop} {Q1 : VK} (p : Post X.K P R O T σ H (mObj c f k ρ) Q)
    (h : ∀ a dx vs ds ρ' H1, Env X.K P O T ρ' σ H1 → Ex (hid (hz T O P.Z) H) (hid (hz T O P.Z) H1) → H1 a = some (.ins (P.G.adr c) dx ((P.G.flds c).zip vs)) → (P.G.flds c).length = vs.length → Rep P.G X.K (hid (hz T O P.Z) H1) (.ins c ds) (.ref a) → Post X.K P R O T σ H1 (k (.ins c ds) ρ') Q → Q1 (.ref a) H1) :
    Post X.K P (RE X.K P) O T σ H (f ρ) Q1 := by
  refine Post.bind p fun o ρ' v H1 I1 e1 r1 p1 => ?_
  obtain ⟨hi, p2⟩ := ifN p1
  obtain ⟨ds, rfl⟩ := insIs_of hi
  have r2 := r1
  simp only [RE, Rep] at r1
  obtain ⟨a, dx, vs, rfl, w1, w2, w3⟩ := r1
  exact h a dx vs ds ρ' H1 I1 e1 (hid_some w1).2 w2 r2 p2
def callR (m : List D → FR) (n : Nat) (ds : List D) (ρ : Rho) : Res D := if ds.length = n then (match m ds with
  | .ok d => .ok d ρ
  | .exc c d => .exc c d ρ
  | .err => .err) else .err
theorem callR_ok {O : List Addr} {T : Tmp} {ρ : Rho} {σ : L2.St} {H : Hp} {m : List D → FR} {n : Nat} {ds : List D} {vs : List V} {Q : VK} (I : Env X.K P O T ρ σ H) (r : Reps P.G X.K (hid (hz T O P.Z) H) ds vs)
    (p : Post X.K P (RE X.K P) O T σ H (callR m n ds ρ) Q) : spP P.G X.K n m vs H Q P.E := by
  obtain ⟨hn, p2⟩ := ifN p
  exact call_ok I r hn p2
def mMeth (c n : Nat) (m : List D → FR) (f : M D) (as : M (List D)) : M D := mObj c f fun o => mBind as fun ds ρ => callR m n (o :: ds) ρ
theorem dE_meth {c k fA n : Nat} {fd : FuncData} {ps : List Str} {m : List D → FR} {nm : Str} {apos : Pos} {pl : Sem Bool} {as : M (List D)} (cl : Cls X.K (P.G.adr c)) (hm : Meth X.K (P.G.adr c) nm fA) (F : Fn X.prog X.w X.K X.mg X.base (L2.CX X.prog X.w) k fA fd ps (spP P.G X.K n m)) (hr : Room k X.A) (gd : X.A.guards = some []) (tk : Tk X P) (hb : Binds X.K fd ps [])
    (hl : ∀ vs : List V, (P.G.flds c).length = vs.length → ((P.G.flds c).zip vs).lookup nm = none) (he : DE X P a f) (ha : DA X P (e :: es) as)
    (hst : starEach (e :: es) X.env = (false, eval e X.env) :: starEach es X.env := by rfl) (hpl : (backTo pos (starEach es X.env)).any (·.1) = false := by rfl)
    (ht : eval (.Call (.Attribute a nm apos) (e :: es) [] pos) X.env = (do
      let ov ← eval a X.env
      standAt apos.atName
      let (f, first) ← holding [ov] (getMethod ov nm pl)
      callWith pos f first (backTo pos (starEach (e :: es) X.env)) (backToKw pos (keywordEach [] X.env))) := by rfl) :
    DE X P (.Call (.Attribute a nm apos) (e :: es) [] pos) (mMeth c n m f as) := PE.imp (pe_methG he cl hm F hr gd hb tk.pass ha hst hpl ht) fun σ H Q ⟨O, T, ρ, I, p⟩ => ⟨O, T, ρ, I, obj_at p fun q dx vs ds ρ1 H1 I1 e1 hq hlen ro p1 =>
  ⟨q, dx, _, rfl, hq, hl vs hlen, O, T, ρ1, I1, Post.bind p1 fun xs ρ2 us H2 I2 e2 r2 p2 => by
    exact callR_ok I2 (.cons (Rep.ex e2 _ _ ro) r2) p2⟩⟩
/-- o.f, a property -/
def mProp (c : Nat) (m : List D → FR) (f : M D) : M D := mObj c f fun o ρ => match m [o] with
  | .ok d => .ok d ρ
  | _ => .err
theorem dE_prop {c k pA gA : Nat} {fd : FuncData} {ps : List Str} {m : List D → FR} {nm : Str} (cl : Cls X.K (P.G.adr c)) (hp : PropOf X.K (P.G.adr c) nm pA gA) (F : Fn X.prog X.w X.K X.mg X.base (L2.CX X.prog X.w) k gA fd ps (spP P.G X.K 1 m)) (hr : Room (k + 1) X.A) (gd : X.A.guards = some []) (hb : Binds X.K fd ps [])
    (he : DE X P e f) (hab : attributeBase e nm X.env (eval e X.env) = eval e X.env := by rfl) : DE X P (.Attribute e nm pos) (mProp c m f) :=
  PE.imp (pe_propG (E := fun _ _ _ => False) he cl hp F hr gd hb (passes_call (W := fun _ _ _ _ => False) takes0 fun _ _ _ _ h => h) hab) fun σ H Q ⟨O, T, ρ, I, p⟩ => ⟨O, T, ρ, I, obj_at p fun q dx vs ds ρ1 H1 I1 e1 hq hlen ro p1 =>
    ⟨q, dx, _, rfl, hq, hz T O P.Z, [.ins c ds], rfl, I1.live, .one ro, by
      cases hm : m [.ins c ds] with
      | ok d => simp only [hm] at p1; exact fun v H' e r => p1 v H' (I1.ex e) (ex_hid e) r
      | exc c d => simp only [hm] at p1; exact (show False from p1).elim
      | err => simp only [hm] at p1; exact (show False from p1).elim⟩⟩
/-- x in o, by an own __contains__ -/
theorem contains_own {k fA C : Nat} {fd : FuncData} {ps : List Str} {sp : Sp} {E : XK} (hc : PySem.W.findIn X.K (.ref C) "__contains__" = some (some (.ref fA))) (hf : PySem.W.typeIn X.K (.ref fA) = some (.type "function"))
    (F : Fn X.prog X.w X.K X.mg X.base (L2.CX X.prog X.w) k fA fd ps sp) (hr : Room k X.A) (gd : X.A.guards = some []) (hb : Binds X.K fd ps []) (hx : Passes (L2.CX X.prog X.w) X E) {pins : List (Addr × Obj)} {s : Shared} {σ : L2.St} {H : Hp} {x : V} {v : Value} {a dx : Addr} {fs : List (Str × V)}
    {Q : Bool → Shared → Prop} {Q0 : VK} (I : L2.Inv X pins σ H s) (rx : L2.RelV x v) (ha : H a = some (.ins C dx fs)) (q : sp [V.ref a, x] H Q0 E) (hQ : ∀ z H' s', L2.Inv X pins σ H' s' → Q0 z H' → ∃ b, z = .bl b ∧ Q b s') :
    wpAny (model X.prog X.w) X.A (contains (.ref a) v) Q X.xe s := by
  obtain ⟨mA, OM, _⟩ := ins_get I.hok ha
  obtain ⟨od, J, _⟩ := OM.look
  have X1 := I.kIn
  have call := run_g (us := [.ref a, v]) (vs := [.ref a, x]) F hr gd hb hx I (.cons rfl (.cons rx .nil)) q
  unfold contains
  refine wpAny_holding ?_
  have sp1 : PySem.W.Looks (model X.prog X.w) s.heap (specialOf (.ref a) "__contains__") (some (.ref fA)) := J.type.andThen (PySem.W.looks_findIn X1 hc)
  refine wpAny_bind (sp1.here ?_)
  show wpAny _ _ (if (some (Value.ref fA) == some Value.none) = true then _ else _) _ _ s
  rw [if_neg (by rw [show (some (Value.ref fA) == some Value.none) = (Value.ref fA == Value.none) from rfl]; first | exact Bool.false_ne_true | simp)]
  refine wpAny_bind ?_
  unfold callSpecialUnlessNone?
  refine wpAny_bind (sp1.here ?_)
  refine wpAny_holding ?_
  refine wpAny_bind ((PySem.W.bind_fn X1 (.ref a) hf).here ?_)
  show wpAny _ _ (if (Value.ref fA == Value.none) = true then _ else _) _ _ s
  rw [if_neg (by first | exact Bool.false_ne_true | simp)]
  refine wpAny_bind (wpAny_mono call (fun r s' z => ?_) fun _ _ x => x)
  obtain ⟨y, H', I', ry, z⟩ := z
  obtain ⟨b, e1, z1⟩ := hQ _ _ _ I' z
  subst e1
  cases ry
  exact wpAny_pure (wpAny_truthy_bool z1)
theorem op_inOwn {k fA C : Nat} {fd : FuncData} {ps : List Str} {sp : Sp} {E : XK} (hc : PySem.W.findIn X.K (.ref C) "__contains__" = some (some (.ref fA))) (hf : PySem.W.typeIn X.K (.ref fA) = some (.type "function"))
    (F : Fn X.prog X.w X.K X.mg X.base (L2.CX X.prog X.w) k fA fd ps sp) (hr : Room k X.A) (gd : X.A.guards = some []) (hb : Binds X.K fd ps []) (hx : Passes (L2.CX X.prog X.w) X E) :
    OpR X (compareOp .In) (fun x y H Q => ∃ a dx fs, y = .ref a ∧ H a = some (.ins C dx fs) ∧ sp [y, x] H (fun v H' => ∃ b, v = .bl b ∧ Q (.bl b) H') E) := by
  intro pins s σ H x y v u Q I rx ry h
  obtain ⟨a, dx, fs, rfl, ha, q⟩ := h
  cases ry
  show wpAny _ _ (do return Value.bool (← contains (.ref a) v)) _ _ s
  exact wpAny_bind (contains_own hc hf F hr gd hb hx I rx ha q fun z H' s' I' ⟨b, e, z⟩ => ⟨b, e, wpAny_pure ⟨.bl b, H', I', rfl, z⟩⟩)
theorem op_notInOwn {k fA C : Nat} {fd : FuncData} {ps : List Str} {sp : Sp} {E : XK} (hc : PySem.W.findIn X.K (.ref C) "__contains__" = some (some (.ref fA))) (hf : PySem.W.typeIn X.K (.ref fA) = some (.type "function"))
    (F : Fn X.prog X.w X.K X.mg X.base (L2.CX X.prog X.w) k fA fd ps sp) (hr : Room k X.A) (gd : X.A.guards = some []) (hb : Binds X.K fd ps []) (hx : Passes (L2.CX X.prog X.w) X E) :
    OpR X (compareOp .NotIn) (fun x y H Q => ∃ a dx fs, y = .ref a ∧ H a = some (.ins C dx fs) ∧ sp [y, x] H (fun v H' => ∃ b, v = .bl b ∧ Q (.bl (!b)) H') E) := by
  intro pins s σ H x y v u Q I rx ry h
  obtain ⟨a, dx, fs, rfl, ha, q⟩ := h
  cases ry
  show wpAny _ _ (do return Value.bool (!(← contains (.ref a) v))) _ _ s
  exact wpAny_bind (contains_own hc hf F hr gd hb hx I rx ha q fun z H' s' I' ⟨b, e, z⟩ => ⟨b, e, wpAny_pure ⟨.bl (!b), H', I', rfl, z⟩⟩)
end
end Nv

namespace Nv
open PySem PySem.Spec PyProof.Rows L2
section
variable {X : Cx} {P : Pr} {pos : Pos} {e a b c : Expr} {es : List Expr} {f g : M D}
/-! ## more expressions -/
theorem dB_if {t : M Bool} (hc : DT X P c t) (ha : DB X P a f) (hb : DB X P b g) : DB X P (.IfExp c a b pos) (mIf t f g) :=
  PE.imp (pe_ifExp hc ha hb) fun σ H Q ⟨O, T, ρ, I, p⟩ => ⟨O, T, ρ, I, Post.bind p fun x ρ1 v H1 I1 e1 r1 p1 => by
    subst r1
    cases x with
    | true => rw [if_pos rfl] at p1 ⊢; exact ⟨O, T, ρ1, I1, p1⟩
    | false => rw [if_neg (by decide)] at p1 ⊢; exact ⟨O, T, ρ1, I1, p1⟩⟩
/-- both sides may be lists of one's own -/
def OpOkB (X : Cx) (P : Pr) (r : R2) (op : D → D → Option D) : Prop := ∀ (O : List Addr) (T : Tmp) (ρ : Rho) (σ : L2.St) (H : Hp) (x y : D) (v u : V) (z : D) (Q : VK), Env X.K P O T ρ σ H → RepB X.K P (hz T O P.Z) H x v → RepB X.K P (hz T O P.Z) H y u → op x y = some z →
  Post X.K P (RE X.K P) O T σ H (.ok z ρ) Q → r v u H Q
def mOpO (i : Nat) (op : D → D → Option D) (g : M D) : M D := mOwnThen i g fun x y => mOpt (op x y)
theorem ok_eqO : OpOkB X P (rEqB X.K) dEq := by
  intro O T ρ σ H x y v u z Q I rx ry hz p
  unfold dEq at hz
  obtain ⟨b, hb, rfl⟩ := Option.map_eq_some_iff.mp hz
  rcases eqB_cases hb with ⟨v', u', h1, h2, h3⟩ | ⟨h1, h2, h3⟩
  · obtain rfl := (h3 P.G X.K _ v u).1 rx.rep
    obtain rfl := (h3 P.G X.K _ v u).2 ry.rep
    exact .inl ⟨h1, by rw [h2]; exact p.bool I⟩
  · exact .inr ⟨x.py, y.py, Rep.dp _ _ (eqOk_pure h1).1 rx.rep, Rep.dp _ _ (eqOk_pure h2).1 ry.rep, (eqOk_pure h1).2, (eqOk_pure h2).2, by rw [h3]; exact p.bool I⟩
theorem ok_neO : OpOkB X P (rNeB X.K) dNe := by
  intro O T ρ σ H x y v u z Q I rx ry hz p
  unfold dNe at hz
  obtain ⟨b, hb, rfl⟩ := Option.map_eq_some_iff.mp hz
  rcases eqB_cases hb with ⟨v', u', h1, h2, h3⟩ | ⟨h1, h2, h3⟩
  · obtain rfl := (h3 P.G X.K _ v u).1 rx.rep
    obtain rfl := (h3 P.G X.K _ v u).2 ry.rep
    exact .inl ⟨h1, by rw [h2]; exact p.bool I⟩
  · exact .inr ⟨x.py, y.py, Rep.dp _ _ (eqOk_pure h1).1 rx.rep, Rep.dp _ _ (eqOk_pure h2).1 ry.rep, (eqOk_pure h1).2, (eqOk_pure h2).2, by rw [h3]; exact p.bool I⟩
theorem tOpO_ok {i : Nat} {x : Str} {p2 : Pos} {r : R2} {op : D → D → Option D} (ho : OpOkB X P r op) {σ : L2.St} {H : Hp} {Q : VK} (h : tE X.K P (mOpO i op g) σ H Q) : tOp r (fun σ H Q => ∃ v, σ[i]? = some (some v) ∧ Q v H) (tEb X.K P g) σ H Q := by
  obtain ⟨O, T, ρ, I, p⟩ := h
  obtain ⟨a, h1, k⟩ := ownThen (R1 := RB X.K P) I p
  exact ⟨.ref a, h1, O, T, ρ, I, k _ fun y ρ2 u H2 d I2 e2 r2 hd hO q3 p2 => by
    obtain ⟨z, hz, p3⟩ := p2.opt
    exact ho O T ρ2 σ H2 d y (.ref a) u z Q I2 q3.rep r2 hz p3⟩
theorem dE_cmpO {i : Nat} {x : Str} {p2 : Pos} {o : CmpOp} {r : R2} {op : D → D → Option D} (hr : OpR X (compareOp o) r) (ho : OpOkB X P r op) (hN : X.N[i]? = some x) (hv : Vis X.env.scope x) (hb : DB X P b g) (hm : behindInMarks o b = false)
    (hd : (x == ("__debug__" : Str)) = false := by decide) (hcd : (x == ("__classdict__" : Str)) = false := by decide) : DE X P (.Compare (.Name x p2) [o] [b] pos) (mOpO i op g) :=
  PE.imp (pe_cmpR hr (pe_var hN hv hd hcd) hb hm) fun σ H Q h => tOpO_ok (x := x) (p2 := p2) ho h
theorem dT_cmpO {i : Nat} {x : Str} {p2 : Pos} {o : CmpOp} {r : R2} {op : D → D → Option D} (hr : OpR X (compareOp o) r) (ho : OpOkB X P r op) (hN : X.N[i]? = some x) (hv : Vis X.env.scope x) (hb : DB X P b g) (hm : behindInMarks o b = false)
    (hd : (x == ("__debug__" : Str)) = false := by decide) (hcd : (x == ("__classdict__" : Str)) = false := by decide) : DT X P (.Compare (.Name x p2) [o] [b] pos) (mBl (mOpO i op g)) :=
  PT.imp (pt_cmpR hr (pe_var hN hv hd hcd) hb hm) fun σ H Q h => tOpO_ok (x := x) (p2 := p2) ho (by
    obtain ⟨O, T, ρ, I, p⟩ := tBl_ok h
    exact ⟨O, T, ρ, I, p⟩)
/-! ### methods of texts -/
def mStr (op : Str → D → Option D) (f g : M D) : M D := mBind f fun x => match x with
  | .str s => mBind g fun y => mOpt (op s y)
  | _ => fun _ => .err
def OpS (X : Cx) (P : Pr) (r : V → List V → Hp → VK → Prop) (op : Str → D → Option D) : Prop := ∀ (O : List Addr) (T : Tmp) (ρ : Rho) (σ : L2.St) (H : Hp) (s : Str) (y : D) (u : V) (z : D) (Q : VK), Env X.K P O T ρ σ H → RepB X.K P (hz T O P.Z) H y u → op s y = some z →
  Post X.K P (RE X.K P) O T σ H (.ok z ρ) Q → r (.str s) [u] H Q
theorem tM1_ok {r : V → List V → Hp → VK → Prop} {op : Str → D → Option D} (ho : OpS X P r op) {σ : L2.St} {H : Hp} {Q : VK} (h : tE X.K P (mStr op f g) σ H Q) : tM1 r (tE X.K P f) (tEb X.K P g) σ H Q := by
  obtain ⟨O, T, ρ, I, p⟩ := h
  refine ⟨O, T, ρ, I, Post.bind p fun x ρ1 v H1 I1 e1 r1 p1 => ?_⟩
  cases x with
  | str s =>
    simp only [RE, Rep] at r1
    subst r1
    refine ⟨⟨s, rfl⟩, O, T, ρ1, I1, Post.bind p1 fun y ρ2 u H2 I2 e2 r2 p2 => ?_⟩
    obtain ⟨z, hz, p3⟩ := p2.opt
    exact ho O T ρ2 σ H2 s y u z Q I2 r2 hz p3
  | _ => exact (show False from p1).elim
theorem dE_m1 {id : String} {name : Str} {apos : Pos} {r : V → List V → Hp → VK → Prop} {op : Str → D → Option D} (slot : PySem.Slot "str" name id) (ty : typeOf (.builtin id) = pure (.type "method_descriptor")) (rule : MtR X id r) (ho : OpS X P r op) (ha : DE X P a f) (hb : DB X P b g)
    (hs : starEach [b] X.env = [(false, eval b X.env)] := by rfl) (hbase : attributeBase a name X.env (eval a X.env) = eval a X.env := by rfl) (hline : (apos.endLine == pos.line) = true := by rfl) :
    DE X P (.Call (.Attribute a name apos) [b] [] pos) (mStr op f g) := PE.imp (pe_m1 slot ty rule ha hb hs hbase hline) fun σ H Q h => tM1_ok ho h
def dStrs : List D → Option (List Str)
  | [] => some []
  | .str s :: ds => (dStrs ds).map (s :: ·)
  | _ :: _ => none
theorem dStrs_map : ∀ ys : List Str, dStrs (ys.map .str) = some ys
  | [] => rfl
  | y :: ys => by simp only [List.map_cons, dStrs, dStrs_map ys, Option.map_some]
theorem dStrs_rep {G : CT} {K : PySem.W.Frag} {H : Hp} : ∀ {ds : List D} {vs : List V} {ys : List Str}, dStrs ds = some ys → Reps G K H ds vs → vs = ys.map V.str
  | [], vs, ys, h, r => by simp only [Reps] at r; cases h; exact r
  | d :: ds, vs, ys, h, r => by
    simp only [Reps] at r
    obtain ⟨v, ws, rfl, r1, r2⟩ := r
    cases d <;> first | (cases h; done) | skip
    rename_i s
    obtain ⟨zs, h1, rfl⟩ := Option.map_eq_some_iff.mp (show (dStrs ds).map _ = some ys from h)
    simp only [Rep] at r1
    subst r1
    rw [dStrs_rep h1 r2]
    rfl
def joinFits (a : Str) (ys : List Str) : Bool := decide ((ys.map (·.length)).sum + ys.length * a.length ≤ 16777216)
def dJoinL (a : Str) (xs : List D) : Option D := (dStrs xs).bind fun ys => if joinFits a ys then some (.str (Txt.join a ys)) else none
def dJoin (a : Str) : D → Option D
  | .lst xs => dJoinL a xs
  | .tup xs => dJoinL a xs
  | _ => none
theorem dJoinL_some {a : Str} {xs : List D} {z : D} (h : dJoinL a xs = some z) : ∃ ys, dStrs xs = some ys ∧ (ys.map (·.length)).sum + ys.length * a.length ≤ 16777216 ∧ z = .str (Txt.join a ys) := by
  obtain ⟨ys, h1, h2⟩ := Option.bind_eq_some_iff.mp h
  obtain ⟨h3, h4⟩ := ite_some h2
  exact ⟨ys, h1, of_decide_eq_true h3, h4.symm⟩
theorem ok_join : OpS X P (fun x xs H Q => ∃ a p, ∃ ys : List Str, x = .str a ∧ xs = [.ref p] ∧ (SqL X.K H p (ys.map V.str) ∨ SqT X.K H p (ys.map V.str)) ∧
    (ys.map (·.length)).sum + ys.length * a.length ≤ 16777216 ∧ Q (.str (Txt.join a ys)) H) dJoin := by
  intro O T ρ σ H s y u z Q I ry hz p
  cases y <;> first | (cases hz; done) | skip
  · obtain ⟨ys, h1, h2, rfl⟩ := dJoinL_some hz
    obtain ⟨a, vs, rfl, h3, h4⟩ := ry
    have := dStrs_rep h1 h4
    subst this
    exact ⟨s, a, ys, rfl, rfl, .inl (SqL.of h3), h2, p.txt I⟩
  · obtain ⟨ys, h1, h2, rfl⟩ := dJoinL_some hz
    simp only [RepB, Rep] at ry
    obtain ⟨a, vs, rfl, h3, h4⟩ := ry
    have := dStrs_rep h1 h4
    subst this
    exact ⟨s, a, ys, rfl, rfl, .inr (Evl.ex_t ex_unhid h3), h2, p.txt I⟩
theorem dE_join {apos : Pos} (ha : DE X P a f) (hb : DB X P b g) (hs : starEach [b] X.env = [(false, eval b X.env)] := by rfl) (hbase : attributeBase a "join" X.env (eval a X.env) = eval a X.env := by rfl) (hline : (apos.endLine == pos.line) = true := by rfl) :
    DE X P (.Call (.Attribute a "join" apos) [b] [] pos) (mStr dJoin f g) := dE_m1 PySem.F.slot_str_join PySem.F.type_str_join mt_join ok_join ha hb hs hbase hline
def dSindex (a : Str) : D → Option D
  | .str b => match Builtin.Str.occurrences a b 0 a.length 1 with
    | i :: _ => some (.int (i : Nat))
    | [] => none
  | _ => none
theorem ok_sindex : OpS X P (fun x xs H Q => ∃ a b i rest, x = .str a ∧ xs = [.str b] ∧ Builtin.Str.occurrences a b 0 a.length 1 = i :: rest ∧ Q (.int (i : Nat)) H) dSindex := by
  intro O T ρ σ H s y u z Q I ry hz p
  cases y <;> first | (cases hz; done) | skip
  rename_i b
  simp only [dSindex] at hz
  simp only [RepB, Rep] at ry
  subst ry
  split at hz
  · rename_i i rest ho
    cases hz
    exact ⟨s, b, i, rest, rfl, rfl, ho, p.int I⟩
  · cases hz
/-! ### sorted, of texts -/
def strLe (x y : Str) : Bool := decide (x.cps.toList ≤ y.cps.toList)
def srt (xs : List Str) : List Str := xs.mergeSort strLe
theorem strLe_trans (a b c : Str) (h1 : strLe a b = true) (h2 : strLe b c = true) : strLe a c = true :=
  decide_eq_true (List.le_trans (of_decide_eq_true h1) (of_decide_eq_true h2))
theorem strLe_total (a b : Str) : (strLe a b || strLe b a) = true := by
  rw [Bool.or_eq_true]
  rcases List.le_total a.cps.toList b.cps.toList with h | h
  · exact .inl (decide_eq_true h)
  · exact .inr (decide_eq_true h)
theorem strLe_anti {a b : Str} (h1 : strLe a b = true) (h2 : strLe b a = true) : a = b := by
  have := List.le_antisymm (of_decide_eq_true h1) (of_decide_eq_true h2)
  cases a; cases b
  simp at this
  rw [this]
theorem risingS_le : ∀ (p : Str) (xs : List Str), risingS p xs = true → (∀ x ∈ xs, strLe p x = true) ∧ xs.Pairwise (fun a b => strLe a b = true)
  | p, [], _ => ⟨fun _ h => by simp at h, .nil⟩
  | p, x :: r, h => by
    unfold risingS at h
    rw [Bool.and_eq_true] at h
    have h0 : strLe p x = true := by
      have := h.1
      rw [ltCps_eq] at this
      unfold strLe
      rw [decide_eq_true_eq]
      have h3 : ¬ (x.cps.toList < p.cps.toList) := by simpa using this
      exact List.not_lt.mp h3
    obtain ⟨q1, q2⟩ := risingS_le x r h.2
    refine ⟨fun y hy => ?_, .cons q1 q2⟩
    rcases List.mem_cons.mp hy with rfl | hy
    · exact h0
    · exact strLe_trans _ _ _ h0 (q1 y hy)
theorem sortedS_le {xs : List Str} (h : sortedS xs = true) : xs.Pairwise (fun a b => strLe a b = true) := by
  cases xs with
  | nil => exact .nil
  | cons x r =>
    obtain ⟨q1, q2⟩ := risingS_le x r h
    exact .cons q1 q2
theorem srt_sorted (xs : List Str) : (srt xs).Pairwise (fun a b => strLe a b = true) := List.pairwise_mergeSort strLe_trans strLe_total xs
theorem srt_perm (xs : List Str) : (srt xs).Perm xs := List.mergeSort_perm xs _
theorem srt_unique' {ys xs : List Str} (p : ys.Perm xs) (s : ys.Pairwise (fun a b => strLe a b = true)) : ys = srt xs :=
  List.Perm.eq_of_pairwise (fun a b _ _ h1 h2 => strLe_anti h1 h2) s (srt_sorted xs) (p.trans (srt_perm xs).symm)
theorem srt_unique {ys xs : List Str} (p : ys.Perm xs) (s : sortedS ys = true) : ys = srt xs := srt_unique' p (sortedS_le s)
def dSortL (xs : List D) : Option (List D) := (dStrs xs).bind fun ys => if ys.length < 64 then some ((srt ys).map .str) else none
def dSorted : D → Option (List D)
  | .lst xs => dSortL xs
  | _ => none
theorem reps_strs {G : CT} {K : PySem.W.Frag} {H : Hp} : ∀ ys : List Str, Reps G K H (ys.map .str) (ys.map V.str)
  | [] => .nil
  | y :: ys => .cons (by simp only [Rep]) (reps_strs ys)
theorem ok_sorted : Op1F X P (rSortedS X.K) dSorted := by
  intro O T ρ σ H x v ds Q I rx hz p
  cases x <;> first | (cases hz; done) | skip
  obtain ⟨ys, h1, h2⟩ := Option.bind_eq_some_iff.mp (show (dStrs _).bind _ = some ds from hz)
  obtain ⟨h3, rfl⟩ := ite_some h2
  obtain ⟨a, vs, rfl, h4, h5⟩ := rx
  have := dStrs_rep h1 h5
  subst this
  refine ⟨a, ys, rfl, SqL.of h4, h3, fun zs q hp hs hq => ?_⟩
  obtain rfl := srt_unique hp hs
  exact p.fresh I hq (reps_strs _)
end
end Nv

namespace Nv
open PySem PySem.Spec PyProof.Rows L2
section
variable {X : Cx} {P : Pr} {pos : Pos} {e a b c : Expr} {es : List Expr} {f g : M D}
/-! ## two values at once -/
theorem EnvOk.untmp {G : CT} {K : PySem.W.Frag} {B : Hp} {io : List (Nat × Addr)} {Z O : List Addr} {T : Tmp} {ρ : Rho} {σ : L2.St} {H : Hp} {p : Addr × List V} (I : EnvOk G K B io Z O (p :: T) ρ σ H) : EnvOk G K B io Z O T ρ σ H := by
  have sub : Ex (hid (hz (p :: T) O Z) H) (hid (hz T O Z) H) := ex_sub fun b hb => by rw [hz_cons]; exact List.mem_cons_of_mem _ hb
  exact {
    len := I.len
    base := I.base
    bO := I.bO
    bT := fun q hq => I.bT q (List.mem_cons_of_mem _ hq)
    live := fun b hb => I.live b (by rw [hz_cons]; exact List.mem_cons_of_mem _ hb)
    tmp := fun q hq => I.tmp q (List.mem_cons_of_mem _ hq)
    nz := I.nz
    shr := fun i d h => by
      obtain ⟨v, h1, h2⟩ := I.shr i d h
      exact ⟨v, h1, Rep.ex sub _ _ h2⟩
    own := fun i d h => by
      obtain ⟨a, h1, h2, h3⟩ := I.own i d h
      exact ⟨a, h1, h2, h3.ex sub rfl⟩
    inj := I.inj
    io := I.io }
theorem SPost.bindT {K : PySem.W.Frag} {O : List Addr} {H H2 : Hp} {E : Ends} {α β : Type} {R : List Addr → Hp → α → β → Prop} {m : M α} {k : α → MS} {σ : L2.St} {ρ : Rho} {Q : β → Hp → Prop} {q : Addr × List V} (p : SPost K P O H (sBind m k ρ) E)
    (e0 : Ex (hid (hz [] O P.Z) H) (hid (hz [q] O P.Z) H2))
    (h : ∀ a ρ' b H1, Env K P O [q] ρ' σ H1 → Ex (hid (hz [q] O P.Z) H2) (hid (hz [q] O P.Z) H1) → R (hz [q] O P.Z) H1 a b → SPost K P O H (k a ρ') E → Q b H1) : Post K P R O [q] σ H2 (m ρ) Q := by
  have sub : ∀ {H1 : Hp}, Ex (hid (hz [q] O P.Z) H1) (hid (hz [] O P.Z) H1) := fun {H1} => ex_sub fun b hb => by rw [hz_cons]; exact List.mem_cons_of_mem _ hb
  unfold sBind at p
  cases hm : m ρ with
  | ok a ρ' =>
    rw [hm] at p
    exact fun b H' I e r => h a ρ' b H' I e r p
  | exc c d ρ' =>
    rw [hm] at p
    exact fun dd v f H' I e hf q1 q2 => p O σ dd v f H' I.untmp ((e0.trans e).trans sub) hf q1 (Rep.ex sub _ _ q2)
  | err => rw [hm] at p; exact p
section
variable {i j : Nat} {x y : Str} {px py pt : Pos} {kt k2 : Nat} {pt2 : Pos}
def mParVV (i j : Nat) (f g : M D) : MS := sBind f fun x => sBind g fun y ρ => .nx ((ρ.set i (.shr x)).set j (.shr y))
def mParFF (i j : Nat) (f g : M (List D)) : MS := sBind f fun x => sBind g fun y ρ => .nx ((ρ.set i (.own (.lst x))).set j (.own (.lst y)))
def mParFV (i j : Nat) (f : M (List D)) (g : M D) : MS := sBind f fun x => sBind g fun y ρ => .nx ((ρ.set i (.own (.lst x))).set j (.shr y))
def mParVF (i j : Nat) (f : M D) (g : M (List D)) : MS := sBind f fun x => sBind g fun y ρ => .nx ((ρ.set i (.shr x)).set j (.own (.lst y)))
theorem dS_parVV {i j : Nat} {x y : Str} {px py pt : Pos} {kt k2} {pt2 : Pos} (hc : X.calm = true) (hN : X.N.Nodup) (hi : X.N[i]? = some x) (hj : X.N[j]? = some y) (hij : i ≠ j) (hx : X.env.scope.names.lookup x = some .local) (hy : X.env.scope.names.lookup y = some .local)
    (hio : ∀ p ∈ P.io, p.1 ≠ i) (hjo : ∀ p ∈ P.io, p.1 ≠ j) (ha : DE X P a f) (hb : DE X P b g) (h1 : starEach (a :: [b]) X.env = (false, eval a X.env) :: starEach [b] X.env := by rfl) (h2 : starEach (b :: []) X.env = (false, eval b X.env) :: starEach [] X.env := by rfl)
    (hw : swappedStores [.Tuple [.Name x px, .Name y py] kt pt] (.Tuple [a, b] k2 pt2) X.env = pure (some [x, y]) := by rfl)
    (hs : swapsWithSole [.Tuple [.Name x px, .Name y py] kt pt] (.Tuple [a, b] k2 pt2) pos.line X.env = pure false := by rfl) :
    DS X P (.Assign [.Tuple [.Name x px, .Name y py] kt pt] (.Tuple [a, b] k2 pt2) pos) (mParVV i j f g) :=
  PS.imp (ps_par hc hN hi hj hij hx hy (pa_cons ha (pa_cons hb pa_nil h2) h1) hw hs) fun E σ H ⟨O, ρ, I, p⟩ => tM0 I (SPost.bind p fun d ρ1 v H1 I1 b1 r1 p1 => tM0 I1 (SPost.bind p1 fun d2 ρ2 w H2 I2 b2 r2 p2 =>
    ⟨v, w, rfl, p2 O _ H2 ((I2.set (Rep.ex b2 _ _ r1) hio).set r2 hjo) (Evl.Ex.refl _)⟩))
theorem dS_parVF {i j : Nat} {x y : Str} {px py pt : Pos} {kt k2} {pt2 : Pos} {g : M (List D)} (hc : X.calm = true) (hN : X.N.Nodup) (hi : X.N[i]? = some x) (hj : X.N[j]? = some y) (hij : i ≠ j) (hx : X.env.scope.names.lookup x = some .local) (hy : X.env.scope.names.lookup y = some .local)
    (hio : ∀ p ∈ P.io, p.1 ≠ i) (hjo : ∀ p ∈ P.io, p.1 ≠ j) (ha : DE X P a f) (hb : DF X P b g) (h1 : starEach (a :: [b]) X.env = (false, eval a X.env) :: starEach [b] X.env := by rfl) (h2 : starEach (b :: []) X.env = (false, eval b X.env) :: starEach [] X.env := by rfl)
    (hw : swappedStores [.Tuple [.Name x px, .Name y py] kt pt] (.Tuple [a, b] k2 pt2) X.env = pure (some [x, y]) := by rfl)
    (hs : swapsWithSole [.Tuple [.Name x px, .Name y py] kt pt] (.Tuple [a, b] k2 pt2) pos.line X.env = pure false := by rfl) :
    DS X P (.Assign [.Tuple [.Name x px, .Name y py] kt pt] (.Tuple [a, b] k2 pt2) pos) (mParVF i j f g) :=
  PS.imp (ps_par hc hN hi hj hij hx hy (pa_cons ha (pa_cons hb pa_nil h2) h1) hw hs) fun E σ H ⟨O, ρ, I, p⟩ => tM0 I (SPost.bind p fun d ρ1 v H1 I1 b1 r1 p1 => tM0 I1 (SPost.bind p1 fun d2 ρ2 w H2 I2 b2 r2 p2 =>
    ⟨v, _, rfl, p2 _ _ _ ((I2.set (Rep.ex b2 _ _ r1) hio).setOwn r2.1 r2.2 hjo) (own_bh r2.1)⟩))
theorem dS_parFV {i j : Nat} {x y : Str} {px py pt : Pos} {kt k2} {pt2 : Pos} {f : M (List D)} (hc : X.calm = true) (hN : X.N.Nodup) (hi : X.N[i]? = some x) (hj : X.N[j]? = some y) (hij : i ≠ j) (hx : X.env.scope.names.lookup x = some .local) (hy : X.env.scope.names.lookup y = some .local)
    (hio : ∀ p ∈ P.io, p.1 ≠ i) (hjo : ∀ p ∈ P.io, p.1 ≠ j) (ha : DF X P a f) (hb : DE X P b g) (h1 : starEach (a :: [b]) X.env = (false, eval a X.env) :: starEach [b] X.env := by rfl) (h2 : starEach (b :: []) X.env = (false, eval b X.env) :: starEach [] X.env := by rfl)
    (hw : swappedStores [.Tuple [.Name x px, .Name y py] kt pt] (.Tuple [a, b] k2 pt2) X.env = pure (some [x, y]) := by rfl)
    (hs : swapsWithSole [.Tuple [.Name x px, .Name y py] kt pt] (.Tuple [a, b] k2 pt2) pos.line X.env = pure false := by rfl) :
    DS X P (.Assign [.Tuple [.Name x px, .Name y py] kt pt] (.Tuple [a, b] k2 pt2) pos) (mParFV i j f g) :=
  PS.imp (ps_par hc hN hi hj hij hx hy (pa_cons ha (pa_cons hb pa_nil h2) h1) hw hs) fun E σ H ⟨O, ρ, I, p⟩ => tM0 I (SPost.bind p fun d ρ1 pv H1 I1 b1 r1 p1 => by
    have J := (show Env X.K P O [] ρ1 σ H1 from I1).push r1.1 pv.2
    have hn := I1.fresh r1.1
    have e0 : Ex (hid (hz [] O P.Z) H1) (hid (hz [pv] O P.Z) (upd H1 pv.1 (.lst pv.2))) := by rw [hz_cons]; exact ex_hid_add r1.1
    refine ⟨O, [pv], ρ1, J, SPost.bindT p1 e0 fun d2 ρ2 w H2 I2 b2 r2 p2 => ⟨_, w, rfl, ?_⟩⟩
    have r3 : Reps P.G X.K (hid (pv.1 :: hz [] O P.Z) H2) d pv.2 := by
      have := Reps.ex (e0.trans b2) _ _ r1.2
      rw [hz_cons] at this
      exact this
    have J2 := (show Env X.K P O [(pv.1, pv.2)] ρ2 σ H2 from I2).tmpOwn hn r3 hio
    have same : Ex (hid (hz [pv] O P.Z) H2) (hid (hz [] (pv.1 :: O) P.Z) H2) := ex_sub fun b hb => by
      unfold hz at hb ⊢
      simpa using hb
    exact p2 _ _ H2 (J2.set (Rep.ex same _ _ r2) hjo) ((e0.trans b2).trans same))
theorem dS_parFF {i j : Nat} {x y : Str} {px py pt : Pos} {kt k2} {pt2 : Pos} {f g : M (List D)} (hc : X.calm = true) (hN : X.N.Nodup) (hi : X.N[i]? = some x) (hj : X.N[j]? = some y) (hij : i ≠ j) (hx : X.env.scope.names.lookup x = some .local) (hy : X.env.scope.names.lookup y = some .local)
    (hio : ∀ p ∈ P.io, p.1 ≠ i) (hjo : ∀ p ∈ P.io, p.1 ≠ j) (ha : DF X P a f) (hb : DF X P b g) (h1 : starEach (a :: [b]) X.env = (false, eval a X.env) :: starEach [b] X.env := by rfl) (h2 : starEach (b :: []) X.env = (false, eval b X.env) :: starEach [] X.env := by rfl)
    (hw : swappedStores [.Tuple [.Name x px, .Name y py] kt pt] (.Tuple [a, b] k2 pt2) X.env = pure (some [x, y]) := by rfl)
    (hs : swapsWithSole [.Tuple [.Name x px, .Name y py] kt pt] (.Tuple [a, b] k2 pt2) pos.line X.env = pure false := by rfl) :
    DS X P (.Assign [.Tuple [.Name x px, .Name y py] kt pt] (.Tuple [a, b] k2 pt2) pos) (mParFF i j f g) :=
  PS.imp (ps_par hc hN hi hj hij hx hy (pa_cons ha (pa_cons hb pa_nil h2) h1) hw hs) fun E σ H ⟨O, ρ, I, p⟩ => tM0 I (SPost.bind p fun d ρ1 pv H1 I1 b1 r1 p1 => by
    have J := (show Env X.K P O [] ρ1 σ H1 from I1).push r1.1 pv.2
    have hn := I1.fresh r1.1
    have e0 : Ex (hid (hz [] O P.Z) H1) (hid (hz [pv] O P.Z) (upd H1 pv.1 (.lst pv.2))) := by rw [hz_cons]; exact ex_hid_add r1.1
    refine ⟨O, [pv], ρ1, J, SPost.bindT p1 e0 fun d2 ρ2 w H2 I2 b2 r2 p2 => ⟨_, _, rfl, ?_⟩⟩
    have r3 : Reps P.G X.K (hid (pv.1 :: hz [] O P.Z) H2) d pv.2 := by
      have := Reps.ex (e0.trans b2) _ _ r1.2
      rw [hz_cons] at this
      exact this
    have J2 := (show Env X.K P O [(pv.1, pv.2)] ρ2 σ H2 from I2).tmpOwn hn r3 hio
    have same : Ex (hid (hz [pv] O P.Z) H2) (hid (hz [] (pv.1 :: O) P.Z) H2) := ex_sub fun b hb => by
      unfold hz at hb ⊢
      simpa using hb
    exact p2 _ _ _ (J2.setOwn r2.1 (Reps.ex same _ _ r2.2) hjo) (((e0.trans b2).trans same).trans (own_bh r2.1)))
end
/-! ## calls with keywords, with a new list -/
def permD (ks : List Nat) (ds : List D) : List D := ks.filterMap (ds[·]?)
theorem dK_nil : PK X [] (tAs X.K P (mRet [])) := ⟨fun pos pins s σ H Q I ⟨O, T, ρ, J, p⟩ => pk_nil.run pos pins s σ H Q I (p.ok J .nil)⟩
theorem dK_cons {nm : Option Str} {kpos : Pos} {kws : List Keyword} {gs : M (List D)} (ha : DE X P e f) (hr : PK X kws (tAs X.K P gs)) : PK X (⟨nm, e, kpos⟩ :: kws) (tAs X.K P (mCons f gs)) :=
  ⟨fun pos pins s σ H Q J ⟨O, T, ρ, I, p⟩ => (pk_cons ha hr).run pos pins s σ H Q J ⟨O, T, ρ, I, Post.bind p fun x ρ1 v H1 I1 e1 r1 p1 => ⟨O, T, ρ1, I1, Post.bind p1 fun xs ρ2 vs H2 I2 e2 r2 p2 =>
    p2.ok I2 (.cons (Rep.ex e2 _ _ r1) r2)⟩⟩⟩
theorem reps_perm {G : CT} {K : PySem.W.Frag} {H : Hp} {ds : List D} {vs : List V} (r : Reps G K H ds vs) : ∀ ks : List Nat, Reps G K H (permD ks ds) (ks.filterMap (vs[·]?))
  | [] => .nil
  | k :: ks => by
    unfold permD
    rw [List.filterMap_cons, List.filterMap_cons]
    cases h : ds[k]? with
    | none =>
      have : vs[k]? = none := List.getElem?_eq_none_iff.mpr (by rw [r.len]; exact List.getElem?_eq_none_iff.mp h)
      rw [this]
      exact reps_perm r ks
    | some d =>
      obtain ⟨v, h1, h2⟩ := r.get h
      rw [h1]
      exact .cons h2 (reps_perm r ks)
theorem vals_perm {vs : List V} {us : List Value} (r : Vals vs us) : ∀ ks : List Nat, Vals (ks.filterMap (vs[·]?)) (ks.filterMap (us[·]?))
  | [] => .nil
  | k :: ks => by
    rw [List.filterMap_cons, List.filterMap_cons]
    have hl := r.length
    cases h : vs[k]? with
    | none =>
      have : us[k]? = none := List.getElem?_eq_none_iff.mpr (by rw [← hl]; exact List.getElem?_eq_none_iff.mp h)
      rw [this]
      exact vals_perm r ks
    | some v =>
      obtain ⟨u, h1, h2⟩ := r.get h
      rw [h1]
      exact .cons h2 (vals_perm r ks)
theorem dE_callK0 {k fA : Nat} {fd : FuncData} {ps ks : List Str} {pm : List Nat} {n : Nat} {m : List D → FR} {x : Str} {p : Pos} {kws : List Keyword} {as : M (List D)} (F : Fn X.prog X.w X.K X.mg X.base (L2.CX X.prog X.w) k fA fd ps (spP P.G X.K n m)) (hr : Room k X.A) (gd : X.A.guards = some []) (tk : Tk X P) (hg : Gl X x) (hm : X.mg x = some (.ref fA)) (hk : PySem.W.keepIn X.K (.ref fA) = true)
    (hb : ∀ (s : Shared) (ws : List Value), X.K.In s.heap → (pm.filterMap (ws[·]?)).length = ps.length → BindsTo s fd ⟨[], ks.zip ws⟩ (ps.zip (pm.filterMap (ws[·]?))))
    (hkw : PK X kws (tAs X.K P as)) (hall : (backToKw pos (keywordEach kws X.env)).all (·.1.isSome) = true := by rfl) (hks : (backToKw pos (keywordEach kws X.env)).filterMap (·.1) = ks := by rfl) (hdb : (x == ("__debug__" : Str)) = false := by decide)
    (hpl : ((backTo pos (starEach [] X.env)).any (·.1) || (backToKw pos (keywordEach kws X.env)).any (·.1.isNone)) = false := by rfl) :
    DE X P (.Call (.Name x p) [] kws pos) (mCallN n m (mBind as fun ds => mRet (permD pm ds))) := by
  refine PE.imp (pe_callKG (gV := fun zs => pm.filterMap (zs[·]?)) F hr gd hg hm hk hb (fun rz => vals_perm rz pm) tk.pass hkw hall hks hdb hpl) fun σ H Q ⟨O, T, ρ, I, p⟩ => ?_
  refine ⟨O, T, ρ, I, ?_⟩
  unfold mCallN at p
  rw [mBind_assoc] at p
  refine Post.bind p fun ds ρ' vs H1 I1 e1 r1 p1 => ?_
  obtain ⟨hn, p2⟩ := ifN (show Post X.K P (RE X.K P) O T σ H1 (if (permD pm ds).length = n then _ else .err) Q from p1)
  exact call_ok I1 (reps_perm r1 pm) hn p2
/-- f(e), e a new list that f may change -/
def mCallFI (m : D → List D → FI) (f : M (List D)) : M D := mBind f fun xs ρ => match m (.lst xs) [] with
  | .ok d _ => .ok d ρ
  | .exc c d _ => .exc c d ρ
  | .err => .err
theorem dE_callFI {k fA : Nat} {fd : FuncData} {ps : List Str} {m : D → List D → FI} {x : Str} {p : Pos} {f : M (List D)} (F : Fn X.prog X.w X.K X.mg X.base (L2.CX X.prog X.w) k fA fd ps (spI P.G X.K 0 m)) (hr : Room k X.A) (gd : X.A.guards = some []) (tk : Tk X P) (hg : Gl X x) (hm : X.mg x = some (.ref fA)) (hk : PySem.W.keepIn X.K (.ref fA) = true)
    (hb : Binds X.K fd ps []) (ha : DF X P e f) (hdb : (x == ("__debug__" : Str)) = false := by decide) (he : starEach (e :: []) X.env = (false, eval e X.env) :: starEach [] X.env := by rfl) (hpl : (backTo pos (starEach [] X.env)).any (·.1) = false := by rfl) :
    DE X P (.Call (.Name x p) [e] [] pos) (mCallFI m f) :=
  PE.imp (pe_callG F hr gd hg hm hk hb tk.pass (pa_cons ha pa_nil he) hdb he hpl) fun σ H Q ⟨O, T, ρ, I, p⟩ => ⟨O, T, ρ, I, Post.bind p fun xs ρ' pv H1 I1 e1 r1 p1 => by
    obtain ⟨q, vs⟩ := pv
    obtain ⟨hq, r2⟩ := r1
    have ex : ∀ {H' : Hp}, (∀ b o, b ≠ q → (upd H1 q (.lst vs)) b = some o → H' b = some o) → Ex H1 H' := fun kp b o e => by
      have hb : b ≠ q := fun z => by rw [z] at e; rw [show H1 q = none from hq] at e; cases e
      exact kp b o hb (by rw [upd_ne hb]; exact e)
    have sub : ∀ {H' : Hp}, Ex (hid (q :: hz T O P.Z) H') (hid (hz T O P.Z) H') := fun {H'} => ex_sub fun b hb => List.mem_cons_of_mem _ hb
    refine ⟨q :: hz T O P.Z, q, [], .lst xs, [], rfl, rfl, List.mem_cons_self, fun b hb => ?_, ⟨vs, upd_same, Reps.ex (ex_hid_add hq) _ _ r2⟩, .nil, ?_⟩
    · rcases List.mem_cons.mp hb with rfl | hb
      · exact ⟨_, upd_same⟩
      · obtain ⟨o, ho⟩ := I1.live b hb
        exact ⟨o, by rw [upd_ne (ne_of_none ho hq)]; exact ho⟩
    · cases hm : m (.lst xs) [] with
      | ok d s' => simp only [hm] at p1; exact fun v H' kp _ rv => p1 v H' (I1.ex (ex kp)) (ex_hid (ex kp)) (Rep.ex sub _ _ rv)
      | exc c d s' => simp only [hm] at p1; exact fun dd v f H' kp _ hf q1 q2 => p1 dd v f H' (I1.ex (ex kp)) (ex_hid (ex kp)) hf q1 (Rep.ex sub _ _ q2)
      | err => simp only [hm] at p1; exact p1⟩
/-! ## x in o by the class's own rule; objects made -/
def mInOwn (c : Nat) (neg : Bool) (m : List D → FR) (f g : M D) : M D := mBind f fun x => mObj c g fun o ρ => match m [o, x] with
  | .ok (.bl b) => .ok (.bl (if neg then !b else b)) ρ
  | .exc c d => .exc c d ρ
  | _ => .err
theorem mInOwn_sp {c : Nat} {neg : Bool} {m : List D → FR} {σ : L2.St} {H : Hp} {Q : VK} (h : tE X.K P (mInOwn c neg m f g) σ H Q) :
    tOp (fun x y H Q => ∃ a dx fs, y = .ref a ∧ H a = some (.ins (P.G.adr c) dx fs) ∧ spP P.G X.K 2 m [y, x] H (fun v H' => ∃ b, v = .bl b ∧ Q (.bl (if neg then !b else b)) H') P.E) (tE X.K P f) (tE X.K P g) σ H Q := by
  obtain ⟨O, T, ρ, I, p⟩ := h
  refine ⟨O, T, ρ, I, Post.bind p fun x ρ1 v H1 I1 e1 r1 p1 => ⟨O, T, ρ1, I1, obj_at p1 fun q dx vs ds ρ2 H2 I2 e2 hq hlen ro p2 => ⟨q, dx, _, rfl, hq, hz T O P.Z, [.ins c ds, x], rfl, I2.live, .cons ro (.one (Rep.ex e2 _ _ r1)), ?_⟩⟩⟩
  cases hm : m [.ins c ds, x] with
  | ok d =>
    simp only [hm] at p2
    intro w H' e rw'
    cases d with
    | bl b =>
      simp only [Rep] at rw'
      exact ⟨b, rw', p2 _ H' (I2.ex e) (ex_hid e) (by simp only [RE, Rep])⟩
    | _ => exact (show False from p2).elim
  | exc c d => simp only [hm] at p2; exact fun dd v f H' e hf q1 q2 => p2 dd v f H' (I2.ex e) (ex_hid e) hf q1 q2
  | err => simp only [hm] at p2; exact p2
theorem dE_inOwn {c k fA : Nat} {fd : FuncData} {ps : List Str} {m : List D → FR} (hc : PySem.W.findIn X.K (.ref (P.G.adr c)) "__contains__" = some (some (.ref fA))) (hf : PySem.W.typeIn X.K (.ref fA) = some (.type "function"))
    (F : Fn X.prog X.w X.K X.mg X.base (L2.CX X.prog X.w) k fA fd ps (spP P.G X.K 2 m)) (hr : Room k X.A) (gd : X.A.guards = some []) (hb : Binds X.K fd ps []) (tk : Tk X P) (ha : DE X P a f) (hb' : DE X P b g) (hm : behindInMarks .In b = false) :
    DE X P (.Compare a [.In] [b] pos) (mInOwn c false m f g) := PE.imp (pe_cmpR (op_inOwn hc hf F hr gd hb tk.pass) ha hb' hm) fun σ H Q h => mInOwn_sp h
theorem dE_notInOwn {c k fA : Nat} {fd : FuncData} {ps : List Str} {m : List D → FR} (hc : PySem.W.findIn X.K (.ref (P.G.adr c)) "__contains__" = some (some (.ref fA))) (hf : PySem.W.typeIn X.K (.ref fA) = some (.type "function"))
    (F : Fn X.prog X.w X.K X.mg X.base (L2.CX X.prog X.w) k fA fd ps (spP P.G X.K 2 m)) (hr : Room k X.A) (gd : X.A.guards = some []) (hb : Binds X.K fd ps []) (tk : Tk X P) (ha : DE X P a f) (hb' : DE X P b g) (hm : behindInMarks .NotIn b = false) :
    DE X P (.Compare a [.NotIn] [b] pos) (mInOwn c true m f g) := PE.imp (pe_cmpR (op_notInOwn hc hf F hr gd hb tk.pass) ha hb' hm) fun σ H Q h => mInOwn_sp h
theorem dT_inOwn {c k fA : Nat} {fd : FuncData} {ps : List Str} {m : List D → FR} (hc : PySem.W.findIn X.K (.ref (P.G.adr c)) "__contains__" = some (some (.ref fA))) (hf : PySem.W.typeIn X.K (.ref fA) = some (.type "function"))
    (F : Fn X.prog X.w X.K X.mg X.base (L2.CX X.prog X.w) k fA fd ps (spP P.G X.K 2 m)) (hr : Room k X.A) (gd : X.A.guards = some []) (hb : Binds X.K fd ps []) (tk : Tk X P) (ha : DE X P a f) (hb' : DE X P b g) (hm : behindInMarks .In b = false) :
    DT X P (.Compare a [.In] [b] pos) (mBl (mInOwn c false m f g)) := PT.imp (pt_cmpR (op_inOwn hc hf F hr gd hb tk.pass) ha hb' hm) fun σ H Q h => by
      obtain ⟨O, T, ρ, I, p⟩ := tBl_ok h
      exact mInOwn_sp ⟨O, T, ρ, I, p⟩
theorem dT_notInOwn {c k fA : Nat} {fd : FuncData} {ps : List Str} {m : List D → FR} (hc : PySem.W.findIn X.K (.ref (P.G.adr c)) "__contains__" = some (some (.ref fA))) (hf : PySem.W.typeIn X.K (.ref fA) = some (.type "function"))
    (F : Fn X.prog X.w X.K X.mg X.base (L2.CX X.prog X.w) k fA fd ps (spP P.G X.K 2 m)) (hr : Room k X.A) (gd : X.A.guards = some []) (hb : Binds X.K fd ps []) (tk : Tk X P) (ha : DE X P a f) (hb' : DE X P b g) (hm : behindInMarks .NotIn b = false) :
    DT X P (.Compare a [.NotIn] [b] pos) (mBl (mInOwn c true m f g)) := PT.imp (pt_cmpR (op_notInOwn hc hf F hr gd hb tk.pass) ha hb' hm) fun σ H Q h => by
      obtain ⟨O, T, ρ, I, p⟩ := tBl_ok h
      exact mInOwn_sp ⟨O, T, ρ, I, p⟩
/-- C(e, ..): __init__ fills the object of class number c0, that has no field yet -/
def mMake (c0 n : Nat) (m : D → List D → FI) (as : M (List D)) : M D := mBind as fun ds ρ => if ds.length = n then (match m (.ins c0 []) ds with
  | .ok .non s => .ok s ρ
  | .exc c d _ => .exc c d ρ
  | _ => .err) else .err
theorem dE_make {c0 k fA n : Nat} {fd : FuncData} {ps : List Str} {m : D → List D → FI} {x : Str} {p : Pos} {as : M (List D)} (h0 : P.G.flds c0 = []) (M : Mk X.K (P.G.adr c0) fA) (F : Fn X.prog X.w X.K X.mg X.base (L2.CX X.prog X.w) k fA fd ps (spI P.G X.K n m)) (hr : Room (k + 1) X.A) (gd : X.A.guards = some []) (tk : Tk X P) (hg : Gl X x) (hm : X.mg x = some (.ref (P.G.adr c0)))
    (hb : Binds X.K fd ps []) (ha : DA X P (e :: es) as) (hdb : (x == ("__debug__" : Str)) = false := by decide) (he : starEach (e :: es) X.env = (false, eval e X.env) :: starEach es X.env := by rfl) (hpl : (backTo pos (starEach es X.env)).any (·.1) = false := by rfl) :
    DE X P (.Call (.Name x p) (e :: es) [] pos) (mMake c0 n m as) :=
  PE.imp (pe_makeG M F hr gd hg hm hb tk.pass ha hdb he hpl) fun σ H Q ⟨O, T, ρ, I, p⟩ => ⟨O, T, ρ, I, Post.bind p fun ds ρ' vs H1 I1 e1 r1 p1 q dx hq hdx hne => by
    obtain ⟨hn, p2⟩ := ifN p1
    have hq2 : upd H1 dx (.own q) q = none := by rw [upd_ne hne.symm]; exact hq
    have ex : ∀ {H' : Hp}, (∀ b o, b ≠ q → (upd (upd H1 dx (.own q)) q (.ins (P.G.adr c0) dx [])) b = some o → H' b = some o) → Ex H1 H' := fun kp b o e => by
      have hb : b ≠ q := fun z => by rw [z] at e; rw [hq] at e; cases e
      have hb2 : b ≠ dx := fun z => by rw [z] at e; rw [hdx] at e; cases e
      exact kp b o hb (by rw [upd_ne hb, upd_ne hb2]; exact e)
    have e2 : Ex (hid (hz T O P.Z) H1) (hid (q :: hz T O P.Z) (upd (upd H1 dx (.own q)) q (.ins (P.G.adr c0) dx []))) := (ex_hid_new hdx).trans (ex_hid_add hq2)
    have hnq : q ∉ hz T O P.Z := I1.fresh hq
    refine ⟨q :: hz T O P.Z, q, vs, .ins c0 [], ds, rfl, hn, List.mem_cons_self, fun b hb => ?_, ⟨dx, [], by rw [upd_same, h0]; rfl, by rw [h0]; rfl, .nil⟩, Reps.ex e2 _ _ r1, ?_⟩
    · rcases List.mem_cons.mp hb with rfl | hb
      · exact ⟨_, upd_same⟩
      · obtain ⟨o, ho⟩ := I1.live b hb
        exact ⟨o, by rw [upd_ne (ne_of_none ho hq), upd_ne (ne_of_none ho hdx)]; exact ho⟩
    · have sub : ∀ {H' : Hp}, Ex (hid (q :: hz T O P.Z) H') (hid (hz T O P.Z) H') := fun {H'} => ex_sub fun b hb => List.mem_cons_of_mem _ hb
      cases hm : m (.ins c0 []) ds with
      | ok d s' =>
        simp only [hm] at p2
        intro v H' kp hA rv
        cases d with
        | non =>
          simp only [Rep] at rv
          exact ⟨rv, p2 _ H' (I1.ex (ex kp)) (ex_hid (ex kp)) (hA.show hnq)⟩
        | _ => exact (show False from p2).elim
      | exc c d s' => simp only [hm] at p2; exact fun dd v f H' kp _ hf q1 q2 => p2 dd v f H' (I1.ex (ex kp)) (ex_hid (ex kp)) hf q1 (Rep.ex sub _ _ q2)
      | err => simp only [hm] at p2; exact p2⟩
/-- an object of one's own: its fields -/
def upd1 {α : Type} (j : Option Nat) (xs : List α) (y : α) : List α := match j with
  | none => xs ++ [y]
  | some j => xs.set j y
theorem Reps.upd1 {G : CT} {K : PySem.W.Frag} {H : Hp} {ds : List D} {vs : List V} {d : D} {v : V} (j : Option Nat) (r : Reps G K H ds vs) (r2 : Rep G K H d v) : Reps G K H (Nv.upd1 j ds d) (Nv.upd1 j vs v) := by
  cases j with
  | none => exact r.app (.one r2)
  | some j => exact r.set j r2
def mFldO (i c c' : Nat) (j : Option Nat) (f : M D) : MS := sBind f fun y ρ => match ρ[i]? with
  | some (.own (.ins c0 ds)) => if c0 = c then .nx (ρ.set i (.own (.ins c' (upd1 j ds y)))) else .err
  | _ => .err
theorem dS_fldO {i c c' : Nat} {j : Option Nat} {x fl : Str} {p1 p2 : Pos} (hN : X.N[i]? = some x) (hv : Vis X.env.scope x) (cl : Cls X.K (P.G.adr c)) (na : NoAttr X.K (P.G.adr c) fl) (hadr : P.G.adr c' = P.G.adr c) (hle : (P.G.flds c).length < 1000)
    (hup : ∀ (vs : List V) (y : V), (P.G.flds c).length = vs.length → putF fl y ((P.G.flds c).zip vs) = (P.G.flds c').zip (upd1 j vs y) ∧ (P.G.flds c').length = (upd1 j vs y).length) (ha : DE X P e f) (hd : (x == ("__debug__" : Str)) = false := by decide) (hcd : (x == ("__classdict__" : Str)) = false := by decide)
    (hs : swapsWith e (some (.Attribute (.Name x p1) fl p2)) pos.line X.env = pure false := by rfl) : DS X P (.Assign [.Attribute (.Name x p1) fl p2] e pos) (mFldO i c c' j f) :=
  PS.imp (ps_fld (pe_var hN hv hd hcd) ha hs) fun E σ H ⟨O, ρ, I, p⟩ => tM0 I (SPost.bind p fun y ρ1 v H1 I1 b1 r1 p1 => by
    cases h : ρ1[i]? with
    | none => simp only [h] at p1; exact (show False from p1).elim
    | some s =>
      simp only [h] at p1
      cases s with
      | no => exact (show False from p1).elim
      | shr d => exact (show False from p1).elim
      | own d =>
        cases d <;> first | exact (show False from p1).elim | skip
        rename_i c0 ds
        by_cases hc : c0 = c
        · subst hc
          simp only [if_true] at p1
          obtain ⟨q, w1, w2, w3⟩ := I1.own i _ h
          obtain ⟨dx, vs, w4, w5, w6⟩ := w3
          obtain ⟨u1, u2⟩ := hup vs v w5
          refine ⟨.ref q, w1, q, P.G.adr c0, dx, _, rfl, w4, cl, na, by rw [List.length_zip]; omega, ?_⟩
          rw [u1, ← hadr]
          exact p1 O σ _ (I1.ownSetI h w1 w2 u2 (Reps.upd1 j w6 r1)) (ex_hid_upd (hz_O w2))
        · simp only [if_neg hc] at p1; exact (show False from p1).elim)
theorem dS_never {st : Stmt} : DS X P st (fun _ => .err) := ⟨fun pins s σ H E I ⟨O, ρ, J, p⟩ => (show False from p).elim⟩
end
end Nv

/-! sets of texts, walked: set(texts), sorted(set) -/
namespace Nv.TS
open PySem PySem.Spec PyProof.Rows L2 PySem.Froz
def keyS (e : Int × Value) : Str := match e.2 with | .str k _ => k | _ => Str.empty
/-- the set of the texts l stands at a -/
def StxR (P : Program) (w : World) (h : Heap) (a : Addr) (l : List Str) : Prop :=
  ∃ es ep t, h.get? a = some (sObj "set" (es, ep, t)) ∧ TxOk P w (es, ep, t) l ∧ (es.toList.map keyS).Perm l ∧ (∀ e ∈ es.toList, ∃ u, e.2 = .str (keyS e) u) ∧ l.Nodup ∧ Ris t.place.toList ∧ (w.params.followText "set-order" = true ∨ t.led = true)
section
variable {P : Program} {w : World} {A : Around} {E : Value → Shared → Prop} {s : Shared} {h h' : Heap} {a : Addr} {l : List Str}
theorem StxR.at (R : StxR P w h a l) (k : ∀ o, h.get? a = some o → h'.get? a = some o) : StxR P w h' a l := by
  obtain ⟨es, ep, t, ho, r⟩ := R
  exact ⟨es, ep, t, k _ ho, r⟩
theorem stx_new (ho : h.get? a = some { cls := .type "set", dict := none, data := .set #[] 0 (.fresh 0 0 (!w.params.followText "set-order")) }) : StxR P w h a [] :=
  ⟨#[], 0, _, ho, TxOk.nil (by rfl), by simp, fun e he => by simp at he, .nil, List.Pairwise.nil, by
    show _ ∨ (!w.params.followText "set-order") = true
    cases w.params.followText "set-order"
    · exact .inr rfl
    · exact .inl rfl⟩
/-- a text that is there already -/
theorem stx_has {k : Str} {u : Tok} {Q : Bool → Shared → Prop} (R : StxR P w s.heap a l) (hk : k ∈ l) (hb : l.length < scanBound) (h : Q false s) : wpAny (model P w) A (setAddHashed a (.str k u) (hashStr w k)) Q E s := by
  obtain ⟨es, ep, t, ho, F, _⟩ := R
  have hd : (sObj "set" (es, ep, t)).data = .set es ep t := rfl
  have hf : t.fits es.size = true := F.fit
  have hel : ElemsOf (strKind P w) es.toList := F.el
  have hsz : es.size = l.length := F.sz
  have hb0 : es.size < scanBound := by omega
  have hkey : (strKind P w).is k (.str k u) = true := is_str k u
  unfold setAddHashed setAddHashedIn
  refine wpAny_holding (wpAny_bind (wpAny_setState_of ho hd hf ?_))
  dsimp only
  rw [byScan_of rfl hb0 hel]
  simp only [↓reduceIte]
  unfold setAddByScan
  refine wpAny_bind ?_
  refine wpAny_bind (wpAny_rule ?_)
  refine wpAny_bind (wpAny_setScan_of (knd := strKind P w) (k := k) hkey ho hd hf hel ?_)
  cases hfi : List.findIdx? (fun e => (strKind P w).is k e.2) es.toList with
  | some j => dsimp only; exact wpAny_pure (wpAny_pure h)
  | none =>
    exfalso
    obtain ⟨e, he, q⟩ := (F.mem k).mp hk
    have c := List.findIdx?_eq_none_iff.mp hfi e he
    rw [q] at c
    cases c
theorem tail_ris {ep : Nat} {es1 : Array (Int × Value)} {t2 : SetTable} {wd : Bool} (r : Ris t2.place.toList) : Ris (tailTx ep es1 t2 wd).2.2.place.toList := by
  unfold tailTx
  split
  · exact relayAll_ris _ _ _
  · exact r
theorem tail_led {ep : Nat} {es1 : Array (Int × Value)} {t2 : SetTable} {wd : Bool} : (tailTx ep es1 t2 wd).2.2.led = t2.led := by
  unfold tailTx
  split
  · exact relayAll_led _ _ _
  · rfl
theorem tail_perm {ep : Nat} {es1 : Array (Int × Value)} {t2 : SetTable} {wd : Bool} : (tailTx ep es1 t2 wd).1.toList.Perm es1.toList := by
  unfold tailTx
  split
  · exact relayAll_perm _ _ _
  · exact .refl _
theorem addTx_perm (hs : Int) (v : Value) (D : SD) : (addTx hs v D).1.toList.Perm ((hs, v) :: D.1.toList) := by
  unfold addTx
  refine tail_perm.trans ?_
  have := layNew_perm D.2.2 D.1 hs v
  rw [Array.toList_push] at this
  exact this.trans (List.perm_append_singleton _ _)
theorem addTx_ris (hs : Int) (v : Value) (D : SD) (r : Ris D.2.2.place.toList) : Ris (addTx hs v D).2.2.place.toList := by
  unfold addTx
  refine tail_ris ?_
  have := layNew_ris D.2.2 D.1 hs v r
  split <;> exact this
theorem addTx_led (hs : Int) (v : Value) (D : SD) : (addTx hs v D).2.2.led = D.2.2.led := by
  unfold addTx
  rw [tail_led]
  have := layNew_led D.2.2 D.1 hs v
  split <;> exact this
theorem stx_add {k : Str} {u : Tok} {Q : Bool → Shared → Prop} (R : StxR P w s.heap a l) (hb : l.length + 1 < scanBound) (hQ : ∀ b h', Heap.SameBut a s.heap h' → StxR P w h' a (if k ∈ l then l else k :: l) → Q b { s with heap := h' }) : wpAny (model P w) A (setAddHashed a (.str k u) (hashStr w k)) Q E s := by
  by_cases hk : k ∈ l
  · refine stx_has R hk (by omega) (hQ false s.heap (Heap.SameBut.refl a s.heap) (by rw [if_pos hk]; exact R))
  · obtain ⟨es, ep, t, ho, F, pm, al, nd, r, ld⟩ := R
    refine add_x ho F hk hb (hQ true _ (Heap.SameBut.update s.heap a _) ?_)
    rw [if_neg hk]
    have pp := addTx_perm (hashStr w k) (.str k u) (es, ep, t)
    refine ⟨(addTx (hashStr w k) (.str k u) (es, ep, t)).1, (addTx (hashStr w k) (.str k u) (es, ep, t)).2.1, (addTx (hashStr w k) (.str k u) (es, ep, t)).2.2, get_upd _ ho rfl, add_ok u F, (pp.map keyS).trans ?_, fun e he => ?_, .cons (fun x hx z => hk (by rw [z]; exact hx)) nd, addTx_ris _ _ _ r, ?_⟩
    · rw [List.map_cons]
      exact pm.cons _
    · rcases List.mem_cons.mp (pp.mem_iff.mp he) with rfl | he
      · exact ⟨u, rfl⟩
      · exact al e he
    · rw [addTx_led]; exact ld
theorem update_strs {I : Addr} {fp wr : List Addr} {G : Array GenState → Array GenState → Prop} {n : Nat} {Pv : Nat → Value → Prop} {St : Nat → Shared → Prop} {R : Result → Shared → Prop}
    (W : WalksS P w A.in1 I fp wr G n Pv St) (S : Addr) (hSf : S ∉ fp) (xs : List Str) (hn : n = xs.length) (hb : xs.length + 1 < scanBound) (hval : ∀ i v, Pv i v → ∃ k t, xs[i]? = some k ∧ v = .str k t) :
    ∀ (k i : Nat) (s : Shared), n - i = k → i ≤ n → St i s → (∃ ks, StxR P w s.heap S ks ∧ (∀ k, k ∈ ks ↔ k ∈ xs.take i) ∧ ks.length ≤ i) →
      (∀ s' ks, Moved (S :: wr) G s s' → StxR P w s'.heap S ks → (∀ k, k ∈ ks ↔ k ∈ xs) → ks.length ≤ xs.length → R (.ok (.ret .none)) s') →
      codeAny (model P w) A (.builtin "set.update.loop" ⟨[.ref S, .ref I], []⟩) R s := by
  have hSw : S ∉ wr := fun h => hSf (W.sub _ h)
  have hsub : ∀ b ∈ wr, b ∈ S :: wr := fun b hb => List.mem_cons_of_mem _ hb
  intro k
  induction k with
  | zero =>
    intro i s hk' hi hst ⟨ks, hS, hm, hl⟩ hR
    have hin : i = n := by omega
    subst hin
    refine codeAny_builtin F.entry_set_update_loop ?_
    rw [Around.under_plainId F.plain_set_update_loop _]
    show wpAny _ A.in1 (pyNext (.ref I) >>= _) _ _ s
    refine wpAny_bind (W.done s _ _ hst fun s' hmv => ?_)
    show wpAny _ A.in1 (ret Value.none) _ _ s'
    have e : xs.take i = xs := List.take_of_length_le (by omega)
    rw [e] at hm
    exact wpAny_pure (hR s' ks (hmv.mono hsub) (hS.at fun o e => hmv.heap S o hSw e) hm (by omega))
  | succ k ih =>
    intro i s hk' hi hst ⟨ks, hS, hm, hl⟩ hR
    have hlt : i < n := by omega
    refine codeAny_builtin F.entry_set_update_loop ?_
    rw [Around.under_plainId F.plain_set_update_loop _]
    show wpAny _ A.in1 (pyNext (.ref I) >>= _) _ _ s
    refine wpAny_bind (W.item i s _ _ hlt hst fun v s' hP hst' hmv => ?_)
    obtain ⟨z, t, hz, rfl⟩ := hval i v hP
    have hS' : StxR P w s'.heap S ks := hS.at fun o e => hmv.heap S o hSw e
    show wpAny _ A.in1 (holding [Value.str z t] (setAdd S (.str z t)) >>= _) _ _ s'
    refine wpAny_bind (wpAny_holding ?_)
    unfold setAdd
    refine wpAny_holding ?_
    refine wpAny_bind ((strKind P w).pyHash (k := z) (is_str z t) ?_)
    refine stx_add (s := { s' with toks := s'.toks + 1 }) hS' (by omega) fun b h' hsb hS2 => ?_
    refine wpAny_pure ⟨plainId_quiet F.plain_set_update_loop _, ih (i + 1) _ (by omega) hlt (W.frame _ s' _ _ hst' (Nat.le_succ _) fun b hb o e => ?_) ⟨_, hS2, fun y => ?_, ?_⟩ fun s'' ks2 hm'' hS'' hk2 hl2 => ?_⟩
    · rw [hsb.2 b (fun h : b = S => hSf (by rw [← h]; exact hb))]; exact e
    · rw [List.take_add_one, hz]
      simp only [Option.toList_some, List.mem_append, List.mem_singleton, ← hm y]
      split
      · rename_i hzk
        exact ⟨.inl, fun q => q.elim id fun e => by rw [e]; exact hzk⟩
      · rw [List.mem_cons]; exact Or.comm
    · split
      · omega
      · rw [List.length_cons]; omega
    · refine hR s'' ks2 (Moved.trans W.gtrans ((hmv.mono hsub).then_heap (Nat.le_succ _) fun b o hb e => ?_) hm'') hS'' hk2 hl2
      rw [hsb.2 b (fun h : b = S => hb (by rw [h]; exact List.mem_cons_self))]; exact e

set_option maxHeartbeats 3200000 in
theorem call_set_list {l : Addr} {items : Array Value} {xs : List Str} {Q : Value → Shared → Prop} (hh : A.handled = none) (hl : s.heap.IsList l items) (hi : StrsAre items.toList xs) (hb : xs.length + 1 < scanBound)
    (h : ∀ (h' : Heap) (tk : Nat) (ks : List Str), StxR P w h' s.heap.objs.size ks → (∀ k, k ∈ ks ↔ k ∈ xs) → ks.length ≤ xs.length → (∀ b o, s.heap.get? b = some o → h'.get? b = some o) → Q (.ref s.heap.objs.size) { s with heap := h', toks := tk }) :
    wpAny (model P w) A (call (.type "set") [.ref l]) Q E s := by
  obtain ⟨c, tl, hmro⟩ := PySem.F.called_set.mro
  have hmade := PySem.F.called_set.made
  have hsub := PySem.F.called_set.sub
  refine wpAny_call (codeAny_of_tree ?_)
  show wpAny _ _ (callAny (.type "set") _) _ _ _
  refine wpAny_pure ⟨Code.quiet_builtin _ (by decide +kernel), codeAny_builtin PySem.F.entry_type_call ?_⟩
  rw [Around.under_plain (weight_type_call_type "set" [.ref l] []) rfl]
  have h1 := PySem.F.called_set.notType
  have h2 := PySem.F.called_set.canCreate
  have hct := PySem.F.typeCall_set_1 (.ref l)
  repeat (any_goals (first | assumption | wp_step))
  refine codeAny_mono (L2.code_set_led1 (.ref l) (E := E) (Q₁ := fun obj s₁ => obj = .ref s.heap.objs.size ∧ s₁ = { s with heap := s.heap.push { cls := .type "set", dict := none, data := .set #[] 0 (.fresh 0 0 (!w.params.followText "set-order")) } }) ⟨rfl, rfl⟩) fun r s₁ hr => ?_
  cases r with
  | error e => exact hr
  | ok fl =>
    cases fl with
    | ret obj =>
      obtain ⟨rfl, rfl⟩ := hr
      have hS : (s.heap.push { cls := .type "set", dict := none, data := .set #[] 0 (.fresh 0 0 (!w.params.followText "set-order")) }).get? s.heap.objs.size = some { cls := .type "set", dict := none, data := .set #[] 0 (.fresh 0 0 (!w.params.followText "set-order")) } := Heap.get?_push_size _ rfl
      have hT : Shared.TypeIs { s with heap := s.heap.push { cls := .type "set", dict := none, data := .set #[] 0 (.fresh 0 0 (!w.params.followText "set-order")) } } (.ref s.heap.objs.size) "set" := ⟨_, hS, rfl⟩
      have hli := PySem.F.called_set.init.lookup
      have hbi := PySem.F.called_set.init.bind (.ref s.heap.objs.size)
      repeat (any_goals (first | assumption | wp_step))
      refine codeAny_mono (codeAny_call_builtin (R := wants (fun r s₂ => r = .none ∧ ∃ h' tk ks, s₂ = { s with heap := h', toks := tk } ∧ StxR P w h' s.heap.objs.size ks ∧ (∀ k, k ∈ ks ↔ k ∈ xs) ∧ ks.length ≤ xs.length ∧
          (∀ b o, s.heap.get? b = some o → h'.get? b = some o)) E) PySem.F.called_set.init.plain PySem.F.entry_set_init (check_set_init_1 hT ?_)) fun r₂ s₂ hr₂ => ?_
      · obtain ⟨ol, hol, hcl, nl, hdl⟩ := hl
        obtain ⟨ocls, odict, odata, oslots⟩ := ol
        simp only at hcl hdl
        subst hcl; subst hdl
        have hol' : (s.heap.push { cls := .type "set", dict := none, data := .set #[] 0 (.fresh 0 0 (!w.params.followText "set-order")) }).get? l = some { cls := .type "list", dict := odict, data := .seq items nl, slots := oslots } := Heap.get?_push_of_some _ hol
        have hsls := PySem.F.sub_list_set
        have hslf := PySem.F.sub_list_frozenset
        have hne : (Value.type "list" == Value.type "dict") = false := by decide
        have hl1 : (s.heap.push { cls := .type "set", dict := none, data := .set #[] 0 (.fresh 0 0 (!w.params.followText "set-order")) }).IsList l items := ⟨_, hol', rfl, nl, rfl⟩
        unfold Builtin.«set.__init__» noKeywords Builtin.Frozenset.updateFrom
        generalize hPI : pyIter = PI
        wp_walk
        subst hPI
        refine wpAny_pyIter_list hl1 ?_
        refine wpAny_bind (wpAny_runValue ?_)
        have hlS : l < s.heap.objs.size := Heap.lt_size hol
        have hh3 : A.in1.in1.in1.handled = none := by simp [hh]
        have hneI : l ≠ (s.heap.push { cls := .type "set", dict := none, data := .set #[] 0 (.fresh 0 0 (!w.params.followText "set-order")) }).objs.size := by
          rw [Heap.size_push]; exact Nat.ne_of_lt (Nat.lt_succ_of_lt hlS)
        have hSf : s.heap.objs.size ∉ [(s.heap.push { cls := .type "set", dict := none, data := .set #[] 0 (.fresh 0 0 (!w.params.followText "set-order")) }).objs.size, l] := by
          rw [Heap.size_push]; simp only [List.mem_cons, List.mem_singleton, List.not_mem_nil, or_false, not_or]
          exact ⟨Nat.ne_of_lt (Nat.lt_succ_self _), Nat.ne_of_gt hlS⟩
        have hsz : items.size = xs.length := by rw [← StrsAre.len_eq hi, Array.length_toList]
        have hval : ∀ (i : Nat) (v : Value), items[i]? = some v → ∃ k t, xs[i]? = some k ∧ v = .str k t := fun i v hv => by
          obtain ⟨y, t, e1, e2⟩ := StrsAre.item hi i v (by rw [Array.getElem?_toList]; exact hv)
          exact ⟨y, t, e2, e1⟩
        refine update_strs ((Walks.list hh3 _ l hneI items).toS) s.heap.objs.size hSf xs hsz hb hval (items.size - 0) 0 _ (by omega) (Nat.zero_le _)
          ⟨⟨_, Heap.get?_push_size _ rfl, rfl, rfl⟩, (hl1.push _)⟩ ⟨[], stx_new (Heap.get?_push_of_some _ hS), by simp, by simp⟩ fun s' ks hm hS' hks hkl => ?hR
        case hR =>
          obtain ⟨h', g2, d', tk', os'⟩ := s'
          have eg : g2 = s.gens := hm.gens
          have ed : d' = s.drawn := hm.drawn
          have eo : os' = s.os := hm.os
          subst eg; subst ed; subst eo
          show wpAny _ _ _ _ _ _
          refine wpAny_pure ?_
          show wpAny _ _ (ret Value.none) _ _ _
          refine wpAny_pure ⟨rfl, h', tk', ks, rfl, hS', hks, hkl, fun b o e => ?_⟩
          have hb0 : b < s.heap.objs.size := Heap.lt_size e
          have hb1 : b ≠ s.heap.objs.size := Nat.ne_of_lt hb0
          have hb2 : b ≠ (s.heap.push { cls := .type "set", dict := none, data := .set #[] 0 (.fresh 0 0 (!w.params.followText "set-order")) }).objs.size := by
            rw [Heap.size_push]; exact Nat.ne_of_lt (Nat.lt_succ_of_lt hb0)
          exact hm.heap b o (by simp only [List.mem_cons, List.mem_singleton, List.not_mem_nil, or_false, not_or]; exact ⟨hb1, hb2⟩) (Heap.get?_push_of_some _ (Heap.get?_push_of_some _ e))
      · cases r₂ with
        | error e => exact hr₂
        | ok fl₂ =>
          cases fl₂ with
          | ret r =>
            obtain ⟨rfl, h', tk, ks, rfl, hS', hks, hkl, hk'⟩ := hr₂
            repeat (any_goals (first | assumption | wp_step))
            exact h _ _ _ hS' hks hkl hk'
          | _ => exact hr₂.elim
    | _ => exact hr.elim


set_option maxHeartbeats 3200000 in
theorem call_set_text {x : Str} {u : Tok} {xs : List Str} {Q : Value → Shared → Prop} (hh : A.handled = none) (hi : xs = x.cps.toList.map fun c => ⟨#[c]⟩) (hb : xs.length + 1 < scanBound)
    (h : ∀ (h' : Heap) (tk : Nat) (ks : List Str), StxR P w h' s.heap.objs.size ks → (∀ k, k ∈ ks ↔ k ∈ xs) → ks.length ≤ xs.length → (∀ b o, s.heap.get? b = some o → h'.get? b = some o) → Q (.ref s.heap.objs.size) { s with heap := h', toks := tk }) :
    wpAny (model P w) A (call (.type "set") [.str x u]) Q E s := by
  obtain ⟨c, tl, hmro⟩ := PySem.F.called_set.mro
  have hmade := PySem.F.called_set.made
  have hsub := PySem.F.called_set.sub
  refine wpAny_call (codeAny_of_tree ?_)
  show wpAny _ _ (callAny (.type "set") _) _ _ _
  refine wpAny_pure ⟨Code.quiet_builtin _ (by decide +kernel), codeAny_builtin PySem.F.entry_type_call ?_⟩
  rw [Around.under_plain (weight_type_call_type "set" [.str x u] []) rfl]
  have h1 := PySem.F.called_set.notType
  have h2 := PySem.F.called_set.canCreate
  have hct := PySem.F.typeCall_set_1 (.str x u)
  repeat (any_goals (first | assumption | wp_step))
  refine codeAny_mono (L2.code_set_led1 (.str x u) (E := E) (Q₁ := fun obj s₁ => obj = .ref s.heap.objs.size ∧ s₁ = { s with heap := s.heap.push { cls := .type "set", dict := none, data := .set #[] 0 (.fresh 0 0 (!w.params.followText "set-order")) } }) ⟨rfl, rfl⟩) fun r s₁ hr => ?_
  cases r with
  | error e => exact hr
  | ok fl =>
    cases fl with
    | ret obj =>
      obtain ⟨rfl, rfl⟩ := hr
      have hS : (s.heap.push { cls := .type "set", dict := none, data := .set #[] 0 (.fresh 0 0 (!w.params.followText "set-order")) }).get? s.heap.objs.size = some { cls := .type "set", dict := none, data := .set #[] 0 (.fresh 0 0 (!w.params.followText "set-order")) } := Heap.get?_push_size _ rfl
      have hT : Shared.TypeIs { s with heap := s.heap.push { cls := .type "set", dict := none, data := .set #[] 0 (.fresh 0 0 (!w.params.followText "set-order")) } } (.ref s.heap.objs.size) "set" := ⟨_, hS, rfl⟩
      have hli := PySem.F.called_set.init.lookup
      have hbi := PySem.F.called_set.init.bind (.ref s.heap.objs.size)
      repeat (any_goals (first | assumption | wp_step))
      refine codeAny_mono (codeAny_call_builtin (R := wants (fun r s₂ => r = .none ∧ ∃ h' tk ks, s₂ = { s with heap := h', toks := tk } ∧ StxR P w h' s.heap.objs.size ks ∧ (∀ k, k ∈ ks ↔ k ∈ xs) ∧ ks.length ≤ xs.length ∧
          (∀ b o, s.heap.get? b = some o → h'.get? b = some o)) E) PySem.F.called_set.init.plain PySem.F.entry_set_init (check_set_init_1 hT ?_)) fun r₂ s₂ hr₂ => ?_
      · have hsls := PySem.F.sub_str_set
        have hslf := PySem.F.sub_str_frozenset
        have hne : (Value.type "str" == Value.type "dict") = false := by decide
        have hty := typeIs_str { s with heap := s.heap.push { cls := .type "set", dict := none, data := .set #[] 0 (.fresh 0 0 (!w.params.followText "set-order")) } } x u
        unfold Builtin.«set.__init__» noKeywords Builtin.Frozenset.updateFrom
        generalize hPI : pyIter = PI
        wp_walk
        subst hPI
        have hh3 : A.in1.in1.in1.handled = none := by simp [hh]
        have hSf : s.heap.objs.size ∉ [(s.heap.push { cls := .type "set", dict := none, data := .set #[] 0 (.fresh 0 0 (!w.params.followText "set-order")) }).objs.size] := by
          rw [Heap.size_push]; simp only [List.mem_singleton]
          exact Nat.ne_of_lt (Nat.lt_succ_self _)
        have hsz : x.cps.size = xs.length := by rw [hi]; simp
        have hval : ∀ (i : Nat) (v : Value), SignAt x i v → ∃ k t, xs[i]? = some k ∧ v = .str k t := fun i v hv => by
          obtain ⟨c, t, e1, e2⟩ := hv
          refine ⟨⟨#[c]⟩, t, ?_, e2⟩
          rw [hi, List.getElem?_map, Array.getElem?_toList, e1]
          rfl
        cases ha : x.cps.all (· < 128)
        · refine wpAny_pyIter_wide ha ?_
          refine wpAny_bind (wpAny_runValue ?_)
          refine update_strs ((Walks.strWide hh3 _ x u).toS) s.heap.objs.size hSf xs hsz hb hval (x.cps.size - 0) 0 _ (by omega) (Nat.zero_le _)
            ⟨_, Heap.get?_push_size _ rfl, rfl, rfl⟩ ⟨[], stx_new (Heap.get?_push_of_some _ hS), by simp, by simp⟩ fun s' ks hm hS' hks hkl => ?_
          obtain ⟨h', g2, d', tk', os'⟩ := s'
          have eg : g2 = s.gens := hm.gens
          have ed : d' = s.drawn := hm.drawn
          have eo : os' = s.os := hm.os
          subst eg; subst ed; subst eo
          show wpAny _ _ _ _ _ _
          refine wpAny_pure ?_
          show wpAny _ _ (ret Value.none) _ _ _
          refine wpAny_pure ⟨rfl, h', tk', ks, rfl, hS', hks, hkl, fun b o e => ?_⟩
          have hb0 : b < s.heap.objs.size := Heap.lt_size e
          have hb1 : b ≠ s.heap.objs.size := Nat.ne_of_lt hb0
          have hb2 : b ≠ (s.heap.push { cls := .type "set", dict := none, data := .set #[] 0 (.fresh 0 0 (!w.params.followText "set-order")) }).objs.size := by
            rw [Heap.size_push]; exact Nat.ne_of_lt (Nat.lt_succ_of_lt hb0)
          exact hm.heap b o (by simp only [List.mem_cons, List.mem_singleton, List.not_mem_nil, or_false, not_or]; exact ⟨hb1, hb2⟩) (Heap.get?_push_of_some _ (Heap.get?_push_of_some _ e))
        · refine wpAny_pyIter_ascii ha ?_
          refine wpAny_bind (wpAny_runValue ?_)
          refine update_strs ((Walks.strAscii hh3 _ x u).toS) s.heap.objs.size hSf xs hsz hb hval (x.cps.size - 0) 0 _ (by omega) (Nat.zero_le _)
            ⟨_, Heap.get?_push_size _ rfl, rfl, rfl⟩ ⟨[], stx_new (Heap.get?_push_of_some _ hS), by simp, by simp⟩ fun s' ks hm hS' hks hkl => ?_
          obtain ⟨h', g2, d', tk', os'⟩ := s'
          have eg : g2 = s.gens := hm.gens
          have ed : d' = s.drawn := hm.drawn
          have eo : os' = s.os := hm.os
          subst eg; subst ed; subst eo
          show wpAny _ _ _ _ _ _
          refine wpAny_pure ?_
          show wpAny _ _ (ret Value.none) _ _ _
          refine wpAny_pure ⟨rfl, h', tk', ks, rfl, hS', hks, hkl, fun b o e => ?_⟩
          have hb0 : b < s.heap.objs.size := Heap.lt_size e
          have hb1 : b ≠ s.heap.objs.size := Nat.ne_of_lt hb0
          have hb2 : b ≠ (s.heap.push { cls := .type "set", dict := none, data := .set #[] 0 (.fresh 0 0 (!w.params.followText "set-order")) }).objs.size := by
            rw [Heap.size_push]; exact Nat.ne_of_lt (Nat.lt_succ_of_lt hb0)
          exact hm.heap b o (by simp only [List.mem_cons, List.mem_singleton, List.not_mem_nil, or_false, not_or]; exact ⟨hb1, hb2⟩) (Heap.get?_push_of_some _ (Heap.get?_push_of_some _ e))
      · cases r₂ with
        | error e => exact hr₂
        | ok fl₂ =>
          cases fl₂ with
          | ret r =>
            obtain ⟨rfl, h', tk, ks, rfl, hS', hks, hkl, hk'⟩ := hr₂
            repeat (any_goals (first | assumption | wp_step))
            exact h _ _ _ hS' hks hkl hk'
          | _ => exact hr₂.elim
    | _ => exact hr.elim

theorem strs_of : ∀ (l : List Value), (∀ v ∈ l, ∃ k u, v = Value.str k u) → StrsAre l (l.map strOf)
  | [], _ => .nil
  | v :: l, h => by
    obtain ⟨k, tk, rfl⟩ := h v List.mem_cons_self
    exact .cons k tk (strs_of l fun u hu => h u (List.mem_cons_of_mem _ hu))
theorem sorted_stx {Q : Value → Shared → Prop} {ks : List Str} (R : StxR P w s.heap a ks) (hh : A.handled = none) (hb : ks.length < scanBound)
    (hQ : ∀ s' p (out : Array Value) (c : Nat) (ys : List Str), (∀ b o, s.heap.get? b = some o → s'.heap.get? b = some o) → s'.gens = s.gens → s'.os = s.os → s.heap.objs.size ≤ p →
      s'.heap.get? p = some (seqObj "list" out c) → StrsAre out.toList ys → ys.Perm ks → sortedS ys = true → Q (.ref p) s') :
    wpAny (model P w) A (call (.builtin "sorted") [.ref a]) Q E s := by
  obtain ⟨es, ep, t, ho, F, pm, al, nd, r, ld⟩ := R
  have hsz : es.size = ks.length := F.sz
  refine Calls.call_function_entry kind_sorted plain_sorted entry_sorted (args_sorted1 _) ?_
  unfold Builtin.«sorted»
  refine wpAny_bind (m := checkCount "sorted" 1 1 _) (wpAny_pure ?_)
  refine wpAny_bind (collect_set (A := A.in1) hh ⟨_, ho, rfl, rfl⟩ F.fit (by rw [hsz]; exact hb) r ld fun s1 vs k1 hz g1 o1 pm1 => ?_)
  have hvl : vs.length = ks.length := by rw [pm1.length_eq, List.length_map, Array.length_toList]; exact hsz
  have hS : StrsAre vs (vs.map strOf) := strs_of vs fun v hv => by
    obtain ⟨e, he, q⟩ := List.mem_map.mp (pm1.mem_iff.mp hv)
    obtain ⟨u, h1⟩ := al e he
    exact ⟨_, u, by rw [← q]; exact h1⟩
  have pk : (vs.map strOf).Perm ks := by
    refine ((pm1.map strOf).trans ?_).trans pm
    rw [List.map_map]
    refine List.Perm.of_eq (List.map_congr_left fun e he => ?_)
    obtain ⟨u, h1⟩ := al e he
    show strOf e.2 = keyS e
    rw [h1]; rfl
  have hL : vs.length ≤ sizeLine := by rw [hvl]; exact fits_of_scanBound hb
  refine wpAny_bind (wpAny_newList ?_ hL)
  have hoL : (s1.heap.push (seqObj "list" vs.toArray 0)).get? s1.heap.objs.size = some (seqObj "list" vs.toArray 0) := Heap.get?_push_size _ rfl
  refine wpAny_bind (wpAny_holding (wpAny_call_entry slot_list_sort ⟨_, hoL, rfl⟩ entry_list_sort (list_sort_treeKAny strKind_oneLt hoL hS.keysOf (fun v₁ v₂ rest e => keyKind_strs (by rw [← e]; exact hS)) hL fun st' hp hs => ?_) (args_list_sort _)))
  obtain ⟨ys, a1, a2, a3⟩ := sorted_out_str hS hp hs
  refine ⟨_, rfl, ?_⟩
  obtain ⟨c, hc⟩ := sortedHeap_at (vs := vs) (out := (arrOf st').map (·.2)) hoL
  refine wpAny_pure ⟨_, rfl, hQ _ s1.heap.objs.size _ c ys (fun b u e => ?_) g1 o1 hz hc a1 (a2.trans pk) a3⟩
  have q := k1 b u e
  have hlt := Heap.lt_size q
  show (sortedHeap (s1.heap.push (seqObj "list" vs.toArray 0)) s1.heap.objs.size vs ((arrOf st').map (·.2))).get? b = some u
  rw [sortedHeap_old (Nat.ne_of_lt hlt) (by rw [Heap.size_push]; exact Nat.lt_succ_of_lt hlt)]
  exact Heap.get?_push_of_some _ q
end
/-! ### as rules -/
def StxO (P : Program) (w : World) (a : Addr) (ks : List Str) : HO := .ext fun h => StxR P w h a ks
theorem stxO_new {w : World} {P : Program} {H : Hp} {h : Heap} {a : Addr} {ks : List Str} (R : StxR P w h a ks) : ObjOk P w H h a (StxO P w a ks) := by
  have R2 := R
  obtain ⟨es, ep, t, ho, _⟩ := R2
  exact ⟨R, ⟨_, ho⟩, fun h1 h2 p k => StxR.at p k⟩
section
variable {X : Cx}
theorem stxO_get {pins : List (Addr × Obj)} {σ : L2.St} {H : Hp} {s : Shared} {a : Addr} {ks : List Str} (I : L2.Inv X pins σ H s) (ha : H a = some (StxO X.prog X.w a ks)) : StxR X.prog X.w s.heap a ks := (I.hok a _ ha).1
def signsOf (x : Str) : List Str := x.cps.toList.map fun c => ⟨#[c]⟩
def rSetT (X : Cx) : List V → Hp → VK → Prop := fun xs H Q => ∃ ys : List Str, ((∃ p, xs = [.ref p] ∧ SqL X.K H p (ys.map V.str)) ∨ ∃ x, xs = [.str x] ∧ ys = signsOf x) ∧ ys.length < 4000 ∧
  ∀ p ks, H p = none → (∀ k, k ∈ ks ↔ k ∈ ys) → ks.Nodup → ks.length ≤ ys.length → Q (.ref p) (upd H p (StxO X.prog X.w p ks))
theorem scan_ok {n : Nat} (h : n < 4000) : n + 1 < scanBound := by unfold scanBound; omega
theorem StxR.nd {P : Program} {w : World} {h : Heap} {a : Addr} {ks : List Str} (R : StxR P w h a ks) : ks.Nodup := by
  obtain ⟨es, ep, t, ho, F, pm, al, nd, _⟩ := R
  exact nd
theorem strs_of_vals {ys : List Str} : ∀ {us : List Value}, Vals (ys.map V.str) us → StrsAre us ys := fun r => r.strs
theorem cr_setT (hc : X.calm = true) : CallR X (.type "set") (rSetT X) := by
  intro pins s σ H vs us Q I r h
  obtain ⟨ys, hx, hl, q⟩ := h
  have fin : ∀ (h' : Heap) (tk : Nat) (ks : List Str), StxR X.prog X.w h' s.heap.objs.size ks → (∀ k, k ∈ ks ↔ k ∈ ys) → ks.length ≤ ys.length → (∀ b o, s.heap.get? b = some o → h'.get? b = some o) → EP X pins σ Q (.ref s.heap.objs.size) { s with heap := h', toks := tk } := fun h' tk ks R hk hkl kp =>
    ⟨.ref _, upd H s.heap.objs.size (StxO X.prog X.w s.heap.objs.size ks), I.laid (t' := tk) kp (Nat.le_refl _) (stxO_new R), rfl, q _ ks (I.hok.fresh (Nat.le_refl _)) hk R.nd hkl⟩
  rcases hx with ⟨p, rfl, hs⟩ | ⟨x, rfl, rfl⟩
  · obtain ⟨its, rv, hl', _⟩ := I.list hs
    rw [Vals.ref1 r]
    exact call_set_list (I.ok.hd hc) hl'.isList (by simpa using rv.strs) (scan_ok hl) fin
  · obtain ⟨u, rfl, ru⟩ := r.one
    obtain ⟨t, rfl⟩ := ru
    exact call_set_text (I.ok.hd hc) rfl (scan_ok hl) fin
def rSortedT (X : Cx) : List V → Hp → VK → Prop := fun vs H Q => ∃ (a : Addr) (ks : List Str), vs = [V.ref a] ∧ H a = some (StxO X.prog X.w a ks) ∧ ks.length < 4000 ∧
  ∀ (ys : List Str) (p : Addr), ys.Perm ks → sortedS ys = true → H p = none → Q (.ref p) (upd H p (.lst (ys.map V.str)))
theorem cr_sortedT (hc : X.calm = true) : CallR X (.builtin "sorted") (rSortedT X) := by
  intro pins s σ H vs us Q I r h
  obtain ⟨a, ks, rfl, ha, hl, q⟩ := h
  have R := stxO_get I ha
  rw [Vals.ref1 r]
  refine sorted_stx R (I.ok.hd hc) (by have := scan_ok hl; omega) fun s' p out c ys k g o hp hg hi pm hs => ?_
  have hlen : (ys.map V.str).length ≤ sizeLine := by rw [List.length_map, pm.length_eq]; exact fits_of_scanBound (by have := scan_ok hl; omega)
  have hn : H p = none := I.hok.fresh hp
  have J : L2.Inv X pins σ (upd H p (.lst (ys.map V.str))) { s with heap := s'.heap, gens := s'.gens, drawn := s'.drawn, toks := s'.toks } :=
    I.call (ch := []) (Un.laid k hp hn) (I.hok.laid k hp ⟨hlen, out.toList, c, vals_of_strs hi, hg⟩) (by rw [g]; exact I.bare) (fun _ z => nomatch z)
  have e : s' = { s with heap := s'.heap, gens := s'.gens, drawn := s'.drawn, toks := s'.toks } := by
    cases s'
    cases s
    cases o
    rfl
  rw [e]
  exact ⟨.ref p, _, J, rfl, q ys p pm hs hn⟩
end
end Nv.TS
namespace Nv
open PySem PySem.Spec PyProof.Rows L2
section
variable {X : Cx} {P : Pr} {pos : Pos} {e : Expr} {f : M D}
def nub : List Str → List Str
  | [] => []
  | x :: r => if x ∈ nub r then nub r else x :: nub r
theorem mem_nub {k : Str} : ∀ xs : List Str, k ∈ nub xs ↔ k ∈ xs
  | [] => .rfl
  | x :: r => by
    have ih := mem_nub (k := k) r
    unfold nub
    split
    · rename_i h
      rw [ih, List.mem_cons]
      exact ⟨.inr, fun q => q.elim (fun e => by rw [e]; exact (mem_nub r).mp h) id⟩
    · rw [List.mem_cons, List.mem_cons, ih]
theorem nub_nodup : ∀ xs : List Str, (nub xs).Nodup
  | [] => .nil
  | x :: r => by
    unfold nub
    split
    · exact nub_nodup r
    · rename_i h
      exact .cons (fun y hy z => h (by rw [z]; exact hy)) (nub_nodup r)
def srtSet (xs : List Str) : List Str := srt (nub xs)
theorem srtSet_unique {ys xs : List Str} (h : ∀ k, k ∈ ys ↔ k ∈ xs) (nd : ys.Nodup) (s : sortedS ys = true) : ys = srtSet xs :=
  srt_unique ((List.perm_ext_iff_of_nodup nd (nub_nodup xs)).mpr fun k => (h k).trans (mem_nub xs).symm) s
def dSrtSetL (xs : List D) : Option (List D) := (dStrs xs).bind fun ys => if ys.length < 4000 then some ((srtSet ys).map .str) else none
def dSrtSet : D → Option (List D)
  | .lst xs => dSrtSetL xs
  | .str x => if x.length < 4000 then some ((srtSet (TS.signsOf x)).map .str) else none
  | _ => none
/-- sorted(set(e)) -/
theorem dF_sortedSet {p p2 : Pos} {pos2 : Pos} (hc : X.calm = true) (hg : Gl X "sorted") (hm : X.mg "sorted" = none) (hg2 : Gl X "set") (hm2 : X.mg "set" = none) (ha : DB X P e f)
    (hs : starEach (e :: []) X.env = (false, eval e X.env) :: starEach [] X.env := by rfl) (hpl : (backTo pos2 (starEach [] X.env)).any (·.1) = false := by rfl)
    (hs2 : starEach (.Call (.Name "set" p2) [e] [] pos2 :: []) X.env = (false, eval (.Call (.Name "set" p2) [e] [] pos2) X.env) :: starEach [] X.env := by rfl) (hpl2 : (backTo pos (starEach [] X.env)).any (·.1) = false := by rfl) :
    DF X P (.Call (.Name "sorted" p) [.Call (.Name "set" p2) [e] [] pos2] [] pos) (mUnF dSrtSet f) :=
  PE.imp (pe_callB (TS.cr_sortedT hc) hg hm (by decide +kernel) (pa_cons (pe_callTy (TS.cr_setT hc) hg2 hm2 (by decide +kernel) (dA_b ha hs) (by decide) (by decide) hs hpl) pa_nil hs2) (by decide) (by decide) hs2 hpl2) fun σ H Q ⟨O, T, ρ, I, p⟩ =>
    ⟨O, T, ρ, I, Post.bind p fun x ρ1 vs H1 I1 e1 r1 p1 => by
      obtain ⟨v, rfl, r1⟩ := r1
      obtain ⟨ds, hz, p2⟩ := p1.opt
      have fin : ∀ ys : List Str, (ds = (srtSet ys).map .str) → ys.length < 4000 → ∀ p ks, H1 p = none → (∀ k, k ∈ ks ↔ k ∈ ys) → ks.Nodup → ks.length ≤ ys.length → TS.rSortedT X [.ref p] (upd H1 p (TS.StxO X.prog X.w p ks)) Q := fun ys hd hl p ks hp hk nd hkl =>
        ⟨p, ks, rfl, upd_same, by omega, fun zs q pm hs hq => by
          have hzs : zs = srtSet ys := srtSet_unique (fun k => pm.mem_iff.trans (hk k)) (pm.nodup_iff.mpr nd) hs
          subst hzs
          subst hd
          exact (Post.step p2 (ex_hid_new hp)).fresh (I1.new hp) hq (reps_strs _)⟩
      cases x <;> first | (cases hz; done) | skip
      · simp only [RepB, Rep] at r1
        obtain ⟨h, rfl⟩ := ite_some (show (if _ then _ else none) = some ds from hz)
        rename_i z
        have hl : (TS.signsOf z).length < 4000 := by
          unfold TS.signsOf
          rw [List.length_map, Array.length_toList]
          exact h
        exact ⟨_, .inr ⟨_, by rw [r1], rfl⟩, hl, fin _ rfl hl⟩
      · obtain ⟨ys, h1, h2⟩ := Option.bind_eq_some_iff.mp (show (dStrs _).bind _ = some ds from hz)
        obtain ⟨h3, rfl⟩ := ite_some h2
        obtain ⟨a, vs, rfl, h4, h5⟩ := r1
        have := dStrs_rep h1 h5
        subst this
        exact ⟨ys, .inl ⟨a, rfl, SqL.of h4⟩, h3, fin _ rfl h3⟩⟩
end
end Nv

/-! list(zip(a, b)) of two lists -/
namespace Nv.ZL
open PySem PySem.Spec PyProof.Rows L2 PySem.W
section
variable {P : Program} {w : World} {A : Around} {E : Value → Shared → Prop} {s : Shared} {z TI TO i1 i2 l1 l2 S : Addr} {xs ys : Array Value}
/-- the zip behind k items; as: the tuples it gave -/
structure ZS (z TI TO i1 i2 l1 l2 S : Addr) (xs ys : Array Value) (as : List Addr) (h : Heap) : Prop where
  ti : IsPair h TI (.ref i1) (.ref i2)
  it1 : h.IsListIter i1 l1 as.length
  it2 : h.IsListIter i2 l2 as.length
  li1 : h.IsList l1 xs
  li2 : h.IsList l2 ys
  ob : (as = [] ∧ IsZip h z TI TO .none ∧ ∃ a b, IsPair h TO a b) ∨ ∃ T f, T ∈ as ∧ IsZipHeld h z TI TO T f
  rise : as.Pairwise (· < ·)
  low : ∀ t ∈ as, z < t ∧ TI < t ∧ TO < t ∧ i1 < t ∧ i2 < t ∧ l1 < t ∧ l2 < t ∧ S < t
  pr : ∀ (j : Nat) (t : Addr), as[j]? = some t → ∃ x y, xs[j]? = some x ∧ ys[j]? = some y ∧ IsPair h t x y
theorem ZS.ex {as : List Addr} {h h' : Heap} (Z : ZS z TI TO i1 i2 l1 l2 S xs ys as h) (k : ∀ b o, b ≠ S → h.get? b = some o → h'.get? b = some o) (hS : S ≠ z ∧ S ≠ TI ∧ S ≠ TO ∧ S ≠ i1 ∧ S ≠ i2 ∧ S ≠ l1 ∧ S ≠ l2) : ZS z TI TO i1 i2 l1 l2 S xs ys as h' where
  ti := k _ _ hS.2.1.symm Z.ti
  it1 := Z.it1.at fun o e => k _ _ hS.2.2.2.1.symm e
  it2 := Z.it2.at fun o e => k _ _ hS.2.2.2.2.1.symm e
  li1 := Z.li1.at fun o e => k _ _ hS.2.2.2.2.2.1.symm e
  li2 := Z.li2.at fun o e => k _ _ hS.2.2.2.2.2.2.symm e
  ob := Z.ob.imp (fun ⟨e, h1, a, b, h2⟩ => ⟨e, k _ _ hS.1.symm h1, a, b, k _ _ hS.2.2.1.symm h2⟩) fun ⟨T, f, e, h1⟩ => ⟨T, f, e, k _ _ hS.1.symm h1⟩
  rise := Z.rise
  low := Z.low
  pr := fun j t e => by
    obtain ⟨x, y, h1, h2, h3⟩ := Z.pr j t e
    exact ⟨x, y, h1, h2, k _ _ (Nat.ne_of_gt (Z.low t (List.mem_of_getElem? e)).2.2.2.2.2.2.2) h3⟩
theorem alive {as : List Addr} {h : Heap} (Z : ZS z TI TO i1 i2 l1 l2 S xs ys as h) {T : Addr} (this : T ∈ as) : ∃ o, h.get? T = some o := by
  obtain ⟨j, hj⟩ := List.mem_iff_getElem?.mp this
  obtain ⟨x, y, _, _, h3⟩ := Z.pr j T hj
  exact ⟨_, h3⟩
theorem zs_item {as : List Addr} {x y : Value} {Q : Option Value → Shared → Prop} (D : ZipApart z TI TO i1 i2 l1 l2) (Z : ZS z TI TO i1 i2 l1 l2 S xs ys as s.heap) (hx : xs[as.length]? = some x) (hy : ys[as.length]? = some y)
    (hz : z < s.heap.objs.size ∧ TI < s.heap.objs.size ∧ TO < s.heap.objs.size ∧ i1 < s.heap.objs.size ∧ i2 < s.heap.objs.size ∧ l1 < s.heap.objs.size ∧ l2 < s.heap.objs.size ∧ S < s.heap.objs.size)
    (hQ : ∀ h', ZS z TI TO i1 i2 l1 l2 S xs ys (as ++ [s.heap.objs.size]) h' → h'.objs.size = s.heap.objs.size + 1 → (∀ c o, c ≠ z → c ≠ TO → c ≠ i1 → c ≠ i2 → s.heap.get? c = some o → h'.get? c = some o) → Q (some (.ref s.heap.objs.size)) { s with heap := h' }) :
    wpAny (model P w) A (pyNext (.ref z)) Q E s := by
  have low : ∀ t ∈ as, t < s.heap.objs.size := fun t ht => by
    obtain ⟨j, hj⟩ := List.mem_iff_getElem?.mp ht
    obtain ⟨x, y, _, _, h3⟩ := Z.pr j t hj
    exact Heap.lt_size h3
  have mk : ∀ h' T f, IsZipHeld h' z TI TO T f → T ∈ as ++ [s.heap.objs.size] → h'.IsListIter i1 l1 (as.length + 1) → h'.IsListIter i2 l2 (as.length + 1) → IsPair h' s.heap.objs.size x y →
      (∀ c o, c ≠ z → c ≠ TO → c ≠ i1 → c ≠ i2 → s.heap.get? c = some o → h'.get? c = some o) → ZS z TI TO i1 i2 l1 l2 S xs ys (as ++ [s.heap.objs.size]) h' := fun h' T f a1 al a3 a4 a5 hk => {
    ti := hk _ _ D.TIz D.TITO D.TIi1 D.TIi2 Z.ti
    it1 := by rw [List.length_append]; exact a3
    it2 := by rw [List.length_append]; exact a4
    li1 := Z.li1.at fun o e => hk _ _ D.l1z D.l1TO D.l1i1 D.l1i2 e
    li2 := Z.li2.at fun o e => hk _ _ D.l2z D.l2TO D.l2i1 D.l2i2 e
    ob := .inr ⟨T, f, al, a1⟩
    rise := List.pairwise_append.mpr ⟨Z.rise, by simp, fun a ha b hb => by rw [List.mem_singleton] at hb; rw [hb]; exact low a ha⟩
    low := fun t ht => by
      rcases List.mem_append.mp ht with ht | ht
      · exact Z.low t ht
      · rw [List.mem_singleton] at ht
        rw [ht]; exact hz
    pr := fun j t e => by
      by_cases hj : j < as.length
      · rw [List.getElem?_append_left hj] at e
        obtain ⟨x, y, h1, h2, h3⟩ := Z.pr j t e
        have hl := Z.low t (List.mem_of_getElem? e)
        exact ⟨x, y, h1, h2, hk _ _ (Nat.ne_of_gt hl.1) (Nat.ne_of_gt hl.2.2.1) (Nat.ne_of_gt hl.2.2.2.1) (Nat.ne_of_gt hl.2.2.2.2.1) h3⟩
      · rw [List.getElem?_append_right (by omega)] at e
        have hj2 : j = as.length := by
          have := (List.getElem?_eq_some_iff.mp e).1
          simp at this
          omega
        subst hj2
        simp at e
        subst e
        exact ⟨x, y, hx, hy, a5⟩ }
  rcases Z.ob with ⟨he, hz0, a, b, hTO⟩ | ⟨T, f, he, hz0⟩
  · subst he
    refine wpAny_pyNext_zip_item D hz0 Z.ti hTO Z.it1 Z.it2 Z.li1 Z.li2 hx hy fun h' a1 a2 a3 a4 a5 a6 hk => hQ h' (mk h' s.heap.objs.size false a1 (by simp) a3 a4 a5 hk) a6 hk
  · obtain ⟨oT, hT⟩ := alive Z he
    refine wpAny_pyNext_zip_item_held D hz0 hT Z.ti Z.it1 Z.it2 Z.li1 Z.li2 hx hy fun h' a1 a3 a4 a5 a6 hk => hQ h' (mk h' T true a1 (List.mem_append_left _ he) a3 a4 a5 fun c o c1 _ c3 c4 => hk c o c1 c3 c4) a6 fun c o c1 _ c3 c4 => hk c o c1 c3 c4
theorem zs_end {as : List Addr} {Q : Option Value → Shared → Prop} (hh : A.handled = none) (D : ZipApart z TI TO i1 i2 l1 l2) (Z : ZS z TI TO i1 i2 l1 l2 S xs ys as s.heap) (he : xs[as.length]? = none ∨ ys[as.length]? = none)
    (hQ : ∀ h', (∀ c o, c ≠ z → c ≠ TO → c ≠ i1 → c ≠ i2 → s.heap.get? c = some o → h'.get? c = some o) → Q none { s with heap := h' }) : wpAny (model P w) A (pyNext (.ref z)) Q E s := by
  rcases Z.ob with ⟨_, hz0, a, b, hTO⟩ | ⟨T, f, hm, hz0⟩
  · exact wpAny_pyNext_zip_end hh D hz0 Z.ti hTO Z.it1 Z.it2 Z.li1 Z.li2 he hQ
  · obtain ⟨oT, hT⟩ := alive Z hm
    exact wpAny_pyNext_zip_end_held hh D hz0 hT Z.ti Z.it1 Z.it2 Z.li1 Z.li2 he fun h' hk => hQ h' fun c o c1 _ c3 c4 => hk c o c1 c3 c4
theorem zs_loop (hh : A.handled = none) (D : ZipApart z TI TO i1 i2 l1 l2) (hlt : z < S ∧ TI < S ∧ TO < S ∧ i1 < S ∧ i2 < S ∧ l1 < S ∧ l2 < S) (hn : min xs.size ys.size ≤ sizeLine) (res : Value) {R : Result → Shared → Prop} :
    ∀ (k : Nat) (as : List Addr) (s : Shared) (c : Nat), min xs.size ys.size - as.length = k → as.length ≤ min xs.size ys.size → ZS z TI TO i1 i2 l1 l2 S xs ys as s.heap → s.heap.get? S = some { cls := .type "list", dict := none, data := .seq (as.map Value.ref).toArray c, slots := #[] } →
      (∀ h' as' c', ZS z TI TO i1 i2 l1 l2 S xs ys as' h' ∨ True → as'.length = min xs.size ys.size → (∀ (j : Nat) (t : Addr), as'[j]? = some t → ∃ x y, xs[j]? = some x ∧ ys[j]? = some y ∧ IsPair h' t x y) → as'.Pairwise (· < ·) → (∀ t ∈ as', z < t ∧ S < t) → h'.get? S = some { cls := .type "list", dict := none, data := .seq (as'.map Value.ref).toArray c', slots := #[] } →
        (∀ b o, b ≠ z → b ≠ TO → b ≠ i1 → b ≠ i2 → b ≠ S → s.heap.get? b = some o → h'.get? b = some o) → R (.ok (.ret res)) { s with heap := h' }) →
      codeAny (model P w) A (.builtin "list.extend.loop" ⟨[.ref S, .ref z, res], []⟩) R s := by
  have hS : S ≠ z ∧ S ≠ TI ∧ S ≠ TO ∧ S ≠ i1 ∧ S ≠ i2 ∧ S ≠ l1 ∧ S ≠ l2 := ⟨Nat.ne_of_gt hlt.1, Nat.ne_of_gt hlt.2.1, Nat.ne_of_gt hlt.2.2.1, Nat.ne_of_gt hlt.2.2.2.1, Nat.ne_of_gt hlt.2.2.2.2.1, Nat.ne_of_gt hlt.2.2.2.2.2.1, Nat.ne_of_gt hlt.2.2.2.2.2.2⟩
  intro k
  induction k with
  | zero =>
    intro as s c hk hi Z hSs hR
    refine codeAny_builtin F.entry_extend_loop ?_
    rw [Around.under_plainId F.plain_extend_loop _]
    show wpAny _ A.in1 (pyNext (.ref z) >>= _) _ _ s
    have hend : xs[as.length]? = none ∨ ys[as.length]? = none := by
      rcases Nat.le_total xs.size ys.size with h | h
      · exact .inl (Array.getElem?_eq_none (by omega))
      · exact .inr (Array.getElem?_eq_none (by omega))
    refine wpAny_bind (zs_end (A := A.in1) hh D Z hend fun h' hk2 => ?_)
    refine wpAny_pure (hR h' as c (.inr trivial) (by omega) (fun j t e => ?_) Z.rise (fun t ht => ⟨(Z.low t ht).1, (Z.low t ht).2.2.2.2.2.2.2⟩) (hk2 _ _ hS.1 hS.2.2.1 hS.2.2.2.1 hS.2.2.2.2.1 hSs) fun b o b1 b2 b3 b4 _ => hk2 b o b1 b2 b3 b4)
    obtain ⟨x, y, h1, h2, h3⟩ := Z.pr j t e
    have hl := Z.low t (List.mem_of_getElem? e)
    exact ⟨x, y, h1, h2, hk2 _ _ (Nat.ne_of_gt hl.1) (Nat.ne_of_gt hl.2.2.1) (Nat.ne_of_gt hl.2.2.2.1) (Nat.ne_of_gt hl.2.2.2.2.1) h3⟩
  | succ k ih =>
    intro as s c hk hi Z hSs hR
    have hx : as.length < xs.size := by omega
    have hy : as.length < ys.size := by omega
    refine codeAny_builtin F.entry_extend_loop ?_
    rw [Around.under_plainId F.plain_extend_loop _]
    show wpAny _ A.in1 (pyNext (.ref z) >>= _) _ _ s
    have sl := Heap.lt_size hSs
    have tr : ∀ {b : Addr}, b < S → b < s.heap.objs.size := fun h => Nat.lt_trans h sl
    refine wpAny_bind (zs_item (A := A.in1) D Z (Array.getElem?_eq_getElem hx) (Array.getElem?_eq_getElem hy) ⟨tr hlt.1, tr hlt.2.1, tr hlt.2.2.1, tr hlt.2.2.2.1, tr hlt.2.2.2.2.1, tr hlt.2.2.2.2.2.1, tr hlt.2.2.2.2.2.2, sl⟩ fun h' Z' hsz hk2 => ?_)
    have hS' := hk2 _ _ hS.1 hS.2.2.1 hS.2.2.2.1 hS.2.2.2.2.1 hSs
    have hsz2 : ((as.map Value.ref).toArray : Array Value).size = as.length := by simp
    show wpAny _ A.in1 (updateSeq S (·.push (.ref s.heap.objs.size)) >>= _) _ _ _
    refine wpAny_bind ?_
    refine wpAny_updateSeq hS' rfl (wpAny_pure ⟨plainId_quiet F.plain_extend_loop _, ih (as ++ [s.heap.objs.size]) _ (c + 1) (by rw [List.length_append]; simp; omega) (by rw [List.length_append]; simp; omega) (Z'.ex (fun b o hb e => (Heap.get?_update_other _ _ (Ne.symm hb)).trans e) hS) ?_ fun h'' as' c' _ e1 e2 e3 e4 e5 e6 => ?_⟩)
      (by rw [hsz2]; omega) (by show ((as.map Value.ref).toArray.push _).size ≤ sizeLine + 1; rw [Array.size_push, hsz2]; omega)
    · have := Heap.get?_update_self (Obj.mapSeq (·.push (Value.ref s.heap.objs.size))) hS' rfl
      rw [this]
      simp [Obj.mapSeq]
    · refine hR h'' as' c' (.inr trivial) e1 e2 e3 e4 e5 fun b o b1 b2 b3 b4 b5 e => ?_
      exact e6 b o b1 b2 b3 b4 b5 ((Heap.get?_update_other _ _ (Ne.symm b5)).trans (hk2 b o b1 b2 b3 b4 e))
theorem nolen_zip : typeLookup (.type "zip") "__len__" = pure none := by rw [typeLookup_type, builtinLookup_eq_fast]; kernel_rfl
theorem nohint_zip : typeLookup (.type "zip") "__length_hint__" = pure none := by rw [typeLookup_type, builtinLookup_eq_fast]; kernel_rfl
/-- what list(zip) leaves -/
abbrev Laid (xs ys : Array Value) (S : Addr) (as : List Addr) (c : Nat) (h' : Heap) : Prop := as.length = min xs.size ys.size ∧ (∀ (j : Nat) (t : Addr), as[j]? = some t → ∃ x y, xs[j]? = some x ∧ ys[j]? = some y ∧ IsPair h' t x y) ∧ as.Pairwise (· < ·) ∧ (∀ t ∈ as, S < t) ∧
  h'.get? S = some { cls := .type "list", dict := none, data := .seq (as.map Value.ref).toArray c, slots := #[] }
theorem zs_extend (hh : A.handled = none) (D : ZipApart z TI TO i1 i2 l1 l2) (hlt : z < S ∧ TI < S ∧ TO < S ∧ i1 < S ∧ i2 < S ∧ l1 < S ∧ l2 < S) (hn : min xs.size ys.size ≤ sizeLine) (res : Value) {R : Result → Shared → Prop} {c0 : Nat}
    (Z : ZS z TI TO i1 i2 l1 l2 S xs ys [] s.heap) (hS0 : s.heap.get? S = some { cls := .type "list", data := .seq #[] c0 })
    (hR : ∀ h' as c', Laid xs ys S as c' h' → (∀ b o, b ≠ z → b ≠ TO → b ≠ i1 → b ≠ i2 → b ≠ S → s.heap.get? b = some o → h'.get? b = some o) → R (.ok (.ret res)) { s with heap := h' }) :
    wpAny (model P w) A.in1 (Builtin.List.listExtendWith (.ref S) (.ref z) res)
      (fun fin s' => match fin with | .done f => R (.ok f) s' | .again c' => c'.quiet = true ∧ codeAny (model P w) A c' R s') (fun e s' => R (.error e) s') s := by
  have hS : S ≠ z ∧ S ≠ TI ∧ S ≠ TO ∧ S ≠ i1 ∧ S ≠ i2 ∧ S ≠ l1 ∧ S ≠ l2 := ⟨Nat.ne_of_gt hlt.1, Nat.ne_of_gt hlt.2.1, Nat.ne_of_gt hlt.2.2.1, Nat.ne_of_gt hlt.2.2.2.1, Nat.ne_of_gt hlt.2.2.2.2.1, Nat.ne_of_gt hlt.2.2.2.2.2.1, Nat.ne_of_gt hlt.2.2.2.2.2.2⟩
  have hz0 : IsZip s.heap z TI TO .none := by
    rcases Z.ob with ⟨_, h, _⟩ | ⟨T, f, hm, _⟩
    · exact h
    · simp at hm
  have hT : ∀ h', IsZip h' z TI TO .none → Shared.TypeIs { s with heap := h' } (.ref z) "zip" := fun h' h => ⟨_, h, rfl⟩
  unfold Builtin.List.listExtendWith
  refine wpAny_bind (wpAny_typeOf (hT _ hz0) ?_)
  have h1 : Builtin.List.listSameRef (.ref S) (.ref z) = false := by simp [Builtin.List.listSameRef, hS.1]
  have h2 : (Value.type "zip" == Value.type "list") = false := by decide
  have h3 : (Value.type "zip" == Value.type "tuple") = false := by decide
  simp only [h1, h2, h3, Bool.or_false, Bool.false_eq_true, if_false]
  refine wpAny_bind (wpAny_pyIter_zip hz0 ?_)
  refine wpAny_bind (wpAny_holding ?_)
  unfold Builtin.List.listLengthHint
  refine wpAny_bind (wpAny_specialOf (hT _ hz0) nolen_zip ?_)
  show wpAny _ A.in1 (specialOf (Value.ref z) (Str.ofString "__length_hint__") >>= _) _ _ _
  refine wpAny_bind (wpAny_specialOf (hT _ hz0) nohint_zip ?_)
  refine wpAny_pure ?_
  show wpAny _ A.in1 (rule "list.extend.makes-room" >>= fun _ => Builtin.List.listTouch (.ref S) >>= fun _ =>
    again (.builtin "list.extend.loop" ⟨[.ref S, .ref z, res], []⟩)) _ _ _
  refine wpAny_bind (wpAny_rule ?_)
  refine wpAny_bind ?_
  show wpAny _ A.in1 (updateSeq S (·.push .none) >>= fun _ => updateSeq S (·.pop)) _ _ _
  refine wpAny_bind (wpAny_updateSeq hS0 rfl ?_)
  have hS₂ := Heap.get?_update_self (Obj.mapSeq (·.push Value.none)) hS0 rfl
  refine wpAny_updateSeq (hz := by seq_fits) hS₂ rfl ?_
  have hS₃ := Heap.get?_update_self (Obj.mapSeq (·.pop)) hS₂ rfl
  have oth : ∀ b o, b ≠ S → s.heap.get? b = some o → ((s.heap.update S (Obj.mapSeq (·.push Value.none))).update S (Obj.mapSeq (·.pop))).get? b = some o :=
    fun b o hb e => (Heap.get?_update_other _ _ (Ne.symm hb)).trans ((Heap.get?_update_other _ _ (Ne.symm hb)).trans e)
  refine wpAny_pure ⟨plainId_quiet F.plain_extend_loop _, zs_loop hh D hlt hn res _ [] _ _ rfl (Nat.zero_le _) (Z.ex oth hS) hS₃ fun h' as' c' _ e1 e2 e3 e4 e5 e6 => ?_⟩
  exact hR h' as' c' ⟨e1, e2, e3, fun t ht => (e4 t ht).2, e5⟩ fun b o b1 b2 b3 b4 b5 e => e6 b o b1 b2 b3 b4 b5 (oth b o b5 e)
theorem call_list_zip {Q : Value → Shared → Prop} (hh : A.handled = none) (D : ZipApart z TI TO i1 i2 l1 l2) (hn : min xs.size ys.size ≤ sizeLine) (hz : IsZip s.heap z TI TO .none) (ti : IsPair s.heap TI (.ref i1) (.ref i2)) (to : ∃ a b, IsPair s.heap TO a b)
    (it1 : s.heap.IsListIter i1 l1 0) (it2 : s.heap.IsListIter i2 l2 0) (li1 : s.heap.IsList l1 xs) (li2 : s.heap.IsList l2 ys)
    (hQ : ∀ h' as c', Laid xs ys s.heap.objs.size as c' h' → (∀ b o, b ≠ z → b ≠ TO → b ≠ i1 → b ≠ i2 → s.heap.get? b = some o → h'.get? b = some o) → Q (.ref s.heap.objs.size) { s with heap := h' }) :
    wpAny (model P w) A (call (.type "list") [.ref z]) Q E s := by
  refine callType_codes (Q₁ := fun obj s₁ => obj = .ref s.heap.objs.size ∧ s₁ = { s with heap := s.heap.push { cls := .type "list", data := .seq #[] } }) F.called_list (F.typeCall_list_1 _) F.entry_list_init
    (code_list_new _ ⟨rfl, rfl⟩) fun obj s₁ h₁ => ?_
  obtain ⟨rfl, rfl⟩ := h₁
  have hS : (s.heap.push { cls := .type "list", data := .seq #[] }).get? s.heap.objs.size = some { cls := .type "list", data := .seq #[] } := Heap.get?_push_size _ rfl
  have pu : ∀ b o, s.heap.get? b = some o → (s.heap.push { cls := .type "list", data := .seq #[] }).get? b = some o := fun b o e => Heap.get?_push_of_some _ e
  obtain ⟨a0, b0, hto⟩ := to
  have lt : ∀ {b : Addr} {o : Obj}, s.heap.get? b = some o → b < s.heap.objs.size := fun e => Heap.lt_size e
  have hlt : z < s.heap.objs.size ∧ TI < s.heap.objs.size ∧ TO < s.heap.objs.size ∧ i1 < s.heap.objs.size ∧ i2 < s.heap.objs.size ∧ l1 < s.heap.objs.size ∧ l2 < s.heap.objs.size :=
    ⟨lt hz, lt ti, lt hto, let ⟨_, e, _⟩ := it1; lt e, let ⟨_, e, _⟩ := it2; lt e, let ⟨_, e, _⟩ := li1; lt e, let ⟨_, e, _⟩ := li2; lt e⟩
  refine ⟨⟨_, hS, rfl⟩, F.args_list_init_2 _ _, ?_⟩
  show wpAny _ A.in1.in1 (do let old ← Builtin.List.listItems (.ref s.heap.objs.size); Builtin.List.listUpdate (.ref s.heap.objs.size) (fun _ => #[]); letGo old.toList.reverse; Builtin.List.listExtendWith (.ref s.heap.objs.size) (.ref z) .none) _ _ _
  refine wpAny_bind ?_
  unfold Builtin.List.listItems
  refine wpAny_bind (wpAny_seqItems hS rfl (wpAny_pure ?_))
  show wpAny _ A.in1.in1 (updateSeq s.heap.objs.size (fun _ => #[]) >>= fun _ => letGo (#[] : Array Value).toList.reverse >>= fun _ => Builtin.List.listExtendWith (.ref s.heap.objs.size) (.ref z) .none) _ _ _
  refine wpAny_bind (wpAny_updateSeq hS rfl ?_)
  have hS₂ := Heap.get?_update_self (Obj.mapSeq (fun _ => (#[] : Array Value))) hS rfl
  have oth : ∀ b o, b ≠ s.heap.objs.size → (s.heap.push { cls := .type "list", data := .seq #[] }).get? b = some o → ((s.heap.push { cls := .type "list", data := .seq #[] }).update s.heap.objs.size (Obj.mapSeq (fun _ => (#[] : Array Value)))).get? b = some o :=
    fun b o hb e => (Heap.get?_update_other _ _ (Ne.symm hb)).trans e
  have all : ∀ b o, s.heap.get? b = some o → ((s.heap.push { cls := .type "list", data := .seq #[] }).update s.heap.objs.size (Obj.mapSeq (fun _ => (#[] : Array Value)))).get? b = some o := fun b o e => oth b o (Nat.ne_of_lt (lt e)) (pu b o e)
  refine wpAny_bind (wpAny_letGo ?_)
  refine zs_extend (A := A.in1) (xs := xs) (ys := ys) hh D hlt hn .none ⟨all _ _ ti, it1.at fun o e => all _ _ e, it2.at fun o e => all _ _ e, li1.at fun o e => all _ _ e, li2.at fun o e => all _ _ e, .inl ⟨rfl, all _ _ hz, a0, b0, all _ _ hto⟩, .nil, fun t ht => by simp at ht, fun j t e => by simp at e⟩ hS₂ fun h' as c' L k => ?_
  exact ⟨rfl, hQ h' as c' L fun b o b1 b2 b3 b4 e => k b o b1 b2 b3 b4 (Nat.ne_of_lt (lt e)) (all b o e)⟩
end
end Nv.ZL
namespace Nv
open PySem PySem.Spec PyProof.Rows L2
/-- pairs laid at as -/
def putZ : Hp → List Addr → List V → List V → Hp
  | H, t :: ts, x :: xs, y :: ys => upd (putZ H ts xs ys) t (.tup [x, y])
  | H, _, _, _ => H
theorem putZ_off {b : Addr} : ∀ (as : List Addr) (xs ys : List V) (H : Hp), b ∉ as → putZ H as xs ys b = H b
  | [], _, _, H, _ => by unfold putZ; rfl
  | t :: ts, [], _, H, _ => by unfold putZ; rfl
  | t :: ts, x :: xs, [], H, _ => by unfold putZ; rfl
  | t :: ts, x :: xs, y :: ys, H, h => by
    unfold putZ
    rw [upd_ne (fun z => h (by simp [z])), putZ_off ts xs ys H (fun z => h (by simp [z]))]
theorem putZ_at : ∀ (as : List Addr) (xs ys : List V) (H : Hp) (j : Nat) (t : Addr) (x y : V), as.Nodup → as[j]? = some t → xs[j]? = some x → ys[j]? = some y → putZ H as xs ys t = some (.tup [x, y])
  | [], _, _, H, j, t, x, y, _, e, _, _ => by simp at e
  | a :: as, [], _, H, j, t, x, y, _, _, e, _ => by simp at e
  | a :: as, b :: bs, [], H, j, t, x, y, _, _, _, e => by simp at e
  | a :: as, b :: bs, c :: cs, H, 0, t, x, y, nd, e1, e2, e3 => by
    simp at e1 e2 e3
    subst e1 e2 e3
    unfold putZ
    exact upd_same
  | a :: as, b :: bs, c :: cs, H, j + 1, t, x, y, nd, e1, e2, e3 => by
    simp at e1 e2 e3
    unfold putZ
    have hm := List.mem_of_getElem? e1
    rw [upd_ne (fun z => (List.nodup_cons.mp nd).1 (by rw [← z]; exact hm))]
    exact putZ_at as bs cs H j t x y (List.nodup_cons.mp nd).2 e1 e2 e3
section
variable {X : Cx}
theorem vals_refs : ∀ as : List Addr, Vals (as.map V.ref) (as.map Value.ref)
  | [] => .nil
  | _ :: as => .cons rfl (vals_refs as)
theorem zip_laid {pins : List (Addr × Obj)} {σ : L2.St} {H : Hp} {s : Shared} {h' : Heap} {tk S c : Nat} {xs ys : List V} {us ws : List Value} {as : List Addr} (I : L2.Inv X pins σ H s) (rx : Vals xs us) (ry : Vals ys ws) (hS0 : s.heap.objs.size ≤ S) (hn : xs.length ≤ sizeLine)
    (hk : ∀ b o, s.heap.get? b = some o → h'.get? b = some o) (L : ZL.Laid us.toArray ws.toArray S as c h') :
    ∃ H' : Hp, Ex H H' ∧ H S = none ∧ (∀ t ∈ as, H t = none) ∧ S ∉ as ∧ H' S = some (.lst (as.map V.ref)) ∧ (∀ (j : Nat) (t : Addr), as[j]? = some t → ∃ x y, xs[j]? = some x ∧ ys[j]? = some y ∧ H' t = some (.tup [x, y])) ∧ L2.Inv X pins σ H' { s with heap := h', toks := tk } := by
  obtain ⟨e1, e2, e3, e4, e5⟩ := L
  have hSn : S ∉ as := fun z => Nat.lt_irrefl _ (e4 _ z)
  have nd : as.Nodup := e3.imp fun {a b} h => Nat.ne_of_lt h
  have new : ∀ t ∈ as, H t = none := fun t ht => I.hok.fresh (Nat.le_of_lt (Nat.lt_of_le_of_lt hS0 (e4 t ht)))
  have newS : H S = none := I.hok.fresh hS0
  have lx : xs.length = us.length := rx.length
  have ly : ys.length = ws.length := ry.length
  have at_ : ∀ (j : Nat) (t : Addr), as[j]? = some t → ∃ x y u w, xs[j]? = some x ∧ ys[j]? = some y ∧ us[j]? = some u ∧ ws[j]? = some w ∧ h'.get? t = some { cls := .type "tuple", data := .seq #[u, w] } ∧ putZ (upd H S (.lst (as.map V.ref))) as xs ys t = some (.tup [x, y]) := fun j t e => by
    obtain ⟨u, w, q1, q2, q3⟩ := e2 j t e
    have q1' : us[j]? = some u := by simpa using q1
    have q2' : ws[j]? = some w := by simpa using q2
    have hj1 : j < xs.length := by rw [lx]; exact (List.getElem?_eq_some_iff.mp q1').1
    have hj2 : j < ys.length := by rw [ly]; exact (List.getElem?_eq_some_iff.mp q2').1
    exact ⟨_, _, u, w, List.getElem?_eq_getElem hj1, List.getElem?_eq_getElem hj2, q1', q2', q3, putZ_at as xs ys _ j t _ _ nd e (List.getElem?_eq_getElem hj1) (List.getElem?_eq_getElem hj2)⟩
  have off : ∀ b, b ∉ as → b ≠ S → putZ (upd H S (.lst (as.map V.ref))) as xs ys b = H b := fun b h1 h2 => by rw [putZ_off as _ _ _ h1, upd_ne h2]
  have low : ∀ b o, s.heap.get? b = some o → b ∉ as ∧ b ≠ S := fun b o e => by
    have := Heap.lt_size e
    exact ⟨fun z => absurd (e4 b z) (Nat.not_lt.mpr (Nat.le_of_lt (Nat.lt_of_lt_of_le this hS0))), Nat.ne_of_lt (Nat.lt_of_lt_of_le this hS0)⟩
  have kp : ∀ b u, H b = some u → (putZ (upd H S (.lst (as.map V.ref))) as xs ys) b = some u := fun b u e => by
    rw [off b (fun z => by rw [new b z] at e; cases e) (fun z => by rw [z, newS] at e; cases e)]
    exact e
  have eS : putZ (upd H S (.lst (as.map V.ref))) as xs ys S = some (.lst (as.map V.ref)) := by rw [putZ_off as _ _ _ hSn, upd_same]
  refine ⟨putZ (upd H S (.lst (as.map V.ref))) as xs ys, kp, newS, new, hSn, eS, fun j t e => ?_, ?_⟩
  · obtain ⟨x, y, u, w, q1, q2, _, _, _, q6⟩ := at_ j t e
    exact ⟨x, y, q1, q2, q6⟩
  refine I.call' (ch := []) rfl ⟨fun b o q _ _ _ => hk b o q, fun b o q _ _ _ => ⟨o.slots, hk b o q⟩, fun b o q n _ => ?_, fun b o q _ => ⟨o, hk b o q⟩, fun b xs q => kp b _ q, fun b o u q => kp b _ q, fun b ps q => ⟨#[], by rw [kp b _ q]; simp⟩⟩ (fun b u q => ?_) I.bare fun b z => by simp at z
  · obtain ⟨z1, z2⟩ := low b o q
    rw [off b z1 z2]
    exact n
  · by_cases hb : b ∈ as
    · obtain ⟨j, hj⟩ := List.mem_iff_getElem?.mp hb
      obtain ⟨x, y, u1, w1, q1, q2, q3, q4, q5, q6⟩ := at_ j b hj
      rw [q6] at q
      cases q
      obtain ⟨u', g1, g2⟩ := rx.get q1
      obtain ⟨w', g3, g4⟩ := ry.get q2
      rw [q3] at g1
      cases g1
      rw [q4] at g3
      cases g3
      exact ⟨by show 2 ≤ sizeLine; decide, [u1, w1], .cons g2 (.cons g4 .nil), ⟨_, q5, rfl, _, rfl⟩⟩
    · by_cases hb2 : b = S
      · rw [hb2] at q ⊢
        rw [eS] at q
        cases q
        refine ⟨by rw [List.length_map]; simp at e1; omega, as.map Value.ref, c, vals_refs as, e5⟩
      · rw [off b hb hb2] at q
        exact (I.hok b u q).stay (fun d v _ y => hk d v y) (fun d y => kp d _ y) fun d xs y => kp d _ y
/-- list(zip(a, b)) -/
def tListZip (K : PySem.W.Frag) (ta : TA) : TE := fun σ H Q => ta σ H fun vs H1 => ∃ a b xs ys, vs = [.ref a, .ref b] ∧ SqL K H1 a xs ∧ SqL K H1 b ys ∧
  ∀ (H' : Hp) (p : Addr) (as : List Addr), Ex H1 H' → H1 p = none → (∀ t ∈ as, H1 t = none) → p ∉ as → as.length = min xs.length ys.length → H' p = some (.lst (as.map V.ref)) → (∀ (j : Nat) (t : Addr), as[j]? = some t → ∃ x y, xs[j]? = some x ∧ ys[j]? = some y ∧ H' t = some (.tup [x, y])) → Q (.ref p) H'
theorem pe_listZip {a b : Expr} {ta : TA} {p p2 pos pos2 : Pos} (hc : X.calm = true) (ha : PA X [a, b] ta) (hg : Gl X "list") (hm : X.mg "list" = none) (hg2 : Gl X "zip") (hm2 : X.mg "zip" = none)
    (hs : starEach [.Call (.Name "zip" p2) [a, b] [] pos2] X.env = (false, eval (.Call (.Name "zip" p2) [a, b] [] pos2) X.env) :: starEach [] X.env := by rfl)
    (he : starEach (a :: [b]) X.env = (false, eval a X.env) :: starEach [b] X.env := by rfl) (hpl : (backTo pos2 (starEach [b] X.env)).any (·.1) = false := by rfl) :
    PE X (.Call (.Name "list" p) [.Call (.Name "zip" p2) [a, b] [] pos2] [] pos) (tListZip X.K ta) := by
  refine ⟨fun pins s σ H Q I h => ?_⟩
  refine wpAny_Call_Name_kw (ld_blt (u := .type "list") I hg hm (by decide +kernel) ?_)
  refine PyProof.Rows.callWith_type1 ?_ hs rfl
  rw [hs]
  show wpAny _ _ (spliced ((false, eval (.Call (.Name "zip" p2) [a, b] [] pos2) X.env) :: backTo pos (starEach [] X.env))) _ _ s
  refine Calls.spliced_cons ?_
  refine wpAny_Call_Name_kw (ld_blt (u := .type "zip") I hg2 hm2 (by decide +kernel) ?_)
  refine PyProof.Rows.callWith_type1 (thn (ha.run pos2 pins s σ H _ I h) fun us s1 ⟨vs, H1, I1, r1, aa, bb, xs, ys, e1, hx, hy, q⟩ => ?_) he hpl
  subst e1
  obtain rfl : us = [Value.ref aa, Value.ref bb] := by
    cases r1 with
    | cons p q =>
      cases q with
      | cons p' q' =>
        cases q'
        cases p
        cases p'
        rfl
  obtain ⟨its, rx, lx, zx⟩ := I1.list hx
  obtain ⟨its2, ry, ly, zy⟩ := I1.list hy
  have l1 := lx.isList
  have l2 := ly.isList
  refine call_zip_2 l1 l2 fun h' g1 g2 g3 g4 g5 g6 g7 => ?_
  refine Calls.spliced_nil ?_
  have lt1 : aa < s1.heap.objs.size := let ⟨_, e, _⟩ := l1; Heap.lt_size e
  have lt2 : bb < s1.heap.objs.size := let ⟨_, e, _⟩ := l2; Heap.lt_size e
  have hn : min its.toArray.size its2.toArray.size ≤ sizeLine := by
    rw [List.size_toArray, List.size_toArray, ← rx.length]
    omega
  have ne : ∀ {i j : Nat}, i ≠ j → s1.heap.objs.size + i ≠ s1.heap.objs.size + j := fun h e => h (Nat.add_left_cancel e)
  have le : ∀ {b : Addr} (i : Nat), b < s1.heap.objs.size → b ≠ s1.heap.objs.size + i := fun i h => Nat.ne_of_lt (Nat.lt_of_lt_of_le h (Nat.le_add_right _ _))
  have D : ZipApart (s1.heap.objs.size + 4) (s1.heap.objs.size + 2) (s1.heap.objs.size + 3) (s1.heap.objs.size + 0) (s1.heap.objs.size + 1) aa bb :=
    ⟨ne (by decide), ne (by decide), ne (by decide), ne (by decide), ne (by decide), ne (by decide), ne (by decide), ne (by decide), ne (by decide), ne (by decide), le _ lt1, le _ lt1, le _ lt1, le _ lt1, le _ lt2, le _ lt2, le _ lt2, le _ lt2⟩
  refine ZL.call_list_zip (s := { s1 with heap := h' }) (I1.ok.hd hc) D hn g1 g2 ⟨_, _, g3⟩ g4 g5 (l1.at fun o e => g7 _ _ e) (l2.at fun o e => g7 _ _ e) fun h2 as c' L k => ?_
  have hk : ∀ b o, s1.heap.get? b = some o → h2.get? b = some o := fun b o e => by
    have hb := Heap.lt_size e
    exact k b o (le _ hb) (le _ hb) (le 0 hb) (le _ hb) (g7 b o e)
  obtain ⟨H', x1, x2, x3, x4, x5, x6, J⟩ := zip_laid (tk := s1.toks) I1 rx ry (by show s1.heap.objs.size ≤ h'.objs.size; rw [g6]; omega) zx hk L
  refine ⟨.ref _, H', J, rfl, q H' _ as x1 x2 x3 x4 ?_ x5 x6⟩
  rw [L.1, List.size_toArray, List.size_toArray, ← rx.length, ← ry.length]
end
section
variable {X : Cx} {P : Pr} {pos : Pos} {a b : Expr} {f g : M D}
def zipD : List D → List D → List D
  | x :: xs, y :: ys => .tup [x, y] :: zipD xs ys
  | _, _ => []
def dZip : D → D → Option (List D)
  | .lst xs, .lst ys => some (zipD xs ys)
  | _, _ => none
theorem reps_zip {G : CT} {K : PySem.W.Frag} {H : Hp} : ∀ {ds es : List D} {xs ys : List V} {as : List Addr}, Reps G K H ds xs → Reps G K H es ys → as.length = min xs.length ys.length → (∀ (j : Nat) (t : Addr), as[j]? = some t → ∃ x y, xs[j]? = some x ∧ ys[j]? = some y ∧ H t = some (.tup [x, y])) → Reps G K H (zipD ds es) (as.map V.ref)
  | [], es, xs, ys, as, r1, r2, hl, h => by
    simp only [Reps] at r1
    subst r1
    simp at hl
    subst hl
    simp [zipD, Reps]
  | d :: ds, [], xs, ys, as, r1, r2, hl, h => by
    simp only [Reps] at r2
    subst r2
    simp at hl
    subst hl
    simp [zipD, Reps]
  | d :: ds, e :: es, xs, ys, as, r1, r2, hl, h => by
    simp only [Reps] at r1 r2
    obtain ⟨x, xs', rfl, q1, q2⟩ := r1
    obtain ⟨y, ys', rfl, q3, q4⟩ := r2
    cases as with
    | nil => simp at hl
    | cons t as =>
      obtain ⟨x', y', w1, w2, w3⟩ := h 0 t rfl
      simp at w1 w2
      subst w1 w2
      rw [zipD, List.map_cons]
      refine .cons ?_ (reps_zip q2 q4 (by simp at hl ⊢; omega) fun j t e => by
        obtain ⟨x2, y2, v1, v2, v3⟩ := h (j + 1) t (by simpa using e)
        exact ⟨x2, y2, by simpa using v1, by simpa using v2, v3⟩)
      simp only [Rep]
      exact ⟨t, [x, y], rfl, SqT.of w3, .cons q1 (.one q3)⟩
def mZip (f g : M D) : M (List D) := mBind f fun x => mBind g fun y => mOpt (dZip x y)
theorem dF_zip {p p2 pos2 : Pos} (hc : X.calm = true) (ha : DE X P a f) (hb : DE X P b g) (hg : Gl X "list") (hm : X.mg "list" = none) (hg2 : Gl X "zip") (hm2 : X.mg "zip" = none)
    (h1 : starEach (b :: []) X.env = (false, eval b X.env) :: starEach [] X.env := by rfl)
    (hs : starEach [.Call (.Name "zip" p2) [a, b] [] pos2] X.env = (false, eval (.Call (.Name "zip" p2) [a, b] [] pos2) X.env) :: starEach [] X.env := by rfl)
    (he : starEach (a :: [b]) X.env = (false, eval a X.env) :: starEach [b] X.env := by rfl) (hpl : (backTo pos2 (starEach [b] X.env)).any (·.1) = false := by rfl) :
    DF X P (.Call (.Name "list" p) [.Call (.Name "zip" p2) [a, b] [] pos2] [] pos) (mZip f g) :=
  PE.imp (pe_listZip hc (pa_cons ha (pa_cons hb pa_nil h1) he) hg hm hg2 hm2 hs he hpl) fun σ H Q ⟨O, T, ρ, I, p⟩ => ⟨O, T, ρ, I, Post.bind p fun x ρ1 v H1 I1 e1 r1 p1 => ⟨O, T, ρ1, I1, Post.bind p1 fun y ρ2 u H2 I2 e2 r2 p2 => by
    obtain ⟨ds, hz, p3⟩ := p2.opt
    have r1' := Rep.ex e2 _ _ r1
    cases x <;> first | (cases hz; done) | skip
    rename_i xs
    cases y <;> first | (cases hz; done) | skip
    rename_i ys
    cases hz
    simp only [RE, Rep] at r1' r2
    obtain ⟨a', vs, rfl, w1, w2⟩ := r1'
    obtain ⟨b', us, rfl, w3, w4⟩ := r2
    refine ⟨a', b', vs, us, rfl, SqL.of (hid_some w1).2, SqL.of (hid_some w3).2, fun H' q as ex hq has hqa hl hq2 hp => ?_⟩
    have hH : upd (hid [q] H') q (.lst (as.map V.ref)) = H' := upd_hid hq2
    have ex2 : Ex H2 (hid [q] H') := fun b o e => by
      rw [hid_out (by simp; exact fun z => by rw [z, hq] at e; cases e)]
      exact ex b o e
    have nhz : q ∉ hz T O P.Z := I2.fresh hq
    have rr : Reps P.G X.K (hid (hz T O P.Z) (hid [q] H')) (zipD xs ys) (as.map V.ref) := by
      refine reps_zip (Reps.ex (ex_hid ex2) _ _ w2) (Reps.ex (ex_hid ex2) _ _ w4) hl fun j t e => ?_
      obtain ⟨x, y, z1, z2, z3⟩ := hp j t e
      have ht := List.mem_of_getElem? e
      refine ⟨x, y, z1, z2, ?_⟩
      rw [hid_out (I2.fresh (has t ht)), hid_out (by simp; exact fun z => hqa (by rw [← z]; exact ht))]
      exact z3
    have := p3 (q, as.map V.ref) (hid [q] H') (I2.ex ex2) (ex_hid ex2) ⟨hid_in (by simp), rr⟩
    rw [← hH]
    exact this⟩⟩
end
end Nv
namespace Nv
open PySem PySem.Spec PyProof.Rows L2
section
variable {X : Cx} {P : Pr} {pos : Pos} {e : Expr} {f : M D}
/-! ## repr -/
mutual
theorem py_noDict : ∀ d : D, d.py.hasDict = false
  | .non => by simp only [D.py, PyData.hasDict]
  | .bl _ => by simp only [D.py, PyData.hasDict]
  | .int _ => by simp only [D.py, PyData.hasDict]
  | .str _ => by simp only [D.py, PyData.hasDict]
  | .lst xs => by simp only [D.py, PyData.hasDict]; exact py_noDicts xs
  | .tup xs => by simp only [D.py, PyData.hasDict]; exact py_noDicts xs
  | .ins _ _ => by simp only [D.py, PyData.hasDict]
  | .scr _ => by simp only [D.py, PyData.hasDict]
theorem py_noDicts : ∀ ds : List D, PyData.hasDictAll (D.pyAll ds) = false
  | [] => by simp only [D.pyAll, PyData.hasDictAll]
  | d :: ds => by simp only [D.pyAll, PyData.hasDictAll, py_noDict d, py_noDicts ds, Bool.or_self]
end
def showOk (d : D) : Bool := d.pure && d.py.showable && decide (d.py.shown.length ≤ 1000000) && decide (d.py.depth ≤ 60)
def dRepr (d : D) : Option D := if showOk d then some (.str d.py.shown) else none
def rRepr (K : PySem.W.Frag) : List V → Hp → VK → Prop := fun xs H Q => ∃ x d, xs = [x] ∧ Dp K H x d ∧ d.showable = true ∧ d.hasDict = false ∧ d.shown.length ≤ 1000000 ∧ d.depth ≤ 60 ∧ Q (.str d.shown) H
theorem call_reprD (gd : X.A.guards = some []) (hu : X.A.units + 64 < cLine) : CallR X (.builtin "repr") (rRepr X.K) := by
  intro pins s σ H vs us Q I r h
  obtain ⟨x, d, rfl, hd, hs, hn, hl, hdp, q⟩ := h
  obtain ⟨u, rfl, ru⟩ := r.one
  have hz : d.shown.length ≤ sizeLine := by rw [sizeLine_eq]; omega
  obtain ⟨as, rr⟩ := Dp.reads I d x u hd ru
  cases rr with
  | none => exact PySem.P.repr_of_none ⟨.str _, H, I.tok _, ⟨_, rfl⟩, by simpa only [PyData.shown] using q⟩
  | bool b => exact PySem.P.repr_of_bool ⟨.str _, H, I.tok _, ⟨_, rfl⟩, by simpa only [PyData.shown] using q⟩
  | int i t => exact PySem.P.repr_of_int (by simpa only [PyData.showable, decide_eq_true_eq] using hs) ⟨.str _, H, I.tok _, ⟨_, rfl⟩, by simpa only [PyData.shown] using q⟩
  | str x t => exact PySem.P.repr_of_str (hsz := by simpa only [PyData.shown] using hz) ⟨.str _, H, I.tok _, ⟨_, rfl⟩, by simpa only [PyData.shown] using q⟩
  | list h1 h2 h3 h4 => exact repr_of_reads' (.list h1 h2 h3 h4) hs (fun z => by rw [hn] at z; cases z) gd (by omega) (fun b o e => e) (fun h' u tk hk => ⟨.str _, H, I.kept hk, ⟨_, rfl⟩, q⟩) hz
  | tuple h1 h2 h3 h4 => exact repr_of_reads' (.tuple h1 h2 h3 h4) hs (fun z => by rw [hn] at z; cases z) gd (by omega) (fun b o e => e) (fun h' u tk hk => ⟨.str _, H, I.kept hk, ⟨_, rfl⟩, q⟩) hz
  | dict h1 h2 h3 h4 h5 => simp only [PyData.hasDict] at hn; cases hn
theorem ok_repr : Op1 X P (rRepr X.K) dRepr := by
  intro O T ρ σ H x v z Q I rx hz p
  obtain ⟨h, rfl⟩ := ite_some hz
  unfold showOk at h
  simp only [Bool.and_eq_true, decide_eq_true_eq] at h
  exact ⟨v, x.py, rfl, Rep.dp _ _ h.1.1.1 rx.rep, h.1.1.2, py_noDict x, h.1.2, h.2, p.txt I⟩
end
end Nv

namespace Nv
open PySem PySem.Spec PyProof.Rows L2
/-! ## the rules as a printer of derivations names them -/
theorem io0 {i : Nat} : ∀ p ∈ ([] : List (Nat × Addr)), p.1 ≠ i := fun p h => by simp at h
theorem io1 {i : Nat} {a : Addr} (h : (i == 0) = false := by decide) : ∀ p ∈ [(0, a)], p.1 ≠ i := fun p hp => by
  rw [List.mem_singleton] at hp
  subst hp
  intro z
  have z : 0 = i := z
  subst z
  cases h
theorem ioN0 {vs : List Nat} : ∀ p ∈ ([] : List (Nat × Addr)), p.1 ∉ vs := fun p h => by simp at h
theorem ioN1 {vs : List Nat} {a : Addr} (h : vs.contains 0 = false := by decide) : ∀ p ∈ [(0, a)], p.1 ∉ vs := fun p hp => by
  rw [List.mem_singleton] at hp
  subst hp
  intro z
  rw [List.contains_eq_mem] at h
  simp at h
  exact h z
theorem u64 {k : Nat} {A : Around} (r : Room k A) : A.units + 64 < cLine := by have := r.un; omega
theorem u65 {k : Nat} {A : Around} (r : Room k A) : A.units + 65 < cLine := by have := r.un; omega
section
variable {X : Cx} {P : Pr} {pos p p2 p3 : Pos} {e a b c : Expr} {es : List Expr} {f g : M D}
theorem vis_l {sc : Scope} {x : Str} (h : sc.names.lookup x = some .local) : Vis sc x := .inl h
theorem n_len (hm : X.mg "len" = none) (ha : DB X P e f) (hg : Gl X "len" := by rfl) (hs : starEach (e :: []) X.env = (false, eval e X.env) :: starEach [] X.env := by rfl) (hpl : (backTo pos (starEach [] X.env)).any (·.1) = false := by rfl) : DE X P (.Call (.Name "len" p) [e] [] pos) (mUn dLen f) :=
  dE_callB call_len ok_len hg hm (by decide +kernel) ha (by decide) (by decide) hs hpl
theorem n_all (hc : X.calm = true) (hm : X.mg "all" = none) (ha : DB X P e f) (hg : Gl X "all" := by rfl) (hs : starEach (e :: []) X.env = (false, eval e X.env) :: starEach [] X.env := by rfl) (hpl : (backTo pos (starEach [] X.env)).any (·.1) = false := by rfl) : DE X P (.Call (.Name "all" p) [e] [] pos) (mUn dAll f) :=
  dE_callB (cr_all hc) ok_all hg hm (by decide +kernel) ha (by decide) (by decide) hs hpl
theorem n_any (hc : X.calm = true) (hm : X.mg "any" = none) (ha : DB X P e f) (hg : Gl X "any" := by rfl) (hs : starEach (e :: []) X.env = (false, eval e X.env) :: starEach [] X.env := by rfl) (hpl : (backTo pos (starEach [] X.env)).any (·.1) = false := by rfl) : DE X P (.Call (.Name "any" p) [e] [] pos) (mUn dAny f) :=
  dE_callB (cr_any hc) ok_any hg hm (by decide +kernel) ha (by decide) (by decide) hs hpl
/-- a variable -/
theorem n_var (i : Nat) {x : Str} (hN : X.N[i]? = some x := by rfl) (hv : Vis X.env.scope x := by first | exact .inl rfl | exact .inr (.inl rfl) | exact .inr (.inr rfl)) (hd : (x == ("__debug__" : Str)) = false := by decide) (hcd : (x == ("__classdict__" : Str)) = false := by decide) : DE X P (.Name x pos) (mVar i) := dE_var hN hv hd hcd
theorem n_own (i : Nat) {x : Str} (hN : X.N[i]? = some x := by rfl) (hv : Vis X.env.scope x := by first | exact .inl rfl | exact .inr (.inl rfl) | exact .inr (.inr rfl)) (hd : (x == ("__debug__" : Str)) = false := by decide) (hcd : (x == ("__classdict__" : Str)) = false := by decide) : DB X P (.Name x pos) (mOwn i) := dB_own hN hv hd hcd
theorem n_ixO (i : Nat) {x : Str} (hb : DE X P b g) (hN : X.N[i]? = some x := by rfl) (hv : Vis X.env.scope x := by first | exact .inl rfl | exact .inr (.inl rfl) | exact .inr (.inr rfl)) (hs : PlainIx b := by first | (intro _ _; rfl) | trivial)
    (hd : (x == ("__debug__" : Str)) = false := by decide) (hcd : (x == ("__classdict__" : Str)) = false := by decide) : DE X P (.Subscript (.Name x p2) b pos) (mIxO i g) := dE_ixO hN hv hb hs hd hcd
theorem n_ix (ha : DE X P a f) (hb : DE X P b g) (hs : PlainIx b := by first | (intro _ _; rfl) | trivial) : DE X P (.Subscript a b pos) (mOp dIx f g) := dE_ix ha hb hs
theorem tk0 {X : Cx} {P : Pr} : Tk X P.quiet := fun _ _ x => by
  obtain ⟨_, _, _, _, _, _, _, _, _, _, _, _, _, _, _, _, z⟩ := x
  exact z.elim
theorem tk_cx {Pg : Program} {w : World} {K : PySem.W.Frag} {mg : Str → Option Value} {base : Heap} {N : List Str} {qual : Str} {scope : Scope} {fA : Addr} {cdv : Value} {A : Around} {outer : List PySem.Env} {s : Shared} {H : Hp} {E : XK} {G : CT} {B : Hp} {io : List (Nat × Addr)} {Z : List Addr} :
    Tk (cxOf (L2.CX Pg w) Pg w K mg base N qual scope fA cdv A outer s H E) ⟨G, B, io, Z, E⟩ := takes_of rfl rfl rfl rfl
theorem ps_cx {Pg : Program} {w : World} {K : PySem.W.Frag} {mg : Str → Option Value} {base : Heap} {N : List Str} {qual : Str} {scope : Scope} {fA : Addr} {cdv : Value} {A : Around} {outer : List PySem.Env} {s : Shared} {H : Hp} {E : XK} :
    PassesOwn (model (cxOf (L2.CX Pg w) Pg w K mg base N qual scope fA cdv A outer s H E).prog (cxOf (L2.CX Pg w) Pg w K mg base N qual scope fA cdv A outer s H E).w) (cxOf (L2.CX Pg w) Pg w K mg base N qual scope fA cdv A outer s H E).A (cxOf (L2.CX Pg w) Pg w K mg base N qual scope fA cdv A outer s H E).env (cxOf (L2.CX Pg w) Pg w K mg base N qual scope fA cdv A outer s H E).xe := passes_of rfl
/-- list comprehensions over one name, two names -/
theorem n_lc1 (j : Nat) {y : Str} {py : Pos} {elt iter : Expr} {ifs : List Expr} {scope : Scope} {it : M (List D)} {t : M Bool} (hc : X.calm = true) (hN : X.N.Nodup) (hio : ∀ p ∈ P.io, p.1 ≠ j) (hi : DI X P (.Name y py) iter it)
    (ht : ∀ (s : Shared) (H : Hp) (C : Addr) (cl : List (Str × Addr)) (fp : List Addr), PTs (X.blk s H scope (compEnvC scope cl C X.env) fp) ifs (tTs X.K P.quiet t))
    (he : ∀ (s : Shared) (H : Hp) (C : Addr) (cl : List (Str × Addr)) (fp : List Addr), DE (X.blk s H scope (compEnvC scope cl C X.env) fp) P.quiet elt f) (hj : X.N[j]? = some y := by rfl) (ok : blkC X.N X.env.scope scope [(y, j)] = true := by kernel_rfl)
    (hl : ∀ (s : Shared) (H : Hp) (C : Addr) (cl : List (Str × Addr)) (fp : List Addr), Loc (X.blk s H scope (compEnvC scope cl C X.env) fp).env.scope y := by intro _ _ _ _ _; first | exact .inl rfl | exact .inr rfl)
    (hf : ∀ (s : Shared) (H : Hp) (C : Addr) (cl : List (Str × Addr)) (fp : List Addr), (X.blk s H scope (compEnvC scope cl C X.env) fp).fn y = true ∨ (X.blk s H scope (compEnvC scope cl C X.env) fp).env.scope.names.lookup y = some .local := by intro _ _ _ _ _; first | exact .inl rfl | exact .inr rfl)
    (hs : ∀ x, foldedSetIterable iter X.env x = pure x := by intro _; rfl) :
    DF X P (.ListComp elt [⟨.Name y py, iter, ifs, 0⟩] scope pos) (mLc it [j] (uNm j) t f) :=
  dF_lc (own := [(y, j)]) hc hN (pat_nm (by simp) hio) (fun p hp => by simp; exact hio p hp) hi (blkOk_by ok) (fun s H C cl fp => pg_name hN hj (hl s H C cl fp) (hf s H C cl fp)) ht he hs
theorem n_lc2 (j k : Nat) {y z : Str} {py pz pt : Pos} {kt : Nat} {elt iter : Expr} {ifs : List Expr} {scope : Scope} {it : M (List D)} {t : M Bool} (hc : X.calm = true) (hN : X.N.Nodup) (hio : ∀ p ∈ P.io, p.1 ≠ j) (hko : ∀ p ∈ P.io, p.1 ≠ k) (hi : DI X P (.Tuple [.Name y py, .Name z pz] kt pt) iter it)
    (ht : ∀ (s : Shared) (H : Hp) (C : Addr) (cl : List (Str × Addr)) (fp : List Addr), PTs (X.blk s H scope (compEnvC scope cl C X.env) fp) ifs (tTs X.K P.quiet t))
    (he : ∀ (s : Shared) (H : Hp) (C : Addr) (cl : List (Str × Addr)) (fp : List Addr), DE (X.blk s H scope (compEnvC scope cl C X.env) fp) P.quiet elt f) (hj : X.N[j]? = some y := by rfl) (hk : X.N[k]? = some z := by rfl) (ok : blkC X.N X.env.scope scope [(y, j), (z, k)] = true := by kernel_rfl)
    (hl : ∀ (s : Shared) (H : Hp) (C : Addr) (cl : List (Str × Addr)) (fp : List Addr), Loc (X.blk s H scope (compEnvC scope cl C X.env) fp).env.scope y := by intro _ _ _ _ _; first | exact .inl rfl | exact .inr rfl)
    (hf : ∀ (s : Shared) (H : Hp) (C : Addr) (cl : List (Str × Addr)) (fp : List Addr), (X.blk s H scope (compEnvC scope cl C X.env) fp).fn y = true ∨ (X.blk s H scope (compEnvC scope cl C X.env) fp).env.scope.names.lookup y = some .local := by intro _ _ _ _ _; first | exact .inl rfl | exact .inr rfl)
    (hl2 : ∀ (s : Shared) (H : Hp) (C : Addr) (cl : List (Str × Addr)) (fp : List Addr), Loc (X.blk s H scope (compEnvC scope cl C X.env) fp).env.scope z := by intro _ _ _ _ _; first | exact .inl rfl | exact .inr rfl)
    (hf2 : ∀ (s : Shared) (H : Hp) (C : Addr) (cl : List (Str × Addr)) (fp : List Addr), (X.blk s H scope (compEnvC scope cl C X.env) fp).fn z = true ∨ (X.blk s H scope (compEnvC scope cl C X.env) fp).env.scope.names.lookup z = some .local := by intro _ _ _ _ _; first | exact .inl rfl | exact .inr rfl)
    (h1 : ∀ (s : Shared) (H : Hp) (C : Addr) (cl : List (Str × Addr)) (fp : List Addr), (assignEach [.Name y py, .Name z pz] (X.blk s H scope (compEnvC scope cl C X.env) fp).env).map (·.2) = assign (.Name y py) (X.blk s H scope (compEnvC scope cl C X.env) fp).env :: (assignEach [.Name z pz] (X.blk s H scope (compEnvC scope cl C X.env) fp).env).map (·.2) := by intro _ _ _ _ _; rfl)
    (h2 : ∀ (s : Shared) (H : Hp) (C : Addr) (cl : List (Str × Addr)) (fp : List Addr), (assignEach [.Name z pz] (X.blk s H scope (compEnvC scope cl C X.env) fp).env).map (·.2) = assign (.Name z pz) (X.blk s H scope (compEnvC scope cl C X.env) fp).env :: (assignEach [] (X.blk s H scope (compEnvC scope cl C X.env) fp).env).map (·.2) := by intro _ _ _ _ _; rfl)
    (h3 : ∀ (s : Shared) (H : Hp) (C : Addr) (cl : List (Str × Addr)) (fp : List Addr), (assignEach [.Name y py, .Name z pz] (X.blk s H scope (compEnvC scope cl C X.env) fp).env).length = 2 := by intro _ _ _ _ _; rfl)
    (h4 : ∀ (s : Shared) (H : Hp) (C : Addr) (cl : List (Str × Addr)) (fp : List Addr), (assignEach [.Name y py, .Name z pz] (X.blk s H scope (compEnvC scope cl C X.env) fp).env).findIdx? (·.1) = none := by intro _ _ _ _ _; rfl)
    (hs : ∀ x, foldedSetIterable iter X.env x = pure x := by intro _; rfl) :
    DF X P (.ListComp elt [⟨.Tuple [.Name y py, .Name z pz] kt pt, iter, ifs, 0⟩] scope pos) (mLc it [j, k] (uTp j k) t f) :=
  dF_lc (own := [(y, j), (z, k)]) hc hN (pat_tp (by simp) (by simp) hio hko) (fun p hp => by simp; exact ⟨hio p hp, hko p hp⟩) hi (blkOk_by ok)
    (fun s H C cl fp => pg_tup hc (pgs_cons (pg_name hN hj (hl s H C cl fp) (hf s H C cl fp)) (pgs_cons (pg_name hN hk (hl2 s H C cl fp) (hf2 s H C cl fp)) pgs_nil (h2 s H C cl fp)) (h1 s H C cl fp)) (h3 s H C cl fp) (h4 s H C cl fp)) ht he hs
/-- the same, given a name: the list is shared -/
theorem n_setLc (i j : Nat) {x y : Str} {px py : Pos} {elt iter : Expr} {ifs : List Expr} {scope : Scope} {it : M (List D)} {t : M Bool} {spos : Pos} (hc : X.calm = true) (hN : X.N.Nodup) (hoi : ∀ p ∈ P.io, p.1 ≠ i) (hio : ∀ p ∈ P.io, p.1 ≠ j) (hi : DI X P (.Name y py) iter it)
    (ht : ∀ (s : Shared) (H : Hp) (C : Addr) (cl : List (Str × Addr)) (fp : List Addr), PTs (X.blk s H scope (compEnvC scope cl C X.env) fp) ifs (tTs X.K P.quiet t))
    (he : ∀ (s : Shared) (H : Hp) (C : Addr) (cl : List (Str × Addr)) (fp : List Addr), DE (X.blk s H scope (compEnvC scope cl C X.env) fp) P.quiet elt f) (hy : X.N[i]? = some x := by rfl) (hyl : X.env.scope.names.lookup x = some .local := by rfl) (hj : X.N[j]? = some y := by rfl) (ok : blkC X.N X.env.scope scope [(y, j)] = true := by kernel_rfl)
    (hsw : swapsWith (.ListComp elt [⟨.Name y py, iter, ifs, 0⟩] scope pos) (some (.Name x px)) spos.line X.env = pure true := by rfl)
    (hl : ∀ (s : Shared) (H : Hp) (C : Addr) (cl : List (Str × Addr)) (fp : List Addr), Loc (X.blk s H scope (compEnvC scope cl C X.env) fp).env.scope y := by intro _ _ _ _ _; first | exact .inl rfl | exact .inr rfl)
    (hf : ∀ (s : Shared) (H : Hp) (C : Addr) (cl : List (Str × Addr)) (fp : List Addr), (X.blk s H scope (compEnvC scope cl C X.env) fp).fn y = true ∨ (X.blk s H scope (compEnvC scope cl C X.env) fp).env.scope.names.lookup y = some .local := by intro _ _ _ _ _; first | exact .inl rfl | exact .inr rfl)
    (hs : ∀ x, foldedSetIterable iter X.env x = pure x := by intro _; rfl) :
    DS X P (.Assign [.Name x px] (.ListComp elt [⟨.Name y py, iter, ifs, 0⟩] scope pos) spos) (mSetF i (mLc it [j] (uNm j) t f)) :=
  dS_setLc (own := [(y, j)]) hc hN hy hyl hoi hsw (pat_nm (by simp) hio) (fun p hp => by simp; exact hio p hp) hi (blkOk_by ok) (fun s H C cl fp => pg_name hN hj (hl s H C cl fp) (hf s H C cl fp)) ht he hs
theorem n_setLcV (i j : Nat) {x y : Str} {px py : Pos} {elt iter : Expr} {ifs : List Expr} {scope : Scope} {it : M (List D)} {t : M Bool} {spos : Pos} (hc : X.calm = true) (hN : X.N.Nodup) (hoi : ∀ p ∈ P.io, p.1 ≠ i) (hio : ∀ p ∈ P.io, p.1 ≠ j) (hi : DI X P (.Name y py) iter it)
    (ht : ∀ (s : Shared) (H : Hp) (C : Addr) (cl : List (Str × Addr)) (fp : List Addr), PTs (X.blk s H scope (compEnvC scope cl C X.env) fp) ifs (tTs X.K P.quiet t))
    (he : ∀ (s : Shared) (H : Hp) (C : Addr) (cl : List (Str × Addr)) (fp : List Addr), DE (X.blk s H scope (compEnvC scope cl C X.env) fp) P.quiet elt f) (hy : X.N[i]? = some x := by rfl) (hyl : X.env.scope.names.lookup x = some .local := by rfl) (hj : X.N[j]? = some y := by rfl) (ok : blkC X.N X.env.scope scope [(y, j)] = true := by kernel_rfl)
    (hsw : swapsWith (.ListComp elt [⟨.Name y py, iter, ifs, 0⟩] scope pos) (some (.Name x px)) spos.line X.env = pure true := by rfl)
    (hl : ∀ (s : Shared) (H : Hp) (C : Addr) (cl : List (Str × Addr)) (fp : List Addr), Loc (X.blk s H scope (compEnvC scope cl C X.env) fp).env.scope y := by intro _ _ _ _ _; first | exact .inl rfl | exact .inr rfl)
    (hf : ∀ (s : Shared) (H : Hp) (C : Addr) (cl : List (Str × Addr)) (fp : List Addr), (X.blk s H scope (compEnvC scope cl C X.env) fp).fn y = true ∨ (X.blk s H scope (compEnvC scope cl C X.env) fp).env.scope.names.lookup y = some .local := by intro _ _ _ _ _; first | exact .inl rfl | exact .inr rfl)
    (hs : ∀ x, foldedSetIterable iter X.env x = pure x := by intro _; rfl) :
    DS X P (.Assign [.Name x px] (.ListComp elt [⟨.Name y py, iter, ifs, 0⟩] scope pos) spos) (mSet i (mLst (mLc it [j] (uNm j) t f))) :=
  PS.imp (ps_setLc hc hN hy hyl hsw hi (blkOk_by (own := [(y, j)]) ok) (fun s H C cl fp => pg_name hN hj (hl s H C cl fp) (hf s H C cl fp)) ht he hs) fun E σ H ⟨O, ρ, I, p⟩ => tLc_ok (pat_nm (by simp) hio) (fun p hp => by simp; exact hio p hp) (tM0 I (by
    have q : Post X.K P (RE X.K P) O [] σ H (mLst (mLc it [j] (uNm j) t f) ρ) (fun v H1 => E.nx (σ.set i (some v)) H1) := SPost.bind p fun d ρ' v H1 I1 b1 r1 p1 => p1 O _ H1 (I1.set r1 hoi) (Evl.Ex.refl _)
    exact Post.bind q fun ds ρ1 pv H1 I1 e1 r1 p1 => p1.lst I1 r1.1 r1.2))
/-! ### more of them -/
def dNeg : D → Option D
  | .int i => some (.int (-i))
  | _ => none
theorem n_neg (ha : DE X P e f) : DE X P (.UnaryOp .USub e pos) (mUn dNeg f) := PE.imp (pe_un un_neg ha) fun σ H Q ⟨O, T, ρ, I, p⟩ => ⟨O, T, ρ, I, Post.bind p fun x ρ1 v H1 I1 e1 r1 p1 => by
  obtain ⟨z, hz, p2⟩ := p1.opt
  cases x <;> first | (cases hz; done) | skip
  simp only [RE, Rep] at r1
  cases hz
  exact ⟨_, r1, p2.int I1⟩⟩
theorem n_pop (i : Nat) {y : Str} {py apos cpos : Pos} (ha : DE X P e f) (hN : X.N[i]? = some y := by rfl) (hv : Vis X.env.scope y := by first | exact .inl rfl | exact .inr (.inl rfl) | exact .inr (.inr rfl)) (hd : (y == ("__debug__" : Str)) = false := by decide) (hcd : (y == ("__classdict__" : Str)) = false := by decide)
    (hbase : attributeBase (.Name y py) "pop" X.env (eval (.Name y py) X.env) = eval (.Name y py) X.env := by rfl)
    (hfew : ((backTo cpos (starEach (e :: []) X.env)).all (fun x => !x.1) && (backToKw cpos (keywordEach [] X.env)).all (fun x => x.1.isSome) && decide ((e :: []).length + ([] : List Keyword).length + (if ([] : List Keyword).isEmpty then 0 else 1) < 30)) = true := by rfl)
    (hline : (apos.endLine == cpos.line) = true := by rfl) (hs : starEach (e :: []) X.env = (false, eval e X.env) :: starEach [] X.env := by rfl) (hplain : (backTo cpos (starEach [] X.env)).any (·.1) = false := by rfl) :
    DE X P (.Call (.Attribute (.Name y py) "pop" apos) [e] [] cpos) (mPop i f) := dE_pop hN hv ha hd hcd hbase hfew hline hs hplain
theorem n_app (i : Nat) {y : Str} {py apos cpos : Pos} (ha : DE X P e f) (hN : X.N[i]? = some y := by rfl) (hv : Vis X.env.scope y := by first | exact .inl rfl | exact .inr (.inl rfl) | exact .inr (.inr rfl)) (hd : (y == ("__debug__" : Str)) = false := by decide) (hcd : (y == ("__classdict__" : Str)) = false := by decide)
    (hbase : attributeBase (.Name y py) "append" X.env (eval (.Name y py) X.env) = eval (.Name y py) X.env := by rfl)
    (hfew : ((backTo cpos (starEach (e :: []) X.env)).all (fun x => !x.1) && (backToKw cpos (keywordEach [] X.env)).all (fun x => x.1.isSome) && decide ((e :: []).length + ([] : List Keyword).length + (if ([] : List Keyword).isEmpty then 0 else 1) < 30)) = true := by rfl)
    (hline : (apos.endLine == cpos.line) = true := by rfl) (hs : starEach (e :: []) X.env = (false, eval e X.env) :: starEach [] X.env := by rfl) (hplain : (backTo cpos (starEach [] X.env)).any (·.1) = false := by rfl) :
    DE X P (.Call (.Attribute (.Name y py) "append" apos) [e] [] cpos) (mApp i f) := dE_app hN hv ha hd hcd hbase hfew hline hs hplain
theorem n_callI {k fA : Nat} {fd : FuncData} {ps : List Str} {n : Nat} (i : Nat) {m : D → List D → FI} {x y : Str} {pp py : Pos} {as : M (List D)} (F : Fn X.prog X.w X.K X.mg X.base (L2.CX X.prog X.w) k fA fd ps (spI P.G X.K n m)) (hr : Room k X.A) (gd : X.A.guards = some []) (tk : Tk X P) (hm : X.mg x = some (.ref fA)) (hk : PySem.W.keepIn X.K (.ref fA) = true)
    (hb : Binds X.K fd ps []) (ha : DA X P es as) (hg : Gl X x := by rfl) (hN : X.N[i]? = some y := by rfl) (hv : Vis X.env.scope y := by first | exact .inl rfl | exact .inr (.inl rfl) | exact .inr (.inr rfl)) (hdb : (x == ("__debug__" : Str)) = false := by decide) (hd : (y == ("__debug__" : Str)) = false := by decide) (hcd : (y == ("__classdict__" : Str)) = false := by decide)
    (he : starEach (.Name y py :: es) X.env = (false, eval (.Name y py) X.env) :: starEach es X.env := by rfl) (hpl : (backTo pos (starEach es X.env)).any (·.1) = false := by rfl) :
    DE X P (.Call (.Name x pp) (.Name y py :: es) [] pos) (mCallI i n m as) := dE_callI F hr gd tk hg hm hk hb hN hv ha hdb hd hcd he hpl
theorem n_retO (i : Nat) {x : Str} {p1 : Pos} (hio : ∀ p ∈ P.io, p.1 ≠ i) (hN : X.N[i]? = some x := by rfl) (hv : Vis X.env.scope x := by first | exact .inl rfl | exact .inr (.inl rfl) | exact .inr (.inr rfl)) (hd : (x == ("__debug__" : Str)) = false := by decide) (hcd : (x == ("__classdict__" : Str)) = false := by decide) : DS X P (.Return (some (.Name x p1)) pos) (mRtO i) :=
  dS_retO hN hv (fun P' h => by subst h; exact hio) hd hcd
theorem n_set (i : Nat) {x : Str} {pos' : Pos} (hN : X.N.Nodup) (hio : ∀ p ∈ P.io, p.1 ≠ i) (he : DE X P e f) (hi : X.N[i]? = some x := by rfl) (hx : Loc X.env.scope x := by first | exact .inl rfl | exact .inr rfl) (hs : swapsWith e (some (.Name x pos')) pos.line X.env = pure false := by rfl) (hf : X.fn x = true ∨ X.env.scope.names.lookup x = some .local := by first | exact .inl rfl | exact .inr rfl) :
    DS X P (.Assign [.Name x pos'] e pos) (mSet i f) := dS_set hN hi hx hio he hs hf
theorem n_setF (i : Nat) {x : Str} {pos' : Pos} {f : M (List D)} (hN : X.N.Nodup) (hio : ∀ p ∈ P.io, p.1 ≠ i) (he : DF X P e f) (hi : X.N[i]? = some x := by rfl) (hx : Loc X.env.scope x := by first | exact .inl rfl | exact .inr rfl) (hs : swapsWith e (some (.Name x pos')) pos.line X.env = pure false := by rfl) (hf : X.fn x = true ∨ X.env.scope.names.lookup x = some .local := by first | exact .inl rfl | exact .inr rfl) :
    DS X P (.Assign [.Name x pos'] e pos) (mSetF i f) := dS_setF hN hi hx hio he hs hf
theorem n_gname (i : Nat) {x : Str} (hN : X.N.Nodup) (hio : ∀ p ∈ P.io, p.1 ≠ i) (hi : X.N[i]? = some x := by rfl) (hx : Loc X.env.scope x := by first | exact .inl rfl | exact .inr rfl) (hf : X.fn x = true ∨ X.env.scope.names.lookup x = some .local := by first | exact .inl rfl | exact .inr rfl) : DG X P (.Name x pos) (gNm i) := dG_name hN hi hx hio hf
theorem n_gsub (i : Nat) {x : Str} {p1 : Pos} {ie : Expr} {f : M D} (hb : DE X P ie f) (hN : X.N[i]? = some x := by rfl) (hv : Vis X.env.scope x := by first | exact .inl rfl | exact .inr (.inl rfl) | exact .inr (.inr rfl))
    (ha : ∀ v, assign (.Subscript (.Name x p1) ie pos) X.env v = (do
      let ov ← holding [v] (eval (.Name x p1) X.env)
      let iv ← holding [v, ov] (eval ie X.env)
      standAt pos
      holding [v, ov, iv] (setItem ov iv v)
      release [v, ov, iv] []) := by intro _; rfl) (hd : (x == ("__debug__" : Str)) = false := by decide) (hcd : (x == ("__classdict__" : Str)) = false := by decide) : DG X P (.Subscript (.Name x p1) ie pos) (gIx i f) := dG_sub hN hv hb ha hd hcd
theorem n_parVV (i j : Nat) {x y : Str} {px py pt : Pos} {kt k2} {pt2 : Pos} {f : M D} {g : M D} (hN : X.N.Nodup) (hio : ∀ p ∈ P.io, p.1 ≠ i) (hjo : ∀ p ∈ P.io, p.1 ≠ j) (ha : DE X P a f) (hb : DE X P b g) (hc : X.calm = true := by rfl) (hi : X.N[i]? = some x := by rfl) (hj : X.N[j]? = some y := by rfl) (hij : i ≠ j := by decide)
    (hx : X.env.scope.names.lookup x = some .local := by rfl) (hy : X.env.scope.names.lookup y = some .local := by rfl) (h1 : starEach (a :: [b]) X.env = (false, eval a X.env) :: starEach [b] X.env := by rfl) (h2 : starEach (b :: []) X.env = (false, eval b X.env) :: starEach [] X.env := by rfl)
    (hw : swappedStores [.Tuple [.Name x px, .Name y py] kt pt] (.Tuple [a, b] k2 pt2) X.env = pure (some [x, y]) := by rfl)
    (hs : swapsWithSole [.Tuple [.Name x px, .Name y py] kt pt] (.Tuple [a, b] k2 pt2) pos.line X.env = pure false := by rfl) :
    DS X P (.Assign [.Tuple [.Name x px, .Name y py] kt pt] (.Tuple [a, b] k2 pt2) pos) (mParVV i j f g) := dS_parVV hc hN hi hj hij hx hy hio hjo ha hb h1 h2 hw hs
theorem n_parFF (i j : Nat) {x y : Str} {px py pt : Pos} {kt k2} {pt2 : Pos} {f : M (List D)} {g : M (List D)} (hN : X.N.Nodup) (hio : ∀ p ∈ P.io, p.1 ≠ i) (hjo : ∀ p ∈ P.io, p.1 ≠ j) (ha : DF X P a f) (hb : DF X P b g) (hc : X.calm = true := by rfl) (hi : X.N[i]? = some x := by rfl) (hj : X.N[j]? = some y := by rfl) (hij : i ≠ j := by decide)
    (hx : X.env.scope.names.lookup x = some .local := by rfl) (hy : X.env.scope.names.lookup y = some .local := by rfl) (h1 : starEach (a :: [b]) X.env = (false, eval a X.env) :: starEach [b] X.env := by rfl) (h2 : starEach (b :: []) X.env = (false, eval b X.env) :: starEach [] X.env := by rfl)
    (hw : swappedStores [.Tuple [.Name x px, .Name y py] kt pt] (.Tuple [a, b] k2 pt2) X.env = pure (some [x, y]) := by rfl)
    (hs : swapsWithSole [.Tuple [.Name x px, .Name y py] kt pt] (.Tuple [a, b] k2 pt2) pos.line X.env = pure false := by rfl) :
    DS X P (.Assign [.Tuple [.Name x px, .Name y py] kt pt] (.Tuple [a, b] k2 pt2) pos) (mParFF i j f g) := dS_parFF hc hN hi hj hij hx hy hio hjo ha hb h1 h2 hw hs
theorem n_parFV (i j : Nat) {x y : Str} {px py pt : Pos} {kt k2} {pt2 : Pos} {f : M (List D)} {g : M D} (hN : X.N.Nodup) (hio : ∀ p ∈ P.io, p.1 ≠ i) (hjo : ∀ p ∈ P.io, p.1 ≠ j) (ha : DF X P a f) (hb : DE X P b g) (hc : X.calm = true := by rfl) (hi : X.N[i]? = some x := by rfl) (hj : X.N[j]? = some y := by rfl) (hij : i ≠ j := by decide)
    (hx : X.env.scope.names.lookup x = some .local := by rfl) (hy : X.env.scope.names.lookup y = some .local := by rfl) (h1 : starEach (a :: [b]) X.env = (false, eval a X.env) :: starEach [b] X.env := by rfl) (h2 : starEach (b :: []) X.env = (false, eval b X.env) :: starEach [] X.env := by rfl)
    (hw : swappedStores [.Tuple [.Name x px, .Name y py] kt pt] (.Tuple [a, b] k2 pt2) X.env = pure (some [x, y]) := by rfl)
    (hs : swapsWithSole [.Tuple [.Name x px, .Name y py] kt pt] (.Tuple [a, b] k2 pt2) pos.line X.env = pure false := by rfl) :
    DS X P (.Assign [.Tuple [.Name x px, .Name y py] kt pt] (.Tuple [a, b] k2 pt2) pos) (mParFV i j f g) := dS_parFV hc hN hi hj hij hx hy hio hjo ha hb h1 h2 hw hs
theorem n_parVF (i j : Nat) {x y : Str} {px py pt : Pos} {kt k2} {pt2 : Pos} {f : M D} {g : M (List D)} (hN : X.N.Nodup) (hio : ∀ p ∈ P.io, p.1 ≠ i) (hjo : ∀ p ∈ P.io, p.1 ≠ j) (ha : DE X P a f) (hb : DF X P b g) (hc : X.calm = true := by rfl) (hi : X.N[i]? = some x := by rfl) (hj : X.N[j]? = some y := by rfl) (hij : i ≠ j := by decide)
    (hx : X.env.scope.names.lookup x = some .local := by rfl) (hy : X.env.scope.names.lookup y = some .local := by rfl) (h1 : starEach (a :: [b]) X.env = (false, eval a X.env) :: starEach [b] X.env := by rfl) (h2 : starEach (b :: []) X.env = (false, eval b X.env) :: starEach [] X.env := by rfl)
    (hw : swappedStores [.Tuple [.Name x px, .Name y py] kt pt] (.Tuple [a, b] k2 pt2) X.env = pure (some [x, y]) := by rfl)
    (hs : swapsWithSole [.Tuple [.Name x px, .Name y py] kt pt] (.Tuple [a, b] k2 pt2) pos.line X.env = pure false := by rfl) :
    DS X P (.Assign [.Tuple [.Name x px, .Name y py] kt pt] (.Tuple [a, b] k2 pt2) pos) (mParVF i j f g) := dS_parVF hc hN hi hj hij hx hy hio hjo ha hb h1 h2 hw hs
theorem n_fldO (i : Nat) {c c' : Nat} {j : Option Nat} {x fl : Str} {p1 p2 : Pos} (cl : Cls X.K (P.G.adr c)) (na : NoAttr X.K (P.G.adr c) fl) (hadr : P.G.adr c' = P.G.adr c) (hle : (P.G.flds c).length < 1000)
    (hup : ∀ (vs : List V) (y : V), (P.G.flds c).length = vs.length → putF fl y ((P.G.flds c).zip vs) = (P.G.flds c').zip (upd1 j vs y) ∧ (P.G.flds c').length = (upd1 j vs y).length) (ha : DE X P e f) (hN : X.N[i]? = some x := by rfl) (hv : Vis X.env.scope x := by first | exact .inl rfl | exact .inr (.inl rfl) | exact .inr (.inr rfl)) (hd : (x == ("__debug__" : Str)) = false := by decide) (hcd : (x == ("__classdict__" : Str)) = false := by decide)
    (hs : swapsWith e (some (.Attribute (.Name x p1) fl p2)) pos.line X.env = pure false := by rfl) : DS X P (.Assign [.Attribute (.Name x p1) fl p2] e pos) (mFldO i c c' j f) := dS_fldO hN hv cl na hadr hle hup ha hd hcd hs
/-- a def that hands back a new list -/
def mCallF (n : Nat) (m : List D → Option (List D)) (as : M (List D)) : M (List D) := mBind as fun ds => mOpt (if ds.length = n then m ds else none)
theorem dF_call {k fA : Nat} {fd : FuncData} {ps : List Str} {n : Nat} {m : List D → Option (List D)} {x : Str} {pp : Pos} {as : M (List D)} (F : Fn X.prog X.w X.K X.mg X.base (L2.CX X.prog X.w) k fA fd ps (spF P.G X.K n m)) (hr : Room k X.A) (gd : X.A.guards = some []) (tk : Tk X P) (hg : Gl X x) (hm : X.mg x = some (.ref fA)) (hk : PySem.W.keepIn X.K (.ref fA) = true)
    (hb : Binds X.K fd ps []) (ha : DA X P (e :: es) as) (hdb : (x == ("__debug__" : Str)) = false := by decide) (he : starEach (e :: es) X.env = (false, eval e X.env) :: starEach es X.env := by rfl) (hpl : (backTo pos (starEach es X.env)).any (·.1) = false := by rfl) :
    DF X P (.Call (.Name x pp) (e :: es) [] pos) (mCallF n m as) :=
  PE.imp (pe_callG F hr gd hg hm hk hb tk.pass ha hdb he hpl) fun σ H Q ⟨O, T, ρ, I, p⟩ => ⟨O, T, ρ, I, Post.bind p fun ds ρ' vs H1 I1 e1 r1 p1 => by
    obtain ⟨xs, hz, p2⟩ := p1.opt
    obtain ⟨hn, hz⟩ := ite_some2 hz
    exact ⟨Nv.hz T O P.Z, ds, hn, I1.live, r1, xs, hz, fun q ws H' ex hq rr => p2 (q, ws) H' (I1.ex ex) (ex_hid ex) ⟨hq, rr⟩⟩⟩
/-- is it an object of the class of number c -/
def qCls (c : Nat) : D → Option Bool
  | .ins c' _ => if c' = c then some true else none
  | .non | .bl _ | .int _ | .str _ | .lst _ | .tup _ => some false
  | _ => none
/-- what the head tells of an own class: its objects' type -/
structure InsTy (K : PySem.W.Frag) (C : Addr) : Prop where
  cl : Cls K C
  ha : PySem.W.findIn K (.ref C) "__class__" = some (some (.builtin "object.__class__"))
  hn : PySem.W.specialIn K (.builtin "object.__class__") "__get__" = some (some (.builtin "getset_descriptor.__get__"))
  htk : PySem.W.takesIn K (.builtin "object.__class__") = some true
  hm : PySem.W.mroIn K C (.type "object") = some true
  self : PySem.W.kitOne K (.ref C) (.ref C) = some true
  base : ∀ n ∈ ["NoneType", "bool", "int", "str", "list", "tuple"], PySem.W.kitOne K (.type n) (.ref C) = some false
theorem qCls_ok {K : PySem.W.Frag} {G : CT} {c : Nat} (h : InsTy K (G.adr c)) : IsOk K G (.ref (G.adr c)) (qCls c) := by
  intro H d v b r q
  cases d with
  | ins c' ds =>
    obtain ⟨q1, q2⟩ := ite_some (show (if c' = c then some true else none) = some b from q)
    subst q1
    subst q2
    simp only [Rep] at r
    obtain ⟨a, dx, vs, rfl, h1, _⟩ := r
    exact ⟨_, .base (.ins h1 h.cl h.ha h.hn h.htk h.hm), h.self⟩
  | scr ns => cases q
  | non => cases q; exact ⟨_, tyName_ok r rfl, h.base _ (by simp)⟩
  | bl x => cases q; exact ⟨_, tyName_ok r rfl, h.base _ (by simp)⟩
  | int x => cases q; exact ⟨_, tyName_ok r rfl, h.base _ (by simp)⟩
  | str x => cases q; exact ⟨_, tyName_ok r rfl, h.base _ (by simp)⟩
  | lst x => cases q; exact ⟨_, tyName_ok r rfl, h.base _ (by simp)⟩
  | tup x => cases q; exact ⟨_, tyName_ok r rfl, h.base _ (by simp)⟩
end
/-! ### callees, as a def's derivation takes them -/
section
variable (Pg : Program) (w : World) (K : PySem.W.Frag) (mg : Str → Option Value) (base : Heap)
structure Cal (x : Str) (k : Nat) (a : Addr) (fd : FuncData) (ps : List Str) (sp : Sp) : Prop where
  F : Fn Pg w K mg base (L2.CX Pg w) k a fd ps sp
  g : mg x = some (.ref a)
  kp : PySem.W.keepIn K (.ref a) = true
  b : Binds K fd ps []
structure Met (C : Addr) (nm : Str) (k : Nat) (a : Addr) (fd : FuncData) (ps : List Str) (sp : Sp) : Prop where
  F : Fn Pg w K mg base (L2.CX Pg w) k a fd ps sp
  M : Meth K C nm a
  B : Binds K fd ps []
  ty : PySem.W.typeIn K (.ref a) = some (.type "function")
structure Prp (C : Addr) (nm : Str) (k : Nat) (p a : Addr) (fd : FuncData) (ps : List Str) (sp : Sp) : Prop where
  F : Fn Pg w K mg base (L2.CX Pg w) k a fd ps sp
  P : PropOf K C nm p a
  B : Binds K fd ps []
structure Ini (C : Addr) (k : Nat) (a : Addr) (fd : FuncData) (ps : List Str) (sp : Sp) : Prop where
  F : Fn Pg w K mg base (L2.CX Pg w) k a fd ps sp
  M : Mk K C a
  B : Binds K fd ps []
end
/-- one own class at C with the fields fs (number 1), without any yet (number 0), exceptions beyond -/
def GL (C : Addr) (fs : List Str) : CT := ⟨fun _ => C, fun n => if n = 0 then [] else fs⟩
end Nv

namespace Nv
open PySem PySem.Spec PyProof.Rows L2
/-! ## the head: defs, properties' getters, own classes -/
open He (ga ma fAd eqO eqO_ok ba)
/-- a property's object and its getter -/
def prA (K : PySem.W.Frag) (p : Str × Option Str) : Addr × Addr := match p.2 with
  | none => (0, 0)
  | some m => (ma K (ga K p.1) m, match PySem.W.recIn K (ma K (ga K p.1) m) "property" with
    | some (.ref g :: _) => g
    | _ => 0)
def prB (K : PySem.W.Frag) (p : Str × Option Str) : Bool := match p.2 with
  | none => false
  | some m => eqO (PySem.W.findIn K (.ref (ga K p.1)) m) (some (some (.ref (prA K p).1))) && (eqO (PySem.W.specialIn K (.ref (prA K p).1) "__get__") (some (some (.builtin "property.__get__"))) && (decide (PySem.W.takesIn K (.ref (prA K p).1) = some true) && (match PySem.W.recIn K (prA K p).1 "property" with
    | some (.ref g :: _) => decide (g = (prA K p).2)
    | _ => false)))
theorem prB_ok {K : PySem.W.Frag} {c m : Str} (h : prB K (c, some m) = true) : PropOf K (ga K c) m (prA K (c, some m)).1 (prA K (c, some m)).2 := by
  have h' : (eqO (PySem.W.findIn K (.ref (ga K c)) m) (some (some (.ref (prA K (c, some m)).1))) && (eqO (PySem.W.specialIn K (.ref (prA K (c, some m)).1) "__get__") (some (some (.builtin "property.__get__"))) && (decide (PySem.W.takesIn K (.ref (prA K (c, some m)).1) = some true) && (match PySem.W.recIn K (prA K (c, some m)).1 "property" with
    | some (.ref g :: _) => decide (g = (prA K (c, some m)).2)
    | _ => false)))) = true := h
  obtain ⟨h1, h2⟩ := ba h'
  obtain ⟨h3, h4⟩ := ba h2
  obtain ⟨h5, h6⟩ := ba h4
  refine ⟨eqO_ok h1, eqO_ok h3, of_decide_eq_true h5, ?_⟩
  split at h6
  · rename_i g rest e
    have := of_decide_eq_true h6
    rw [this] at e
    exact ⟨rest, e⟩
  · cases h6
def fnA (K : PySem.W.Frag) (a : Addr) : He.FnW := match K.lookup a with
  | some ⟨_, _, .func fd, _⟩ => some (fd.name, fd.qualname, fd.params, fd.body, fd.scope, fd.globals, fd.closure, fd.builtins)
  | _ => none
def okA (K : PySem.W.Frag) (a : Addr) (q : Str) : Bool := PySem.W.keepIn K (.ref a) && (match K.lookup a with
  | some ⟨_, _, .func fd, _⟩ => PySem.W.codeIn K fd.code q && (He.dflB K fd.defaults [] && He.kwdB K fd.kwdefaults [])
  | _ => false)
theorem funA {K : PySem.W.Frag} {a : Addr} {d : He.DefD} (e : fnA K a = d.val) (c : okA K a d.qual = true) : ∃ fd, FunD K d.name d.qual d.params d.body d.scope [] [] a fd := by
  obtain ⟨kp, c2⟩ := ba c
  unfold fnA at e
  cases q : K.lookup a with
  | none =>
    rw [q] at c2
    cases c2
  | some o =>
    obtain ⟨oc, od, dt, osl⟩ := o
    rw [q] at c2 e
    cases dt with
    | func fd =>
      obtain ⟨n1, n2, n3, n4, n5, n6, n7, n8, n9, n10, n11, n12, n13, n14, n15⟩ := fd
      have e2 : (some (n1, n2, n3, n4, n5, n6, n7, n15) : He.FnW) = some (d.name, d.qual, d.params, .stmts d.body, d.scope, mainGlobals, [], builtinsNs) := e
      simp only [Option.some.injEq, Prod.mk.injEq] at e2
      obtain ⟨h1, h2, h3, h4, h5, h6, h7, h8⟩ := e2
      subst h1 h2 h3 h4 h5 h6 h7 h8
      have c3 : (PySem.W.codeIn K n13 d.qual && (He.dflB K n8 [] && He.kwdB K n9 [])) = true := c2
      obtain ⟨k1, k2⟩ := ba c3
      obtain ⟨k3, k4⟩ := ba k2
      exact ⟨_, ⟨oc, od, n8, n9, n10, n11, n12, n13, n14, osl, rfl, q, k1, He.dflB_ok k3, He.kwdB_ok k4⟩, kp⟩
    | _ => cases c2
def insB (K : PySem.W.Frag) (C : Addr) : Bool := eqO (PySem.W.findIn K (.ref C) "__class__") (some (some (.builtin "object.__class__"))) && (eqO (PySem.W.specialIn K (.builtin "object.__class__") "__get__") (some (some (.builtin "getset_descriptor.__get__"))) &&
  (decide (PySem.W.takesIn K (.builtin "object.__class__") = some true) && (decide (PySem.W.mroIn K C (.type "object") = some true) && (decide (PySem.W.kitOne K (.ref C) (.ref C) = some true) && (["NoneType", "bool", "int", "str", "list", "tuple"].all fun n => decide (PySem.W.kitOne K (.type n) (.ref C) = some false))))))
theorem insB_ok {K : PySem.W.Frag} {C : Addr} (cl : Cls K C) (h : insB K C = true) : InsTy K C := by
  obtain ⟨h1, h⟩ := ba h
  obtain ⟨h2, h⟩ := ba h
  obtain ⟨h3, h⟩ := ba h
  obtain ⟨h4, h⟩ := ba h
  obtain ⟨h5, h6⟩ := ba h
  exact ⟨cl, eqO_ok h1, eqO_ok h2, of_decide_eq_true h3, of_decide_eq_true h4, of_decide_eq_true h5, fun n hn => of_decide_eq_true (List.all_eq_true.mp h6 n hn)⟩
abbrev AlN : Type := He.AlD × (Bool × List He.FnW)
def obsN (fa : List He.Fa) (fn pr : List He.DefD) (ins : List Str) (K : PySem.W.Frag) : AlN := (He.obsD fa fn K, ((pr.all (fun d => prB K d.at_ && okA K (prA K d.at_).2 d.qual) && ins.all fun c => insB K (ga K c)), pr.map fun d => fnA K (prA K d.at_).2))
def valN (fn pr : List He.DefD) : AlN := (He.valD fn, (true, pr.map He.DefD.val))
def SaysN (fa : List He.Fa) (fn pr : List He.DefD) (ins : List Str) (K : PySem.W.Frag) : Prop := obsN fa fn pr ins K = valN fn pr
def obsNG (n : Nat) (fa : List He.Fa) (fn pr : List He.DefD) (ins : List Str) (g : Addr → Option Obj) : AlN := obsN fa fn pr ins (He.frG g (He.asD g n))
def hookN (n : Nat) (fa : List He.Fa) (fn pr : List He.DefD) (ins : List Str) : PySem.W.Hook where
  α := AlN
  obs := fun s => obsNG n fa fn pr ins s.heap.get?
  val := fun _ => valN fn pr
  says := fun _ h => ∃ K : PySem.W.Frag, K.In h ∧ SaysN fa fn pr ins K
  of := fun _ _ e => ⟨_, He.frG_in, e⟩
  keeps := fun _ _ _ ⟨K, hK, c⟩ k => ⟨K, PySem.W.Frag.In.keeps hK k, c⟩
theorem obsNG_eq {n : Nat} {fa : List He.Fa} {fn pr : List He.DefD} {ins : List Str} {g : Addr → Option Obj} {s : Shared} (h : ∀ a, g a = s.heap.get? a) : obsNG n fa fn pr ins g = (hookN n fa fn pr ins).obs s := by
  have e : g = s.heap.get? := funext h
  rw [e] <;> rfl
section
variable {fa : List He.Fa} {fn pr : List He.DefD} {ins : List Str} {K : PySem.W.Frag}
theorem SaysN.d (c : SaysN fa fn pr ins K) : He.SaysD fa fn K := congrArg (fun z : AlN => z.1) c
theorem SaysN.prop (c : SaysN fa fn pr ins K) (i : Nat) {d : He.DefD} (h : pr[i]? = some d := by rfl) : prB K d.at_ = true ∧ ∃ fd, FunD K d.name d.qual d.params d.body d.scope [] [] (prA K d.at_).2 fd := by
  have e0 : (pr.all (fun d => prB K d.at_ && okA K (prA K d.at_).2 d.qual) && ins.all fun c => insB K (ga K c)) = true := congrArg (fun z : AlN => z.2.1) c
  obtain ⟨c1, _⟩ := ba (List.all_eq_true.mp (ba e0).1 d (List.mem_of_getElem? h))
  have c2 := (ba (List.all_eq_true.mp (ba e0).1 d (List.mem_of_getElem? h))).2
  have e : (pr.map fun d => fnA K (prA K d.at_).2) = pr.map He.DefD.val := congrArg (fun z : AlN => z.2.2) c
  have e2 : (pr.map fun d => fnA K (prA K d.at_).2)[i]? = (pr.map He.DefD.val)[i]? := by rw [e]
  rw [List.getElem?_map, List.getElem?_map, h] at e2
  exact ⟨c1, funA (Option.some.inj e2) c2⟩
theorem SaysN.isi (c : SaysN fa fn pr ins K) {x : Str} (hx : x ∈ ins) (cl : Cls K (ga K x)) : InsTy K (ga K x) := by
  have e0 : (pr.all (fun d => prB K d.at_ && okA K (prA K d.at_).2 d.qual) && ins.all fun c => insB K (ga K c)) = true := congrArg (fun z : AlN => z.2.1) c
  exact insB_ok cl (List.all_eq_true.mp (ba e0).2 x hx)
end
theorem kwA {K : PySem.W.Frag} {x qual : Str} {params : Arguments} {body : List Stmt} {scope : Scope} {f : Addr} {fd : FuncData} {args : Args} {r : List (Str × Value)} (F : FunD K x qual params body scope [] [] f fd)
    (h : ∀ (kV doc pm : Value) (an : Option Addr) (cdv ct : Value), bindArgs (PySem.W.fnOf x qual params body scope .none kV doc pm an cdv ct) args = pure r) (s : Shared) : BindsTo s fd args r := by
  obtain ⟨oc, od, dV, kV, doc, pm, an, cdv, ct, osl, rfl, lk, hcd, hD, hK⟩ := F.ex
  rcases hD with ⟨_, rfl⟩ | ⟨e, _⟩
  · exact .of_eq (h kV doc pm an cdv ct)
  · exact absurd rfl e
/-! ## the end: the law's def called on the script -/
theorem end_call {P : Program} {w : World} {K : PySem.W.Frag} {mg mb : Str → Option Value} {CX : CXT} {k : Nat} {fa a : Addr} {fd : FuncData} {x : Str} {sp : Sp} {s₁ : Shared} {vs : List Value} {ns : List Int}
    (KX : K.In s₁.heap) (hns : s₁.heap.Ns mainGlobals mg) (hb : s₁.heap.Ns builtinsNs mb) (hbb : ∀ x : Str, x ≠ "__name__" → mb x = bootBuiltins x) (hlim : s₁.heap.NoLimit) (hg : s₁.gens = #[])
    (ha : s₁.heap.get? a = some { cls := .type "list", data := .seq vs.toArray }) (hi : IntsAre vs ns) (hl : ns.length ≤ sizeLine) (hr : Room k callerA)
    (F : ∀ base : Heap, K.In base → base.Ns mainGlobals mg → Fn P w K mg base CX k fa fd [x] sp) (hbind : ∀ (s : Shared) (u : Value), BindsTo s fd ⟨[u], []⟩ [(x, u)])
    (hsp : ∀ H : Hp, SqL K H a (ns.map V.int) → sp [.ref a] H (fun v _ => v = .bl true) fun _ _ _ => False)
    (hCX : ∀ H e s', CX [] H s₁ (fun _ _ _ => False) e s' → False) :
    codeAny (model P w) callerA (.call (.ref fa) ⟨[.ref a], []⟩) (fun r s' => r = .ok (.ret (.bool true)) ∧ OldK s₁.heap s'.heap ∧ s'.os = s₁.os ∧ AllBare s'.gens) s₁ := by
  have rv := vals_ints hi
  have lenV := hi.length
  have core : ∀ H : Hp, Only H → SqL K H a (ns.map V.int) → HOk P w H s₁.heap → (∀ b, H b ≠ none → b = a) → (H a ≠ none → K.lookup a = none) →
      codeAny (model P w) callerA (.call (.ref fa) ⟨[.ref a], []⟩) (fun r s' => r = .ok (.ret (.bool true)) ∧ OldK s₁.heap s'.heap ∧ s'.os = s₁.os ∧ AllBare s'.gens) s₁ := by
    intro H hO hS hok hA hK
    have base_of : ∀ {b : Addr} {o : Obj}, s₁.heap.get? b = some o → H b = none → (hidT s₁.heap H).get? b = some o := fun e n => hidT_get e n
    have noA : ∀ {b : Addr} {o : Obj} {es : Array DictEntry} {ep : Nat}, s₁.heap.get? b = some o → o.data = .dict es ep → H b = none := fun {b o es ep} e d => by
      cases q : H b with
      | none => rfl
      | some u =>
        exfalso
        rw [hA b (by rw [q]; simp), ha] at e
        cases e
        exact (show Data.seq vs.toArray _ ≠ Data.dict es ep from fun z => by cases z) d
    have nsK : ∀ {b : Addr} {m : Str → Option Value}, s₁.heap.Ns b m → (hidT s₁.heap H).Ns b m := fun {b m} ⟨o, es, ep, e, d, r⟩ => ⟨o, es, ep, base_of e (noA e d), d, r⟩
    have hKb : K.In (hidT s₁.heap H) := fun b o e => base_of (KX b o e) (by
      cases q : H b with
      | none => rfl
      | some u =>
        have e' : b = a := hA b (by rw [q]; simp)
        rw [e'] at e q
        rw [hK (by rw [q]; simp)] at e
        cases e)
    have e0 : Env0 P w K mg (hidT s₁.heap H) callerA [] s₁ H := ⟨rfl, ⟨hKb, nsK hns, ⟨mb, nsK hb, hbb⟩, let ⟨mc, h1, h2⟩ := hlim; ⟨mc, nsK h1, h2⟩⟩, fun b o e => of_hidT e, Nat.le_of_eq (hidT_size _ _), trivial, fun b hb => absurd (show b ∈ ([] : List Addr) from hb) (by simp), hok, .of_eq hg⟩
    refine codeAny_mono ((F _ hKb (nsK hns)).run callerA [] s₁ H ⟨[.ref a], []⟩ [.ref a] [.ref a] _ _ hr rfl e0 (hbind s₁ (.ref a)) (.cons rfl .nil) (hsp H hS)) fun r s' h => ?_
    cases r with
    | error e => exact (hCX H e s' h).elim
    | ok fl =>
      cases fl with
      | next => exact False.elim h
      | brk => exact False.elim h
      | cont => exact False.elim h
      | ret u =>
        obtain ⟨v, H', os, bare, un, hok', r', q⟩ := h
        have q' : v = .bl true := q
        subst q'
        obtain rfl : u = Value.bool true := r'
        refine ⟨rfl, OldK.of_keep fun b o e => ?_, os, bare⟩
        cases q : H b with
        | none => exact un.keep b o e q (by intro z; exact absurd (show b ∈ ([] : List Addr) from z) (by simp)) (by simp)
        | some u =>
          rcases hO b with z | ⟨ob, xs, z⟩
          · rw [q] at z; cases z
          · obtain ⟨e1, _⟩ := hok b _ z
            obtain ⟨e2, _⟩ := hok' b _ (un.frzs b ob _ z)
            rw [e] at e1
            cases e1
            exact e2
  cases hk : K.lookup a with
  | some o =>
    have e := KX a o hk
    rw [ha] at e
    cases e
    exact core (fun _ => none) (fun _ => .inl rfl) (.inr ⟨_, vs.toArray, _, hk, rfl, rfl, rfl, by rw [List.size_toArray, lenV]; exact hl, by simpa using rv⟩) (fun b u z => by cases (show (none : Option HO) = some u from z)) (fun b z => absurd rfl z) fun z => absurd rfl z
  | none =>
    refine core (fun b => if b = a then some (.frz { cls := .type "list", data := .seq vs.toArray } (.lst (ns.map V.int))) else none) (fun b => ?_) (.inl (.inr ⟨{ cls := .type "list", data := .seq vs.toArray }, if_pos rfl⟩)) (fun b u z => ?_) (fun b z => ?_) fun _ => hk
    · by_cases hb : b = a
      · exact .inr ⟨_, _, if_pos hb⟩
      · exact .inl (if_neg hb)
    · by_cases hb : b = a
      · have z' := (if_pos hb).symm.trans z
        cases z'
        subst hb
        exact ⟨ha, by rw [List.length_map]; exact hl, vs, _, rv, ha⟩
      · have z' := (if_neg hb).symm.trans z
        cases z'
    · by_cases hb : b = a
      · exact hb
      · exact absurd (if_neg hb) z
/-- a script: so many numbers, no number too long -/
def ScrOk (n : Nat) (ns : List Int) : Prop := ns.length ≤ n ∧ ∀ z ∈ ns, Builtin.Int.intBits z ≤ 1048576
theorem walk_end {l : PySem.W.OpenLaw} {n k : Nat} {q : Program} {loose : List Str} {XP : (Str → Option Value) → Heap → Prop} {YP : World → Heap → Prop} {d : DefRec} {x : Str} {m : List D → FR}
    (hn : l.most = some n) (hn2 : n ≤ sizeLine) (hdf : d.params.defaults = []) (hr : Room k callerA)
    (F : ∀ (w : World) (mg : Str → Option Value) (fa : Addr) (h : Heap), YP w h → h.Ns mainGlobals mg → mg d.name = some (.ref fa) →
      ∃ (K : PySem.W.Frag) (fd : FuncData) (G : CT), K.In h ∧ (∀ (s : Shared) (u : Value), BindsTo s fd ⟨[u], []⟩ [(x, u)]) ∧
        ∀ base : Heap, K.In base → base.Ns mainGlobals mg → Fn l.prog w K mg base (L2.CX l.prog w) k fa fd [x] (spP G K 1 m))
    (hm : ∀ ns : List Int, ScrOk n ns → m [.scr ns] = .ok (.bl true)) :
    PySem.W.WalkO q loose XP YP l.row.toRowW d [] (fun f vs => PySem.call f vs) := by
  refine Att.attach_callB hn hdf fun w s₀ s₁ mg mb fa o pm cd doc a vs ns G Y ho hd hcd hmg hobj hints hlen hbits hg => ?_
  obtain ⟨K, fd, G', KX, hb, hF⟩ := F w mg fa _ Y G.T.g hmg
  refine end_call KX G.T.g G.T.b G.T.builtins G.T.nolimit hg hobj hints (Nat.le_trans hlen hn2) hr hF hb (fun H hS => ?_) fun H e s' h => ?_
  · refine ⟨[], [.scr ns], rfl, fun a h => by simp at h, .one ?_, ?_⟩
    · simp only [Rep]
      refine ⟨a, rfl, ?_⟩
      have e : hid [] H = H := by funext b; unfold hid; simp
      rw [e]; exact hS
    · rw [hm ns ⟨hlen, hbits⟩]
      intro v H' _ r
      simpa only [Rep] using r
  · obtain ⟨_, _, _, _, _, _, _, _, _, _, _, _, z⟩ := h
    exact z
end Nv

/-! the meanings evaluated -/
namespace Nv
open PySem PySem.Spec PyProof.Rows L2
section
variable {α β : Type} (f g : M D) (ρ : Rho) (i j : Nat)
@[simp] theorem q_bind (m : M α) (k : α → M β) : mBind m k ρ = (m ρ).bind k := rfl
@[simp] theorem q_ok (a : α) (k : α → M β) : (Res.ok a ρ).bind k = k a ρ := rfl
@[simp] theorem q_ret (a : α) : mRet a ρ = .ok a ρ := rfl
@[simp] theorem q_opt (a : α) : mOpt (some a) ρ = .ok a ρ := rfl
@[simp] theorem q_var : mVar i ρ = match ρ[i]? with | some (.shr d) => .ok d ρ | _ => .err := rfl
@[simp] theorem q_own : mOwn i ρ = match ρ[i]? with | some (.own d) => .ok d ρ | _ => .err := rfl
@[simp] theorem q_op (op : D → D → Option D) : mOp op f g ρ = (f ρ).bind (fun x => mBind g fun y => mOpt (op x y)) := rfl
@[simp] theorem q_un (op : D → Option D) : mUn op f ρ = (f ρ).bind (fun x => mOpt (op x)) := rfl
@[simp] theorem q_unF (op : D → Option (List D)) : mUnF op f ρ = (f ρ).bind (fun x => mOpt (op x)) := rfl
@[simp] theorem q_zip : mZip f g ρ = (f ρ).bind (fun x => mBind g fun y => mOpt (dZip x y)) := rfl
@[simp] theorem q_lst (m : M (List D)) : mLst m ρ = (m ρ).bind (fun ds => mRet (.lst ds)) := rfl
@[simp] theorem q_bl : mBl f ρ = (f ρ).bind (fun d => mOpt (dBl d)) := rfl
@[simp] theorem q_and (s t : M Bool) : mAnd s t ρ = (s ρ).bind (fun x => if x then t else mRet false) := rfl
@[simp] theorem q_or (s t : M Bool) : mOr s t ρ = (s ρ).bind (fun x => if x then mRet true else t) := rfl
@[simp] theorem q_not (s : M Bool) : mNot s ρ = (s ρ).bind (fun x => mRet (!x)) := rfl
@[simp] theorem q_andV : mAndV f g ρ = (mBl f ρ).bind (fun x => if x then g else mRet (.bl false)) := rfl
@[simp] theorem q_orV : mOrV f g ρ = (mBl f ρ).bind (fun x => if x then mRet (.bl true) else g) := rfl
@[simp] theorem q_notV : mNotV f ρ = (mBl f ρ).bind (fun x => mRet (.bl !x)) := rfl
@[simp] theorem q_if (t : M Bool) (a b : M α) : mIf t a b ρ = (t ρ).bind (fun x => if x then a else b) := rfl
@[simp] theorem q_cons (as : M (List D)) : mCons f as ρ = (f ρ).bind (fun x => mBind as fun xs => mRet (x :: xs)) := rfl
@[simp] theorem q_fit (m : M (List D)) : mFit m ρ = (m ρ).bind (fun xs => mOpt (fits xs)) := rfl
@[simp] theorem q_tup (m : M (List D)) : mTup m ρ = (mFit m ρ).bind (fun xs => mRet (.tup xs)) := rfl
@[simp] theorem q_is (q : D → Option Bool) : mIs q f ρ = (f ρ).bind (fun x => mOpt ((q x).map .bl)) := rfl
@[simp] theorem q_part : mPart f ρ = (f ρ).bind (fun d => mOpt (dInt d)) := rfl
@[simp] theorem q_sl (l h : M (Option Int)) : mSl f l h ρ = (f ρ).bind (fun x => mBind l fun lo => mBind h fun hi => mOpt (dSl x lo hi)) := rfl
@[simp] theorem q_items : mItems f ρ = (f ρ).bind (fun d => mOpt (dItems d)) := rfl
@[simp] theorem q_ownT (m : M α) (k : D → α → M β) : mOwnThen i m k ρ = match ρ[i]? with | some (.own _) => (m ρ).bind (fun y => mBind (mOwn i) fun x => k x y) | _ => .err := rfl
@[simp] theorem q_ownL (m : M α) (k : D → α → M β) : mOwnL i m k ρ = match ρ[i]? with | some (.own (.lst _)) => mOwnThen i m k ρ | _ => .err := rfl
@[simp] theorem q_ixO : mIxO i g ρ = mOwnThen i g (fun x y => mOpt (dIx x y)) ρ := rfl
@[simp] theorem q_opO (op : D → D → Option D) : mOpO i op g ρ = mOwnThen i g (fun x y => mOpt (op x y)) ρ := rfl
@[simp] theorem q_callN (n : Nat) (m : List D → FR) (as : M (List D)) : mCallN n m as ρ = (as ρ).bind (fun ds ρ => if ds.length = n then (match m ds with | .ok d => .ok d ρ | .exc c d => .exc c d ρ | .err => .err) else .err) := rfl
@[simp] theorem q_callI (n : Nat) (m : D → List D → FI) (as : M (List D)) : mCallI i n m as ρ = mOwnThen i as (fun x ds ρ => ioRes i n m x ds ρ) ρ := rfl
@[simp] theorem q_io (n : Nat) (m : D → List D → FI) (x : D) (ds : List D) : ioRes i n m x ds ρ = if ds.length = n then (match m x ds with | .ok d s' => .ok d (ρ.set i (.own s')) | .exc c d s' => .exc c d (ρ.set i (.own s')) | .err => .err) else .err := rfl
@[simp] theorem q_callF (n : Nat) (m : List D → Option (List D)) (as : M (List D)) : mCallF n m as ρ = (as ρ).bind (fun ds => mOpt (if ds.length = n then m ds else none)) := rfl
@[simp] theorem q_callFI (m : D → List D → FI) (a : M (List D)) : mCallFI m a ρ = (a ρ).bind (fun xs ρ => match m (.lst xs) [] with | .ok d _ => .ok d ρ | .exc c d _ => .exc c d ρ | .err => .err) := rfl
@[simp] theorem q_fld (c : Nat) : mFld c j f ρ = (f ρ).bind (fun x => mOpt (dFld c j x)) := rfl
@[simp] theorem q_obj (c : Nat) (k : D → M α) : mObj c f k ρ = (f ρ).bind (fun o ρ => if insIs c o then k o ρ else .err) := rfl
@[simp] theorem q_meth (c n : Nat) (m : List D → FR) (as : M (List D)) : mMeth c n m f as ρ = mObj c f (fun o => mBind as fun ds ρ => callR m n (o :: ds) ρ) ρ := rfl
@[simp] theorem q_callR (m : List D → FR) (n : Nat) (ds : List D) : callR m n ds ρ = if ds.length = n then (match m ds with | .ok d => .ok d ρ | .exc c d => .exc c d ρ | .err => .err) else .err := rfl
@[simp] theorem q_prop (c : Nat) (m : List D → FR) : mProp c m f ρ = mObj c f (fun o ρ => match m [o] with | .ok d => .ok d ρ | _ => .err) ρ := rfl
@[simp] theorem q_inOwn (c : Nat) (neg : Bool) (m : List D → FR) : mInOwn c neg m f g ρ = (f ρ).bind (fun x => mObj c g fun o ρ => match m [o, x] with | .ok (.bl b) => .ok (.bl (if neg then !b else b)) ρ | .exc c d => .exc c d ρ | _ => .err) := rfl
@[simp] theorem q_make (c n : Nat) (m : D → List D → FI) (as : M (List D)) : mMake c n m as ρ = (as ρ).bind (fun ds ρ => if ds.length = n then (match m (.ins c []) ds with | .ok .non s => .ok s ρ | .exc c d _ => .exc c d ρ | _ => .err) else .err) := rfl
@[simp] theorem q_str (op : Str → D → Option D) : mStr op f g ρ = (f ρ).bind (fun x => match x with | .str s => mBind g fun y => mOpt (op s y) | _ => fun _ => .err) := rfl
@[simp] theorem q_pop : mPop i f ρ = mOwnL i f (fun x k ρ => match x, k with
  | .lst ds, .int j => (match seqIndex? j ds.length with
    | some n => (match ds[n]? with
      | some d => if -1000000 ≤ j ∧ j ≤ 1000000 then .ok d (ρ.set i (.own (.lst (ds.eraseIdx n)))) else .err
      | none => .err)
    | none => .err)
  | _, _ => .err) ρ := rfl
@[simp] theorem q_app : mApp i f ρ = mOwnL i f (fun x d ρ => match x with
  | .lst ds => if ds.length < 100000 then .ok .non (ρ.set i (.own (.lst (ds ++ [d])))) else .err
  | _ => .err) ρ := rfl
/-! statements -/
@[simp] theorem q_sb (m : M α) (k : α → MS) : sBind m k ρ = match m ρ with | .ok a ρ' => k a ρ' | .exc c d ρ' => .exc c d ρ' | .err => .err := rfl
@[simp] theorem q_seq (F G : MS) : mSeq F G ρ = match F ρ with | .nx ρ' => G ρ' | r => r := rfl
@[simp] theorem q_next : mNext ρ = .nx ρ := rfl
@[simp] theorem q_rt : mRt f ρ = sBind f (fun d ρ => .rt d ρ) ρ := rfl
@[simp] theorem q_rtF (m : M (List D)) : mRtF m ρ = sBind m (fun d ρ => .rf d ρ) ρ := rfl
@[simp] theorem q_rtN : mRtN ρ = .rt .non ρ := rfl
@[simp] theorem q_rtO : mRtO i ρ = match ρ[i]? with | some (.own d) => .rt d (ρ.set i .no) | _ => .err := rfl
@[simp] theorem q_set : mSet i f ρ = sBind f (fun d ρ => .nx (ρ.set i (.shr d))) ρ := rfl
@[simp] theorem q_setF (m : M (List D)) : mSetF i m ρ = sBind m (fun d ρ => .nx (ρ.set i (.own (.lst d)))) ρ := rfl
@[simp] theorem q_ifs (t : M Bool) (F G : MS) : mIfS t F G ρ = sBind t (fun b => if b then F else G) ρ := rfl
@[simp] theorem q_drop : mDrop f ρ = sBind f (fun _ ρ => .nx ρ) ρ := rfl
@[simp] theorem q_for (it : M (List D)) (t : D → MS) (body : MS) : mFor it t body ρ = sBind it (fun ds => forR t body ds) ρ := rfl
@[simp] theorem q_pVV : mParVV i j f g ρ = sBind f (fun x => sBind g fun y ρ => .nx ((ρ.set i (.shr x)).set j (.shr y))) ρ := rfl
@[simp] theorem q_pFF (f g : M (List D)) : mParFF i j f g ρ = sBind f (fun x => sBind g fun y ρ => .nx ((ρ.set i (.own (.lst x))).set j (.own (.lst y)))) ρ := rfl
@[simp] theorem q_pFV (f : M (List D)) : mParFV i j f g ρ = sBind f (fun x => sBind g fun y ρ => .nx ((ρ.set i (.own (.lst x))).set j (.shr y))) ρ := rfl
@[simp] theorem q_pVF (g : M (List D)) : mParVF i j f g ρ = sBind f (fun x => sBind g fun y ρ => .nx ((ρ.set i (.shr x)).set j (.own (.lst y)))) ρ := rfl
@[simp] theorem q_fldO (c c' : Nat) (jo : Option Nat) : mFldO i c c' jo f ρ = sBind f (fun y ρ => match ρ[i]? with
  | some (.own (.ins c0 ds)) => if c0 = c then .nx (ρ.set i (.own (.ins c' (upd1 jo ds y)))) else .err
  | _ => .err) ρ := rfl
@[simp] theorem q_only (F : MS) : onlyNx F ρ = match F ρ with | .nx ρ' => .nx ρ' | .exc c d ρ' => .exc c d ρ' | _ => .err := rfl
@[simp] theorem q_gnm (d : D) : gNm i d ρ = .nx (ρ.set i (.shr d)) := rfl
@[simp] theorem q_gnil (ds : List D) : gNil' ds ρ = if ds.isEmpty then .nx ρ else .err := rfl
@[simp] theorem q_gcons (t : D → MS) (h : List D → MS) (d : D) (ds : List D) : gCons' t h (d :: ds) = mSeq (t d) (h ds) := rfl
@[simp] theorem q_gtp (n : Nat) (h : List D → MS) (ds : List D) : gTp n h (.tup ds) = if ds.length = n then h ds else fun _ => .err := rfl
@[simp] theorem q_gix (d : D) : gIx i f d ρ = match ρ[i]? with
  | some (.own _) => sBind f (fun k ρ' => match ρ'[i]?, k with
    | some (.own (.lst ds)), .int j => (match ixN ds.length j with
      | some n => .nx (ρ'.set i (.own (.lst (ds.set n d))))
      | none => .err)
    | _, _ => .err) ρ
  | _ => .err := rfl
end
/-! operators -/
section
variable (i j : Int) (x y : Str) (xs ys : List D) (b : Bool)
@[simp] theorem q_dBl : dBl (.bl b) = some b := rfl
@[simp] theorem q_dInt : dInt (.int i) = some (some i) := rfl
@[simp] theorem q_addI : dAdd (.int i) (.int j) = some (.int (i + j)) := rfl
@[simp] theorem q_addS : dAdd (.str x) (.str y) = if x.length + y.length ≤ 100000 then some (.str (x ++ y)) else none := rfl
@[simp] theorem q_addT : dAdd (.tup xs) (.tup ys) = if xs.length + ys.length ≤ 100000 then some (.tup (xs ++ ys)) else none := rfl
@[simp] theorem q_addL : dAdd (.lst xs) (.lst ys) = if xs.length + ys.length ≤ 100000 then some (.lst (xs ++ ys)) else none := rfl
@[simp] theorem q_subI : dSub (.int i) (.int j) = some (.int (i - j)) := rfl
@[simp] theorem q_mulI : dMul (.int i) (.int j) = if mulFits i j then some (.int (i * j)) else none := rfl
@[simp] theorem q_modI : dMod (.int i) (.int j) = if 0 < j then some (.int (i % j)) else none := rfl
@[simp] theorem q_divI : dDiv (.int i) (.int j) = if 0 < j ∧ j < 1073741824 then some (.int (i / j)) else none := rfl
@[simp] theorem q_powI : dPow (.int i) (.int j) = if 0 ≤ j ∧ j ≤ 1000 ∧ i.natAbs < 2 ^ 64 then some (.int (i ^ j.toNat)) else none := rfl
@[simp] theorem q_ltI : dLt (.int i) (.int j) = some (.bl (decide (i < j))) := rfl
@[simp] theorem q_ltS : dLt (.str x) (.str y) = some (.bl (decide (x.cps.toList < y.cps.toList))) := rfl
@[simp] theorem q_leI : dLe (.int i) (.int j) = some (.bl (decide (i ≤ j))) := rfl
@[simp] theorem q_gtI : dGt (.int i) (.int j) = some (.bl (decide (j < i))) := rfl
@[simp] theorem q_geI : dGe (.int i) (.int j) = some (.bl (decide (j ≤ i))) := rfl
@[simp] theorem q_eqI : dEq (.int i) (.int j) = some (.bl (decide (i = j))) := rfl
@[simp] theorem q_eqS : dEq (.str x) (.str y) = some (.bl (decide (x = y))) := rfl
@[simp] theorem q_neI : dNe (.int i) (.int j) = some (.bl (!decide (i = j))) := rfl
@[simp] theorem q_neS : dNe (.str x) (.str y) = some (.bl (!decide (x = y))) := rfl
@[simp] theorem q_maxI : dMax (.int i) (.int j) = some (.int (if j > i then j else i)) := rfl
@[simp] theorem q_minI : dMin (.int i) (.int j) = some (.int (if j < i then j else i)) := rfl
@[simp] theorem q_divmod : dDivmod (.int i) (.int j) = if 0 < j ∧ j < 1073741824 then some (.tup [.int (i / j), .int (i % j)]) else none := rfl
@[simp] theorem q_absI : dAbs (.int i) = some (.int (if i < 0 then -i else i)) := rfl
@[simp] theorem q_toInt : dToInt (.int i) = some (.int i) := rfl
@[simp] theorem q_neg : dNeg (.int i) = some (.int (-i)) := rfl
@[simp] theorem q_lenS : dLen (.str x) = if x.length ≤ 100000 then some (.int x.length) else none := rfl
@[simp] theorem q_lenL : dLen (.lst xs) = some (.int xs.length) := rfl
@[simp] theorem q_lenT : dLen (.tup xs) = some (.int xs.length) := rfl
@[simp] theorem q_lenN (ns : List Int) : dLen (.scr ns) = some (.int ns.length) := rfl
@[simp] theorem q_ixL : dIx (.lst xs) (.int i) = atI xs i := rfl
@[simp] theorem q_ixT : dIx (.tup xs) (.int i) = atI xs i := rfl
@[simp] theorem q_ixS : dIx (.str x) (.int i) = if x.length ≤ 100000 then (atI x.cps.toList i).map (fun c => .str (chr1 c)) else none := rfl
@[simp] theorem q_ixN (ns : List Int) : dIx (.scr ns) (.int i) = (atI ns i).map .int := rfl
@[simp] theorem q_slL (lo hi : Option Int) : dSl (.lst xs) lo hi = some (.lst (cutL xs lo hi)) := rfl
@[simp] theorem q_slT (lo hi : Option Int) : dSl (.tup xs) lo hi = some (.tup (cutL xs lo hi)) := rfl
@[simp] theorem q_slN (ns : List Int) (lo hi : Option Int) : dSl (.scr ns) lo hi = some (.lst ((cutL ns lo hi).map .int)) := rfl
@[simp] theorem q_itL : dItems (.lst xs) = some xs := rfl
@[simp] theorem q_itT : dItems (.tup xs) = some xs := rfl
@[simp] theorem q_itS : dItems (.str x) = some (x.cps.toList.map fun c => .str (chr1 c)) := rfl
@[simp] theorem q_tupleL : dTuple (.lst xs) = some (.tup xs) := rfl
@[simp] theorem q_tupleT : dTuple (.tup xs) = some (.tup xs) := rfl
@[simp] theorem q_listL : dList (.lst xs) = some xs := rfl
@[simp] theorem q_listT : dList (.tup xs) = some xs := rfl
@[simp] theorem q_listS : dList (.str x) = if x.length ≤ 100000 then some (x.cps.toList.map fun c => .str (chr1 c)) else none := rfl
@[simp] theorem q_zipL : dZip (.lst xs) (.lst ys) = some (zipD xs ys) := rfl
@[simp] theorem q_rg1 (n : Int) : dRg1 [.int n] = if -1000000 ≤ n ∧ n ≤ 1000000 then some (rgs 0 n.toNat) else none := rfl
@[simp] theorem q_rg2 (n m : Int) : dRg2 [.int n, .int m] = if -1000000 ≤ n ∧ n ≤ 1000000 ∧ -1000000 ≤ m ∧ m ≤ 1000000 then some (rgs n (m - n).toNat) else none := rfl
@[simp] theorem q_insIs (c : Nat) (ds : List D) : insIs c (.ins c ds) = true := decide_eq_true rfl
@[simp] theorem q_dFld (c k : Nat) (ds : List D) : dFld c k (.ins c ds) = ds[k]? := if_pos rfl
@[simp] theorem q_qCls (c : Nat) (ds : List D) : qCls c (.ins c ds) = some true := if_pos rfl
@[simp] theorem q_joinL (a : Str) : dJoin a (.lst xs) = dJoinL a xs := rfl
@[simp] theorem q_sortedL : dSorted (.lst xs) = dSortL xs := rfl
@[simp] theorem q_fits : fits xs = if xs.length ≤ 100000 then some xs else none := rfl
end
theorem atI_nat {α : Type} (xs : List α) (k : Nat) : atI xs (k : Int) = xs[k]? := by
  unfold atI ixN
  rw [if_pos (by omega)]
  by_cases h : k < xs.length
  · rw [if_pos (by omega)]; simp
  · rw [if_neg (by omega)]; simp; omega
@[simp] theorem atI_0 {α : Type} (xs : List α) : atI xs 0 = xs[0]? := atI_nat xs 0
@[simp] theorem atI_1 {α : Type} (xs : List α) : atI xs 1 = xs[1]? := atI_nat xs 1
@[simp] theorem atI_2 {α : Type} (xs : List α) : atI xs 2 = xs[2]? := atI_nat xs 2
@[simp] theorem atI_3 {α : Type} (xs : List α) : atI xs 3 = xs[3]? := atI_nat xs 3
@[simp] theorem atI_5 {α : Type} (xs : List α) : atI xs 5 = xs[5]? := atI_nat xs 5
theorem atI_int {α : Type} (xs : List α) {k : Int} (h : 0 ≤ k) : atI xs k = xs[k.toNat]? := by
  have := atI_nat xs k.toNat
  rw [Int.toNat_of_nonneg h] at this
  exact this
theorem ixN_int {n : Nat} {k : Int} (h : 0 ≤ k) (h2 : k < n) : ixN n k = some k.toNat := by
  unfold ixN; rw [if_pos h, if_pos h2]
theorem mulFits_of {i j : Int} (hi : i.natAbs < 2 ^ 1000) (hj : j.natAbs < 2 ^ 1000) : mulFits i j = true := by
  have b : ∀ x : Int, x.natAbs < 2 ^ 1000 → x.natAbs.log2 < 1000 := fun x h => by
    by_cases z : x.natAbs = 0
    · rw [z]; decide
    · exact (Nat.log2_lt z).mpr h
  have := b i hi
  have := b j hj
  exact decide_eq_true (by omega)
/-! ## loops -/
theorem rgs_len (lo : Int) (n : Nat) : (rgs lo n).length = n := by simp [rgs]
theorem rgs_get {lo : Int} {n k : Nat} {d : D} (h : (rgs lo n)[k]? = some d) : k < n ∧ d = .int (lo + k) := by
  unfold rgs at h
  rw [List.getElem?_map] at h
  obtain ⟨m, h1, rfl⟩ := Option.map_eq_some_iff.mp h
  obtain ⟨h2, h3⟩ := List.getElem?_eq_some_iff.mp h1
  rw [List.getElem_range] at h3
  subst h3
  exact ⟨by simpa using h2, rfl⟩
/-- a loop that runs through -/
theorem for_inv {t : D → MS} {body : MS} (J : Nat → Rho → Prop) (ds : List D) (step : ∀ k d ρ, ds[k]? = some d → J k ρ → ∃ ρ1 ρ2, onlyNx (t d) ρ = .nx ρ1 ∧ body ρ1 = .nx ρ2 ∧ J (k + 1) ρ2) :
    ∀ (n k : Nat) (ρ : Rho), n = ds.length - k → k ≤ ds.length → J k ρ → ∃ ρ', forR t body (ds.drop k) ρ = .nx ρ' ∧ J ds.length ρ' := by
  intro n
  induction n with
  | zero =>
    intro k ρ hn hk h
    have : k = ds.length := by omega
    subst this
    rw [List.drop_length]
    exact ⟨ρ, rfl, h⟩
  | succ n ih =>
    intro k ρ hn hk h
    have hlt : k < ds.length := by omega
    rw [List.drop_eq_getElem_cons hlt]
    obtain ⟨ρ1, ρ2, h1, h2, h3⟩ := step k ds[k] ρ (List.getElem?_eq_getElem hlt) h
    obtain ⟨ρ', h4, h5⟩ := ih (k + 1) ρ2 (by omega) hlt h3
    refine ⟨ρ', ?_, h5⟩
    unfold forR
    rw [h1]
    simp only [h2]
    exact h4
theorem for_all {t : D → MS} {body : MS} (J : Nat → Rho → Prop) {ds : List D} {ρ : Rho} (h0 : J 0 ρ) (step : ∀ k d ρ, ds[k]? = some d → J k ρ → ∃ ρ1 ρ2, onlyNx (t d) ρ = .nx ρ1 ∧ body ρ1 = .nx ρ2 ∧ J (k + 1) ρ2) :
    ∃ ρ', forR t body ds ρ = .nx ρ' ∧ J ds.length ρ' := for_inv J ds step _ 0 ρ rfl (Nat.zero_le _) h0
/-- a list comprehension whose parts change nothing -/
theorem wipe1 (ρ : Rho) (j : Nat) : wipeR ρ [j] = ρ.set j .no := rfl
theorem restore1 {ρ : Rho} {j : Nat} {s : Sl} (h : ∀ d, ρ[j]? ≠ some (.own d)) : restore [j] ρ (ρ.set j s) = ρ := by
  show (ρ.set j s).set j (match ρ[j]? with | some (.shr d) => .shr d | _ => .no) = ρ
  rw [List.set_set]
  apply List.ext_getElem?
  intro k
  by_cases e : k = j
  · subst e
    rw [List.getElem?_set_self']
    cases q : ρ[k]? with
    | none => rfl
    | some s' => cases s' with
      | no => rfl
      | shr d => rfl
      | own d => exact absurd q (h d)
  · rw [List.getElem?_set_ne (fun z => e z.symm)]
theorem lcR1 {j : Nat} {t : M Bool} {f : M D} {ρ : Rho} (p : D → Bool) (F : D → D) : ∀ (ds acc : List D) (ρ' : Rho), ρ'.set j .no = ρ.set j .no → (∀ d ∈ ds, t (ρ.set j (.shr d)) = .ok (p d) (ρ.set j (.shr d)) ∧ (p d = true → f (ρ.set j (.shr d)) = .ok (F d) (ρ.set j (.shr d)))) → acc.length + ds.length ≤ 100000 →
    ∃ s, lcR [j] (uNm j) t f ds acc ρ' = .ok (acc ++ (ds.filter p).map F) s ∧ s.set j .no = ρ.set j .no
  | [], acc, ρ', h0, _, _ => ⟨ρ', by simp [lcR], h0⟩
  | d :: ds, acc, ρ', h0, h, hl => by
    obtain ⟨h1, h2⟩ := h d List.mem_cons_self
    have e : (wipeR ρ' [j]).set j (.shr d) = ρ.set j (.shr d) := by rw [wipe1, h0, List.set_set]
    have e2 : (ρ.set j (Sl.shr d)).set j .no = ρ.set j .no := by rw [List.set_set]
    unfold lcR
    simp only [uNm, e, h1]
    cases hp : p d with
    | false =>
      simp only
      obtain ⟨s, q1, q2⟩ := lcR1 p F ds acc (ρ.set j (.shr d)) e2 (fun x hx => h x (List.mem_cons_of_mem _ hx)) (by simp at hl; omega)
      exact ⟨s, by rw [q1, List.filter_cons_of_neg (by simp [hp])], q2⟩
    | true =>
      simp only [h2 hp]
      rw [if_pos (by simp at hl; omega)]
      obtain ⟨s, q1, q2⟩ := lcR1 p F ds (acc ++ [F d]) (ρ.set j (.shr d)) e2 (fun x hx => h x (List.mem_cons_of_mem _ hx)) (by simp at hl ⊢; omega)
      exact ⟨s, by rw [q1, List.filter_cons_of_pos hp]; simp, q2⟩
theorem lc1 {it : M (List D)} {j : Nat} {t : M Bool} {f : M D} {ρ : Rho} {ds : List D} (p : D → Bool) (F : D → D) (hit : it ρ = .ok ds ρ) (h : ∀ d ∈ ds, t (ρ.set j (.shr d)) = .ok (p d) (ρ.set j (.shr d)) ∧ (p d = true → f (ρ.set j (.shr d)) = .ok (F d) (ρ.set j (.shr d))))
    (hno : ∀ d, ρ[j]? ≠ some (.own d)) (hl : ds.length ≤ 100000) : mLc it [j] (uNm j) t f ρ = .ok ((ds.filter p).map F) ρ := by
  obtain ⟨s, q1, q2⟩ := lcR1 (j := j) (t := t) (f := f) (ρ := ρ) p F ds [] ρ rfl h (by simpa using hl)
  unfold mLc
  rw [q_bind, hit, q_ok]
  simp only [q1, List.nil_append]
  have e : s.set j .no = ρ.set j .no := q2
  congr 1
  show (s.set j (match ρ[j]? with | some (.shr d) => .shr d | _ => .no)) = ρ
  have e3 : (s.set j .no).set j (match ρ[j]? with | some (Sl.shr d) => Sl.shr d | _ => Sl.no) = (ρ.set j .no).set j (match ρ[j]? with | some (Sl.shr d) => Sl.shr d | _ => Sl.no) := by rw [e]
  rw [List.set_set, List.set_set] at e3
  rw [e3]
  have := restore1 (ρ := ρ) (j := j) (s := .no) hno
  unfold restore restore at this
  rw [List.set_set] at this
  exact this
/-- a list comprehension whose parts change the state -/
theorem lc_inv {vs : List Nat} {u : D → Rho → Option Rho} {t : M Bool} {f : M D} (J : Nat → Rho → List D → Prop) (ds : List D)
    (step : ∀ k d ρ acc, ds[k]? = some d → J k ρ acc → ∃ ρ1, u d (wipeR ρ vs) = some ρ1 ∧ ((∃ ρ2, t ρ1 = .ok false ρ2 ∧ J (k + 1) ρ2 acc) ∨ ∃ ρ2 y ρ3, t ρ1 = .ok true ρ2 ∧ f ρ2 = .ok y ρ3 ∧ acc.length < 100000 ∧ J (k + 1) ρ3 (acc ++ [y]))) :
    ∀ (n k : Nat) (ρ : Rho) (acc : List D), n = ds.length - k → k ≤ ds.length → J k ρ acc → ∃ acc' ρ', lcR vs u t f (ds.drop k) acc ρ = .ok acc' ρ' ∧ J ds.length ρ' acc' := by
  intro n
  induction n with
  | zero =>
    intro k ρ acc hn hk h
    have : k = ds.length := by omega
    subst this
    rw [List.drop_length]
    exact ⟨acc, ρ, rfl, h⟩
  | succ n ih =>
    intro k ρ acc hn hk h
    have hlt : k < ds.length := by omega
    rw [List.drop_eq_getElem_cons hlt]
    obtain ⟨ρ1, h1, h2⟩ := step k ds[k] ρ acc (List.getElem?_eq_getElem hlt) h
    unfold lcR
    simp only [h1]
    rcases h2 with ⟨ρ2, h3, h4⟩ | ⟨ρ2, y, ρ3, h3, h4, h5, h6⟩
    · simp only [h3]
      exact ih (k + 1) ρ2 acc (by omega) hlt h4
    · simp only [h3, h4, if_pos h5]
      exact ih (k + 1) ρ3 (acc ++ [y]) (by omega) hlt h6
end Nv

/-! texts of single signs, pairs, comparisons as wholes: plain facts -/
namespace Nv
open PySem PySem.Spec PyProof.Rows L2
/-- one sign; a text -/
def ch (c : Nat) : D := .str (chr1 c)
def tx (w : List Nat) : D := .str ⟨w.toArray⟩
theorem ch_def (c : Nat) : D.str (chr1 c) = ch c := rfl
theorem ch_tx (c : Nat) : ch c = tx [c] := rfl
theorem chr1_inj {a b : Nat} : chr1 a = chr1 b ↔ a = b := by
  unfold chr1
  constructor
  · intro h; simpa using congrArg (fun s : Str => s.cps.toList) h
  · rintro rfl; rfl
@[simp] theorem ch_inj {a b : Nat} : ch a = ch b ↔ a = b := by
  unfold ch; rw [D.str.injEq, chr1_inj]
@[simp] theorem tx_inj {a b : List Nat} : tx a = tx b ↔ a = b := by
  unfold tx
  constructor
  · intro h
    have h2 := congrArg (fun s : Str => s.cps.toList) (D.str.inj h)
    simpa using h2
  · rintro rfl; rfl
@[simp] theorem tx_len (w : List Nat) : (⟨w.toArray⟩ : Str).length = w.length := by simp [Str.length]
@[simp] theorem tx_items (w : List Nat) : dItems (tx w) = some (w.map ch) := by
  unfold tx; rw [q_itS]; rfl
theorem map_ch (w : List Nat) : (w.map fun c => D.str (chr1 c)) = w.map ch := rfl
@[simp] theorem tx_dlen {w : List Nat} (h : w.length ≤ 100000) : dLen (tx w) = some (.int w.length) := by
  unfold tx; rw [q_lenS, tx_len, if_pos h]
theorem tx_ix {w : List Nat} {k : Nat} (h : w.length ≤ 100000) (hk : k < w.length) : dIx (tx w) (.int k) = some (ch w[k]) := by
  unfold tx
  rw [q_ixS, tx_len, if_pos h, atI_nat]
  simp [hk, ch]
theorem dList_tx {w : List Nat} (h : w.length ≤ 100000) : dList (tx w) = some (w.map ch) := by
  unfold tx
  rw [q_listS, tx_len, if_pos h]; rfl
/-! a sign in a text -/
theorem in_tx (c : Nat) (w : List Nat) : dIn (ch c) (tx w) = some (.bl (decide (c ∈ w))) := by
  show (some (!(Builtin.Str.occurrences ⟨w.toArray⟩ ⟨#[c]⟩ 0 (⟨w.toArray⟩ : Str).length 1).isEmpty)).map D.bl = _
  rw [PySem.StrLaws.found_one]
  simp
theorem notin_tx (c : Nat) (w : List Nat) : dNotIn (ch c) (tx w) = some (.bl (!decide (c ∈ w))) := by
  show (some (!(Builtin.Str.occurrences ⟨w.toArray⟩ ⟨#[c]⟩ 0 (⟨w.toArray⟩ : Str).length 1).isEmpty)).map (fun c => D.bl (!c)) = _
  rw [PySem.StrLaws.found_one]
  simp
/-- the first place of a sign -/
theorem ix_tx {c : Nat} {w : List Nat} (h : c ∈ w) : ∃ i : Nat, dSindex ⟨w.toArray⟩ (ch c) = some (.int (i : Nat)) ∧ w[i]? = some c := by
  unfold dSindex ch
  simp only
  rcases PySem.StrLaws.occ_head ⟨w.toArray⟩ (chr1 c) 1 (Nat.le_refl _) with ⟨h0, h1⟩ | ⟨i, r, h0, h1, _⟩
  · obtain ⟨i, hi⟩ := List.mem_iff_getElem?.mp h
    exact absurd ((PySem.StrLaws.subAt_one ⟨w.toArray⟩ c i).mpr (by simpa using hi)) (h1 i)
  · refine ⟨i, by rw [h0], ?_⟩
    have := (PySem.StrLaws.subAt_one ⟨w.toArray⟩ c i).mp h1
    simpa using this
/-! join of single signs -/
theorem fold_ch : ∀ (cs : List Nat) (a : Array Nat), ((cs.map chr1).foldl (fun acc p => acc ++ (⟨#[]⟩ : Str).cps ++ p.cps) a) = a ++ cs.toArray
  | [], a => by simp
  | c :: cs, a => by
    rw [List.map_cons, List.foldl_cons, fold_ch cs]
    simp [chr1]
theorem join_ch (cs : List Nat) : Txt.join "" (cs.map chr1) = ⟨cs.toArray⟩ := by
  show Builtin.Str.glued _ _ = _
  have e : ("" : Str) = ⟨#[]⟩ := by decide +kernel
  rw [e]
  unfold Builtin.Str.glued
  cases cs with
  | nil => rfl
  | cons c cs =>
    simp only [List.map_cons, List.drop_one, List.tail_cons, List.headD_cons, fold_ch]
    simp [chr1]
theorem dStrs_ch (cs : List Nat) : dStrs (cs.map ch) = some (cs.map chr1) := by
  rw [← dStrs_map (cs.map chr1), List.map_map]
  rfl
theorem sum_ch (cs : List Nat) : ((cs.map chr1).map (·.length)).sum = cs.length := by
  induction cs with
  | nil => rfl
  | cons c cs ih =>
    simp only [List.map_cons, List.sum_cons, List.length_cons, ih]
    show 1 + _ = _
    omega
theorem dJoin_ch {cs : List Nat} (h : cs.length ≤ 100000) : dJoin "" (.lst (cs.map ch)) = some (tx cs) := by
  rw [q_joinL]
  unfold dJoinL
  rw [dStrs_ch]
  have e : ("" : Str).length = 0 := by decide +kernel
  show (if joinFits "" (cs.map chr1) then _ else _) = _
  rw [if_pos (by unfold joinFits; rw [sum_ch, e]; simp; omega), join_ch]
  rfl
/-! sorted -/
theorem strLe_ch (a b : Nat) : strLe (chr1 a) (chr1 b) = decide (a ≤ b) := by
  unfold strLe chr1
  rw [Bool.eq_iff_iff, decide_eq_true_eq, decide_eq_true_eq]
  show ([a] : List Nat) ≤ [b] ↔ a ≤ b
  rw [List.cons_le_cons_iff]
  simp
  omega
def srtN (cs : List Nat) : List Nat := cs.mergeSort (fun a b => decide (a ≤ b))
theorem srtN_perm (cs : List Nat) : (srtN cs).Perm cs := List.mergeSort_perm _ _
theorem srtN_le (cs : List Nat) : (srtN cs).Pairwise (· ≤ ·) := by
  have := List.pairwise_mergeSort (le := fun a b : Nat => decide (a ≤ b)) (by simp; omega) (by simp; omega) cs
  exact this.imp (by simp)
theorem srt_ch (cs : List Nat) : srt (cs.map chr1) = (srtN cs).map chr1 := by
  refine (srt_unique' ((srtN_perm cs).map _) ?_).symm
  rw [List.pairwise_map]
  exact (srtN_le cs).imp (by intro a b h; rw [strLe_ch]; simpa using h)
theorem dSorted_ch {cs : List Nat} (h : cs.length < 64) : dSorted (.lst (cs.map ch)) = some ((srtN cs).map ch) := by
  rw [q_sortedL]
  unfold dSortL
  rw [dStrs_ch]
  show (if (cs.map chr1).length < 64 then _ else _) = _
  rw [if_pos (by simpa using h), srt_ch]
  simp [ch, Function.comp_def]
/-- sorted(set(..)) -/
theorem srtSet_spec (cs : List Nat) : ∃ ds : List Nat, srtSet (cs.map chr1) = ds.map chr1 ∧ ds.Pairwise (· < ·) ∧ ∀ c, c ∈ ds ↔ c ∈ cs := by
  have hm : ∀ k, k ∈ srtSet (cs.map chr1) ↔ k ∈ cs.map chr1 := fun k => by
    unfold srtSet
    rw [(srt_perm _).mem_iff, mem_nub]
  have h1 : ∀ l : List Str, (∀ k ∈ l, k ∈ cs.map chr1) → ∃ ds : List Nat, l = ds.map chr1 := by
    intro l
    induction l with
    | nil => exact fun _ => ⟨[], rfl⟩
    | cons x l ih =>
      intro h
      obtain ⟨ds, rfl⟩ := ih fun k hk => h k (List.mem_cons_of_mem _ hk)
      obtain ⟨c, _, rfl⟩ := List.mem_map.mp (h x List.mem_cons_self)
      exact ⟨c :: ds, rfl⟩
  obtain ⟨ds, e⟩ := h1 _ fun k hk => (hm k).mp hk
  refine ⟨ds, e, ?_, fun c => ?_⟩
  · have s := srt_sorted (nub (cs.map chr1))
    have n : (srt (nub (cs.map chr1))).Nodup := (srt_perm _).nodup_iff.mpr (nub_nodup _)
    have e' : srt (nub (cs.map chr1)) = ds.map chr1 := e
    rw [e'] at s n
    rw [List.pairwise_map] at s
    have n' : ds.Pairwise (· ≠ ·) := by
      have := (List.pairwise_map.mp n)
      exact this.imp fun h z => h (by rw [z])
    exact (s.and n').imp fun {a b} ⟨h, h2⟩ => by
      rw [strLe_ch] at h
      have := of_decide_eq_true h
      omega
  · have := hm (chr1 c)
    rw [e, List.mem_map, List.mem_map] at this
    constructor
    · intro h
      obtain ⟨a, h2, h3⟩ := this.mp ⟨c, h, rfl⟩
      rwa [← chr1_inj.mp h3]
    · intro h
      obtain ⟨a, h2, h3⟩ := this.mpr ⟨c, h, rfl⟩
      rwa [← chr1_inj.mp h3]
theorem dSrtSet_ch {cs : List Nat} (h : cs.length < 4000) : ∃ ds : List Nat, dSrtSet (.lst (cs.map ch)) = some (ds.map ch) ∧ ds.Pairwise (· < ·) ∧ ∀ c, c ∈ ds ↔ c ∈ cs := by
  obtain ⟨ds, e, h1, h2⟩ := srtSet_spec cs
  refine ⟨ds, ?_, h1, h2⟩
  show dSrtSetL _ = _
  unfold dSrtSetL
  rw [dStrs_ch]
  show (if (cs.map chr1).length < 4000 then _ else _) = _
  rw [if_pos (by simpa using h), e]
  simp [ch, Function.comp_def]
theorem dSrtSet_tx {cs : List Nat} (h : cs.length < 4000) : ∃ ds : List Nat, dSrtSet (tx cs) = some (ds.map ch) ∧ ds.Pairwise (· < ·) ∧ ∀ c, c ∈ ds ↔ c ∈ cs := by
  obtain ⟨ds, e, h1, h2⟩ := srtSet_spec cs
  refine ⟨ds, ?_, h1, h2⟩
  show (if (⟨cs.toArray⟩ : Str).length < 4000 then some ((srtSet (TS.signsOf ⟨cs.toArray⟩)).map D.str) else none) = _
  have e2 : TS.signsOf (⟨cs.toArray⟩ : Str) = cs.map chr1 := by
    unfold TS.signsOf; simp [chr1, Function.comp_def]
  rw [if_pos (by simpa using h), e2, e]
  simp [ch, Function.comp_def]
theorem add_tx {a b : List Nat} (h : a.length + b.length ≤ 100000) : dAdd (tx a) (tx b) = some (tx (a ++ b)) := by
  unfold tx
  rw [q_addS, if_pos (by simpa using h)]
  congr 2
  show Str.append _ _ = _
  unfold Str.append
  simp
/-! comparisons of wholes -/
structure Flat (n : Nat) (d : D) : Prop where
  pure : d.pure = true
  lay : d.py.canLay0 = true
  dep : d.py.depth ≤ n
theorem Flat.mono {n m : Nat} {d : D} (h : Flat n d) (hm : n ≤ m) : Flat m d := ⟨h.pure, h.lay, Nat.le_trans h.dep hm⟩
theorem flat_all {n : Nat} : ∀ {ds : List D}, (∀ d ∈ ds, Flat n d) → D.pureAll ds = true ∧ PyData.canLayAll0 (D.pyAll ds) = true ∧ PyData.depthAll (D.pyAll ds) ≤ n
  | [], _ => ⟨rfl, rfl, Nat.zero_le _⟩
  | d :: ds, h => by
    obtain ⟨h1, h2, h3⟩ := flat_all fun x hx => h x (List.mem_cons_of_mem _ hx)
    obtain ⟨h4, h5, h6⟩ := h d List.mem_cons_self
    simp only [D.pureAll, D.pyAll, PyData.canLayAll0, PyData.depthAll, h1, h2, h4, h5]
    simp
    omega
theorem Flat.lst {n : Nat} {ds : List D} (h : ∀ d ∈ ds, Flat n d) : Flat (n + 1) (.lst ds) := by
  obtain ⟨h1, h2, h3⟩ := flat_all h
  exact ⟨by simpa only [D.pure] using h1, by simpa only [D.py, PyData.canLay0] using h2, by simp only [D.py, PyData.depth]; omega⟩
theorem Flat.tup {n : Nat} {ds : List D} (h : ∀ d ∈ ds, Flat n d) : Flat (n + 1) (.tup ds) := by
  obtain ⟨h1, h2, h3⟩ := flat_all h
  exact ⟨by simpa only [D.pure] using h1, by simpa only [D.py, PyData.canLay0] using h2, by simp only [D.py, PyData.depth]; omega⟩
theorem Flat.eqOk {n : Nat} {d : D} (h : Flat n d) (hn : n ≤ 64) : d.eqOk = true := by
  unfold D.eqOk PySem.SeqAt.shaped
  rw [h.pure, h.lay]
  have := h.dep
  simp; omega
theorem Flat.txt {w : List Nat} (h : ∀ c ∈ w, c < 200) : Flat 0 (tx w) :=
  ⟨rfl, by
    show PySem.PyData.strOk _ = true
    unfold PySem.PyData.strOk
    rw [← Array.all_toList, List.all_eq_true]
    intro c hc
    have := h c (by simpa using hc)
    simp; omega, Nat.le_refl _⟩
theorem Flat.ch {c : Nat} (h : c < 200) : Flat 0 (ch c) := Flat.txt (w := [c]) (by simpa using h)
theorem dEq_nilL {xs : List D} (h : (D.lst xs).eqOk = true) : dEq (.lst xs) (.lst []) = some (.bl xs.isEmpty) := by
  have e : (D.lst []).eqOk = true := Flat.eqOk (Flat.lst (n := 0) (by simp)) (by omega)
  show (if (D.lst xs).eqOk && (D.lst []).eqOk then some (PyData.eqv (D.lst xs).py (D.lst []).py) else none).map D.bl = _
  rw [h, e]
  cases xs <;> rfl
theorem dNe_nilL {xs : List D} (h : (D.lst xs).eqOk = true) : dNe (.lst xs) (.lst []) = some (.bl (!xs.isEmpty)) := by
  have e : (D.lst []).eqOk = true := Flat.eqOk (Flat.lst (n := 0) (by simp)) (by omega)
  show (if (D.lst xs).eqOk && (D.lst []).eqOk then some (PyData.eqv (D.lst xs).py (D.lst []).py) else none).map (fun c => D.bl (!c)) = _
  rw [h, e]
  cases xs <;> rfl
theorem dEq_nilT {xs : List D} (h : (D.tup xs).eqOk = true) : dEq (.tup xs) (.tup []) = some (.bl xs.isEmpty) := by
  have e : (D.tup []).eqOk = true := Flat.eqOk (Flat.tup (n := 0) (by simp)) (by omega)
  show (if (D.tup xs).eqOk && (D.tup []).eqOk then some (PyData.eqv (D.tup xs).py (D.tup []).py) else none).map D.bl = _
  rw [h, e]
  cases xs <;> rfl
/-- a pair of signs -/
def pq (p : Nat × Nat) : D := .tup [ch p.1, ch p.2]
theorem Flat.pq {p : Nat × Nat} (h1 : p.1 < 200) (h2 : p.2 < 200) : Flat 1 (pq p) := Flat.tup (by
  intro d hd
  simp at hd
  rcases hd with rfl | rfl
  · exact Flat.ch h1
  · exact Flat.ch h2)
theorem eqv_str (x y : Str) : PyData.eqv (D.str x).py (D.str y).py = decide (x = y) := by
  show PyData.eqv (.str x) (.str y) = _
  rw [PyData.eqv]
  rw [Bool.eq_iff_iff, beq_iff_eq, decide_eq_true_eq]
theorem eqv_ch (a b : Nat) : PyData.eqv (ch a).py (ch b).py = decide (a = b) := by
  rw [show ch a = D.str (chr1 a) from rfl, show ch b = D.str (chr1 b) from rfl, eqv_str]
  rw [Bool.eq_iff_iff, decide_eq_true_eq, decide_eq_true_eq, chr1_inj]
theorem eqv_pr (p q : Nat × Nat) : PyData.eqv (pq p).py (pq q).py = decide (p = q) := by
  obtain ⟨a, b⟩ := p
  obtain ⟨c, d⟩ := q
  show PyData.eqv (.tuple [(ch a).py, (ch b).py]) (.tuple [(ch c).py, (ch d).py]) = _
  rw [PyData.eqv, PyData.eqvAll, PyData.eqvAll, PyData.eqvAll, eqv_ch, eqv_ch]
  rw [Bool.eq_iff_iff]
  simp
theorem eq_ch (a b : Nat) : dEq (ch a) (ch b) = some (.bl (decide (a = b))) := by
  unfold ch
  rw [q_eqS]
  simp [chr1_inj]
theorem in_chs {c : Nat} {cs : List Nat} (hc : c < 200) (hcs : ∀ x ∈ cs, x < 200) : dIn (ch c) (.lst (cs.map ch)) = some (.bl (decide (c ∈ cs))) := by
  have e1 := (Flat.ch hc).eqOk (by omega)
  have e2 := (Flat.lst (n := 0) (ds := cs.map ch) (by intro d hd; obtain ⟨x, hx, rfl⟩ := List.mem_map.mp hd; exact Flat.ch (hcs x hx))).eqOk (by omega)
  show (if (ch c).eqOk && (D.lst (cs.map ch)).eqOk then some ((cs.map ch).any fun z => PyData.eqv z.py (ch c).py) else none).map D.bl = _
  rw [e1, e2]
  simp only [Bool.and_self, if_true, Option.map_some]
  congr 2
  rw [Bool.eq_iff_iff, List.any_map]
  simp [eqv_ch]
theorem in_prs {p : Nat × Nat} {ps : List (Nat × Nat)} (hp : p.1 < 200 ∧ p.2 < 200) (hps : ∀ x ∈ ps, x.1 < 200 ∧ x.2 < 200) : dIn (pq p) (.tup (ps.map pq)) = some (.bl (decide (p ∈ ps))) := by
  have e1 := (Flat.pq hp.1 hp.2).eqOk (by omega)
  have e2 := (Flat.tup (n := 1) (ds := ps.map pq) (by intro d hd; obtain ⟨x, hx, rfl⟩ := List.mem_map.mp hd; exact Flat.pq (hps x hx).1 (hps x hx).2)).eqOk (by omega)
  show (if (pq p).eqOk && (D.tup (ps.map pq)).eqOk then some ((ps.map pq).any fun z => PyData.eqv z.py (pq p).py) else none).map D.bl = _
  rw [e1, e2]
  simp only [Bool.and_self, if_true, Option.map_some]
  congr 2
  rw [Bool.eq_iff_iff, List.any_map]
  simp [eqv_pr]
/-- all, any over booleans -/
theorem dBls_map {α : Type} (f : α → Bool) (xs : List α) : dBls (xs.map fun x => .bl (f x)) = some (xs.map f) := by
  induction xs with
  | nil => rfl
  | cons x xs ih => simp only [List.map_cons, dBls, ih, Option.map_some]
theorem dAll_map {α : Type} (f : α → Bool) (xs : List α) : dAll (.lst (xs.map fun x => .bl (f x))) = some (.bl (xs.all f)) := by
  show (dBls _).map _ = _
  rw [dBls_map]; simp
theorem dAny_map {α : Type} (f : α → Bool) (xs : List α) : dAny (.lst (xs.map fun x => .bl (f x))) = some (.bl (xs.any f)) := by
  show (dBls _).map _ = _
  rw [dBls_map]; simp
theorem lc_all {it : M (List D)} {j : Nat} {t : M Bool} {f : M D} {ρ ρ0 : Rho} {ds : List D} (J : Nat → Rho → List D → Prop) (hit : it ρ = .ok ds ρ0) (h0 : J 0 ρ0 [])
    (step : ∀ k d ρ acc, ds[k]? = some d → J k ρ acc → (∃ ρ2, t (ρ.set j (.shr d)) = .ok false ρ2 ∧ J (k + 1) ρ2 acc) ∨ ∃ ρ2 y ρ3, t (ρ.set j (.shr d)) = .ok true ρ2 ∧ f ρ2 = .ok y ρ3 ∧ acc.length < 100000 ∧ J (k + 1) ρ3 (acc ++ [y])) :
    ∃ acc s, mLc it [j] (uNm j) t f ρ = .ok acc (restore [j] ρ0 s) ∧ J ds.length s acc := by
  obtain ⟨acc, s, h1, h2⟩ := lc_inv (vs := [j]) (u := uNm j) (t := t) (f := f) J ds (fun k d ρ acc hk h => ⟨ρ.set j (.shr d), by unfold uNm; rw [wipe1, List.set_set], step k d ρ acc hk h⟩) ds.length 0 ρ0 [] rfl (Nat.zero_le _) h0
  refine ⟨acc, s, ?_, h2⟩
  unfold mLc
  rw [q_bind, hit, q_ok]
  rw [List.drop_zero] at h1
  simp only [h1]
theorem get_map {α : Type} {g : α → D} {xs : List α} {k : Nat} {d : D} (h : (xs.map g)[k]? = some d) : ∃ hk : k < xs.length, d = g xs[k] := by
  rw [List.getElem?_map] at h
  obtain ⟨m, h1, rfl⟩ := Option.map_eq_some_iff.mp h
  obtain ⟨h2, h3⟩ := List.getElem?_eq_some_iff.mp h1
  exact ⟨h2, by rw [h3]⟩
end Nv

set_option maxHeartbeats 1000000
/-! comprehensions over told lists, cuts -/
namespace Nv
open PySem PySem.Spec PyProof.Rows L2
theorem lcR1m {α : Type} {g : α → D} {j : Nat} {t : M Bool} {f : M D} {ρ : Rho} (p : α → Bool) (F : α → D) : ∀ (xs : List α) (acc : List D) (ρ' : Rho), ρ'.set j .no = ρ.set j .no → (∀ a ∈ xs, t (ρ.set j (.shr (g a))) = .ok (p a) (ρ.set j (.shr (g a))) ∧ (p a = true → f (ρ.set j (.shr (g a))) = .ok (F a) (ρ.set j (.shr (g a))))) → acc.length + xs.length ≤ 100000 →
    ∃ s, lcR [j] (uNm j) t f (xs.map g) acc ρ' = .ok (acc ++ (xs.filter p).map F) s ∧ s.set j .no = ρ.set j .no
  | [], acc, ρ', h0, _, _ => ⟨ρ', by simp [lcR], h0⟩
  | d :: ds, acc, ρ', h0, h, hl => by
    obtain ⟨h1, h2⟩ := h d List.mem_cons_self
    have e : (wipeR ρ' [j]).set j (.shr (g d)) = ρ.set j (.shr (g d)) := by rw [wipe1, h0, List.set_set]
    have e2 : (ρ.set j (Sl.shr (g d))).set j .no = ρ.set j .no := by rw [List.set_set]
    rw [List.map_cons]
    unfold lcR
    simp only [uNm, e, h1]
    cases hp : p d with
    | false =>
      simp only
      obtain ⟨s, q1, q2⟩ := lcR1m p F ds acc (ρ.set j (.shr (g d))) e2 (fun x hx => h x (List.mem_cons_of_mem _ hx)) (by simp at hl; omega)
      exact ⟨s, by rw [q1, List.filter_cons_of_neg (by simp [hp])], q2⟩
    | true =>
      simp only [h2 hp]
      rw [if_pos (by simp at hl; omega)]
      obtain ⟨s, q1, q2⟩ := lcR1m p F ds (acc ++ [F d]) (ρ.set j (.shr (g d))) e2 (fun x hx => h x (List.mem_cons_of_mem _ hx)) (by simp at hl ⊢; omega)
      exact ⟨s, by rw [q1, List.filter_cons_of_pos hp]; simp, q2⟩
/-- a comprehension over a told list whose parts change nothing -/
theorem lc_map {α : Type} {g : α → D} {it : M (List D)} {j : Nat} {t : M Bool} {f : M D} {ρ : Rho} {xs : List α} (p : α → Bool) (F : α → D) (hit : it ρ = .ok (xs.map g) ρ) (h : ∀ a ∈ xs, t (ρ.set j (.shr (g a))) = .ok (p a) (ρ.set j (.shr (g a))) ∧ (p a = true → f (ρ.set j (.shr (g a))) = .ok (F a) (ρ.set j (.shr (g a)))))
    (hno : ∀ d, ρ[j]? ≠ some (.own d)) (hl : xs.length ≤ 100000) : mLc it [j] (uNm j) t f ρ = .ok ((xs.filter p).map F) ρ := by
  obtain ⟨s, q1, q2⟩ := lcR1m (g := g) (j := j) (t := t) (f := f) (ρ := ρ) p F xs [] ρ rfl h (by simpa using hl)
  unfold mLc
  rw [q_bind, hit, q_ok]
  simp only [q1, List.nil_append]
  congr 1
  show (s.set j (match ρ[j]? with | some (.shr d) => .shr d | _ => .no)) = ρ
  have e3 : (s.set j .no).set j (match ρ[j]? with | some (Sl.shr d) => Sl.shr d | _ => Sl.no) = (ρ.set j .no).set j (match ρ[j]? with | some (Sl.shr d) => Sl.shr d | _ => Sl.no) := by rw [q2]
  rw [List.set_set, List.set_set] at e3
  rw [e3]
  have := restore1 (ρ := ρ) (j := j) (s := .no) hno
  unfold restore restore at this
  rw [List.set_set] at this
  exact this
/-- without a test -/
theorem lc_mapT {α : Type} {g : α → D} {it : M (List D)} {j : Nat} {f : M D} {ρ : Rho} {xs : List α} (F : α → D) (hit : it ρ = .ok (xs.map g) ρ) (h : ∀ a ∈ xs, f (ρ.set j (.shr (g a))) = .ok (F a) (ρ.set j (.shr (g a))))
    (hno : ∀ d, ρ[j]? ≠ some (.own d)) (hl : xs.length ≤ 100000) : mLc it [j] (uNm j) (mRet true) f ρ = .ok (xs.map F) ρ := by
  have := lc_map (t := mRet true) (f := f) (fun _ => true) F hit (fun a ha => ⟨rfl, fun _ => h a ha⟩) hno hl
  rwa [List.filter_eq_self.mpr (fun _ _ => rfl)] at this
theorem cut_take {α : Type} (xs : List α) (k : Nat) : cutL xs none (some (k : Int)) = xs.take k := by
  unfold cutL
  rw [HT.sIx_none, HT.sIx_nat, List.drop_zero, Nat.sub_zero]
  rw [← List.take_take, List.take_length]
theorem cut_drop {α : Type} (xs : List α) (k : Nat) : cutL xs (some (k : Int)) none = xs.drop k := by
  unfold cutL
  rw [HT.sIx_none, HT.sIx_nat]
  by_cases h : k ≤ xs.length
  · rw [Nat.min_eq_left h, List.take_of_length_le (by rw [List.length_drop]; omega)]
  · rw [Nat.min_eq_right (by omega), Nat.sub_self, List.take_zero]
    exact (List.drop_of_length_le (by omega)).symm
theorem lt_ch (a b : Nat) : dLt (ch a) (ch b) = some (.bl (decide (a < b))) := by
  unfold ch
  rw [q_ltS]
  congr 2
  rw [Bool.eq_iff_iff, decide_eq_true_eq, decide_eq_true_eq]
  show ([a] : List Nat) < [b] ↔ a < b
  rw [List.cons_lt_cons_iff]
  simp
@[simp] theorem qTy_str (w : List Nat) : qTy "str" false (tx w) = some true := by
  show kitB "str" "str" = some true
  decide +kernel
@[simp] theorem qTy_strc (c : Nat) : qTy "str" false (ch c) = some true := qTy_str [c]
@[simp] theorem qTy_tup (xs : List D) : qTy "tuple" false (.tup xs) = some true := by
  show kitB "tuple" "tuple" = some true
  decide +kernel
@[simp] theorem len_ch (c : Nat) : dLen (ch c) = some (.int 1) := by
  have := tx_dlen (w := [c]) (by simp)
  exact this
theorem eq_txnil (w : List Nat) : dEq (tx w) (tx []) = some (.bl (decide (w = []))) := by
  unfold tx
  rw [q_eqS]
  congr 2
  rw [Bool.eq_iff_iff, decide_eq_true_eq, decide_eq_true_eq]
  constructor
  · intro h; simpa using congrArg (fun s : Str => s.cps.toList) h
  · rintro rfl; rfl
end Nv

namespace Nv
open PySem PySem.Spec PyProof.Rows L2
def top (i : Nat) : Stmt := PySem.Challenge.pw_nevermixed_k61_whole_lines_that_fit_what.main.body.getD i (.Pass ⟨0, 0, 0, 0⟩)
abbrev Pg : Program := PySem.Challenge.rw_nevermixed_k61_whole_lines_that_fit_what.prog
abbrev s_Line_letters : Stmt := inClass (top 21) 3
abbrev s_is_letter : Stmt := top 15
abbrev s_Line_contains : Stmt := inClass (top 21) 7
abbrev s_check_sign : Stmt := top 22
abbrev s_Line_looks_of : Stmt := inClass (top 21) 10
abbrev s_share_look : Stmt := top 32
abbrev s_check_line : Stmt := top 23
abbrev s_mixed : Stmt := top 33
abbrev s_looks_seen : Stmt := top 27
abbrev s_letters_seen : Stmt := top 28
abbrev s_is_look : Stmt := top 16
abbrev s_is_seen_pair : Stmt := top 25
abbrev s_check_seen : Stmt := top 26
abbrev s_surely_mixed : Stmt := top 30
abbrev s_fits : Stmt := top 29
abbrev s__law_drop : Stmt := top 36
abbrev s__law_choice : Stmt := top 37
abbrev s__law_pairs_for : Stmt := top 44
abbrev s_are_looks : Stmt := top 17
abbrev s_is_pair : Stmt := top 18
abbrev s_check_signs : Stmt := top 19
abbrev s_Line_init : Stmt := inClass (top 21) 0
abbrev s__law_names : Stmt := top 39
abbrev s__law_mixed_up : Stmt := top 38
abbrev s__law_some_looks : Stmt := top 40
abbrev s__law_ring_lots : Stmt := top 42
abbrev s__law_any_lots : Stmt := top 41
abbrev s__law_told : Stmt := top 43
abbrev s__law_right : Stmt := top 45
abbrev s__law_brook : Stmt := top 35
abbrev s_law : Stmt := top 46
theorem lk_lot {aL : Addr} : ∀ vs : List V, ((GL aL ["lot"]).flds 1).length = vs.length → (((GL aL ["lot"]).flds 1).zip vs).lookup ("lot" : Str) = vs[0]? := fun vs h => match vs, h with | [_], _ => rfl
theorem up_lot {aL : Addr} : ∀ (vs : List V) (y : V), ((GL aL ["lot"]).flds 0).length = vs.length → putF "lot" y (((GL aL ["lot"]).flds 0).zip vs) = ((GL aL ["lot"]).flds 1).zip (upd1 none vs y) ∧ ((GL aL ["lot"]).flds 1).length = (upd1 none vs y).length := fun vs y h => match vs, h with | [], _ => ⟨rfl, rfl⟩
theorem le_lot {aL : Addr} : ((GL aL ["lot"]).flds 0).length < 1000 := Nat.zero_lt_succ _
theorem lk_no_looks_of {aL : Addr} : ∀ vs : List V, ((GL aL ["lot"]).flds 1).length = vs.length → (((GL aL ["lot"]).flds 1).zip vs).lookup ("looks_of" : Str) = none := fun vs h => match vs, h with | [_], _ => rfl
abbrev N_Line_letters : List Str := ["self", "each"]
theorem nd_Line_letters : N_Line_letters.Nodup := by decide
def m_Line_letters : MS := (mSeq (mRt (mStr dJoin (mRet (.str "")) (mLst (mLc (mItems (mFld 1 0 (mVar 0))) [1] (uNm 1) (mRet true) (mOp dIx (mVar 1) (mRet (.int 0))))))) mNext)
theorem b_Line_letters {w : World} {K : PySem.W.Frag} {mg : Str → Option Value} {base : Heap} {aL f : Addr} (L_cl : Cls K aL) (L_g : mg "Line" = some (.ref aL)) (L_is : InsTy K aL) (L_na_lot : NoAttr K aL "lot") :
    BodyOk Pg w K mg base (GL aL ["lot"]) N_Line_letters "Line.letters" (defScope s_Line_letters) (defBody s_Line_letters) 0 f false m_Line_letters := by
  intro cdv A outer s H E hr0 gd0 B Z a
  exact (dSs_cons (dS_ret (dE_join dE_str (dB_of (dE_of (n_lc1 1 rfl nd_Line_letters io0 (dI_any (dE_fld L_cl L_na_lot lk_lot (n_var 0))) (fun _ _ _ _ _ => dTs_nil) (fun _ _ _ _ _ => (n_ix (n_var 1) dE_int))))))) dSs_nil)
abbrev N_is_letter : List Str := ["value"]
theorem nd_is_letter : N_is_letter.Nodup := by decide
def m_is_letter : MS := (mSeq (mRt (mAndV (mIs (qTy "str" false) (mVar 0)) (mAndV (mOp dEq (mUn dLen (mVar 0)) (mRet (.int 1))) (mOp dIn (mVar 0) (mRet (.str "abcdefghijklmnopqrstuvwxyz")))))) mNext)
theorem b_is_letter {w : World} {K : PySem.W.Frag} {mg : Str → Option Value} {base : Heap} {aL f : Addr} (b_isinstance : mg "isinstance" = none) (b_str : mg "str" = none) (b_len : mg "len" = none) (c_LETTERS : ∃ t, mg "LETTERS" = some (.str "abcdefghijklmnopqrstuvwxyz" t)) :
    BodyOk Pg w K mg base (GL aL ["lot"]) N_is_letter "is_letter" (defScope s_is_letter) (defBody s_is_letter) 0 f false m_is_letter := by
  intro cdv A outer s H E hr0 gd0 B Z a
  exact (dSs_cons (dS_ret (dE_and (dE_isT (qTy_ok "str" _ _) rfl b_isinstance rfl b_str (by decide +kernel) (n_var 0)) (dE_and (dE_cmp (op_eqB (u64 hr0)) ok_eq (dE_callB call_len ok_len rfl b_len (by decide +kernel) (dB_of (n_var 0))) (dB_of dE_int) rfl) (dE_one (dE_cmp (op_inDB (u65 hr0)) ok_in (n_var 0) (dB_of (dE_gstr rfl c_LETTERS)) rfl))))) dSs_nil)
abbrev N_Line_contains : List Str := ["self", "value"]
theorem nd_Line_contains : N_Line_contains.Nodup := by decide
def m_Line_contains : MS := (mSeq (mRt (mAndV (mCallN 1 (runP 1 m_is_letter) (mCons (mVar 1) (mRet []))) (mOp dIn (mVar 1) (mProp 1 (runP 2 m_Line_letters) (mVar 0))))) mNext)
theorem b_Line_contains {w : World} {K : PySem.W.Frag} {mg : Str → Option Value} {base : Heap} {aL f : Addr} {a_is_letter : Addr} {fd_is_letter : FuncData} (d_is_letter : Cal Pg w K mg base "is_letter" 1 a_is_letter fd_is_letter ["value"] (spP (GL aL ["lot"]) K 1 (runP 1 m_is_letter))) (L_cl : Cls K aL) (L_g : mg "Line" = some (.ref aL)) (L_is : InsTy K aL) {g_Line_letters a_Line_letters : Addr} {fd_Line_letters : FuncData} (p_Line_letters : Prp Pg w K mg base aL "letters" 1 g_Line_letters a_Line_letters fd_Line_letters ["self"] (spP (GL aL ["lot"]) K 1 (runP 2 m_Line_letters))) :
    BodyOk Pg w K mg base (GL aL ["lot"]) N_Line_contains "Line.__contains__" (defScope s_Line_contains) (defBody s_Line_contains) 2 f false m_Line_contains := by
  intro cdv A outer s H E hr0 gd0 B Z a
  exact (dSs_cons (dS_ret (dE_and (dE_call d_is_letter.F (hr0.mono (by decide)) gd0 tk_cx rfl d_is_letter.g d_is_letter.kp d_is_letter.b (dA_cons (n_var 1) dA_nil)) (dE_one (dE_cmp (op_inDB (u65 hr0)) ok_in (n_var 1) (dB_of (dE_prop L_cl p_Line_letters.P p_Line_letters.F (hr0.mono (by decide)) gd0 p_Line_letters.B (n_var 0))) rfl)))) dSs_nil)
abbrev N_check_sign : List Str := ["line", "sign"]
theorem nd_check_sign : N_check_sign.Nodup := by decide
def m_check_sign : MS := (mSeq (mIfS (mBl (mInOwn 1 true (runP 2 m_Line_contains) (mVar 1) (mVar 0))) (mSeq (fun _ => .err) mNext) mNext) mNext)
theorem b_check_sign {w : World} {K : PySem.W.Frag} {mg : Str → Option Value} {base : Heap} {aL f : Addr} (L_cl : Cls K aL) (L_g : mg "Line" = some (.ref aL)) (L_is : InsTy K aL) {a_Line_contains : Addr} {fd_Line_contains : FuncData} (q_Line_contains : Met Pg w K mg base aL "__contains__" 3 a_Line_contains fd_Line_contains ["self", "value"] (spP (GL aL ["lot"]) K 2 (runP 2 m_Line_contains))) :
    BodyOk Pg w K mg base (GL aL ["lot"]) N_check_sign "check_sign" (defScope s_check_sign) (defBody s_check_sign) 3 f false m_check_sign := by
  intro cdv A outer s H E hr0 gd0 B Z a
  exact (dSs_cons (dS_if (dT_notInOwn q_Line_contains.M.at_ q_Line_contains.ty q_Line_contains.F (hr0.mono (by decide)) gd0 q_Line_contains.B tk_cx (n_var 1) (n_var 0) rfl) (dSs_cons dS_never dSs_nil) dSs_nil) dSs_nil)
abbrev N_Line_looks_of : List Str := ["self", "sign"]
theorem nd_Line_looks_of : N_Line_looks_of.Nodup := by decide
def m_Line_looks_of : MS := (mSeq (mDrop (mCallN 2 (runP 2 m_check_sign) (mCons (mVar 0) (mCons (mVar 1) (mRet []))))) (mSeq (mRt (mOp dIx (mOp dIx (mFld 1 0 (mVar 0)) (mStr dSindex (mProp 1 (runP 2 m_Line_letters) (mVar 0)) (mVar 1))) (mRet (.int 1)))) mNext))
theorem b_Line_looks_of {w : World} {K : PySem.W.Frag} {mg : Str → Option Value} {base : Heap} {aL f : Addr} (L_cl : Cls K aL) (L_g : mg "Line" = some (.ref aL)) (L_is : InsTy K aL) {g_Line_letters a_Line_letters : Addr} {fd_Line_letters : FuncData} (p_Line_letters : Prp Pg w K mg base aL "letters" 1 g_Line_letters a_Line_letters fd_Line_letters ["self"] (spP (GL aL ["lot"]) K 1 (runP 2 m_Line_letters))) (L_na_lot : NoAttr K aL "lot") {a_check_sign : Addr} {fd_check_sign : FuncData} (d_check_sign : Cal Pg w K mg base "check_sign" 4 a_check_sign fd_check_sign ["line", "sign"] (spP (GL aL ["lot"]) K 2 (runP 2 m_check_sign))) :
    BodyOk Pg w K mg base (GL aL ["lot"]) N_Line_looks_of "Line.looks_of" (defScope s_Line_looks_of) (defBody s_Line_looks_of) 4 f false m_Line_looks_of := by
  intro cdv A outer s H E hr0 gd0 B Z a
  exact (dSs_cons (dS_expr (dE_call d_check_sign.F (hr0.mono (by decide)) gd0 tk_cx rfl d_check_sign.g d_check_sign.kp d_check_sign.b (dA_cons (n_var 0) (dA_cons (n_var 1) dA_nil)))) (dSs_cons (dS_ret (n_ix (n_ix (dE_fld L_cl L_na_lot lk_lot (n_var 0)) (dE_m1 PySem.F.slot_str_index PySem.F.type_str_index mt_sindex ok_sindex (dE_prop L_cl p_Line_letters.P p_Line_letters.F (hr0.mono (by decide)) gd0 p_Line_letters.B (n_var 0)) (dB_of (n_var 1)))) dE_int)) dSs_nil))
abbrev N_share_look : List Str := ["line", "sign", "other", "figure"]
theorem nd_share_look : N_share_look.Nodup := by decide
def m_share_look : MS := (mSeq (mRt (mUn dAny (mLst (mLc (mItems (mMeth 1 2 (runP 2 m_Line_looks_of) (mVar 0) (mCons (mVar 1) (mRet [])))) [3] (uNm 3) (mRet true) (mOp dIn (mVar 3) (mMeth 1 2 (runP 2 m_Line_looks_of) (mVar 0) (mCons (mVar 2) (mRet [])))))))) mNext)
theorem b_share_look {w : World} {K : PySem.W.Frag} {mg : Str → Option Value} {base : Heap} {aL f : Addr} (b_any : mg "any" = none) (L_cl : Cls K aL) (L_g : mg "Line" = some (.ref aL)) (L_is : InsTy K aL) {a_Line_looks_of : Addr} {fd_Line_looks_of : FuncData} (q_Line_looks_of : Met Pg w K mg base aL "looks_of" 5 a_Line_looks_of fd_Line_looks_of ["self", "sign"] (spP (GL aL ["lot"]) K 2 (runP 2 m_Line_looks_of))) :
    BodyOk Pg w K mg base (GL aL ["lot"]) N_share_look "share_look" (defScope s_share_look) (defBody s_share_look) 5 f false m_share_look := by
  intro cdv A outer s H E hr0 gd0 B Z a
  exact (dSs_cons (dS_ret (dE_callB (cr_any rfl) ok_any rfl b_any (by decide +kernel) (dB_of (dE_of (n_lc1 3 rfl nd_share_look io0 (dI_any (dE_meth L_cl q_Line_looks_of.M q_Line_looks_of.F (hr0.mono (by decide)) gd0 tk_cx q_Line_looks_of.B lk_no_looks_of (n_var 0) (dA_cons (n_var 1) dA_nil))) (fun _ _ _ _ _ => dTs_nil) (fun _ _ _ _ _ => (dE_cmp (op_inDB (u65 hr0)) ok_in (n_var 3) (dB_of (dE_meth L_cl q_Line_looks_of.M q_Line_looks_of.F (hr0.mono (by decide)) gd0 tk0 q_Line_looks_of.B lk_no_looks_of (n_var 0) (dA_cons (n_var 2) dA_nil))) rfl))))))) dSs_nil)
abbrev N_check_line : List Str := ["value"]
theorem nd_check_line : N_check_line.Nodup := by decide
def m_check_line : MS := (mSeq (mIfS (mNot (mBl (mIs (qCls 1) (mVar 0)))) (mSeq (fun _ => .err) mNext) mNext) mNext)
theorem b_check_line {w : World} {K : PySem.W.Frag} {mg : Str → Option Value} {base : Heap} {aL f : Addr} (b_isinstance : mg "isinstance" = none) (L_cl : Cls K aL) (L_g : mg "Line" = some (.ref aL)) (L_is : InsTy K aL) :
    BodyOk Pg w K mg base (GL aL ["lot"]) N_check_line "check_line" (defScope s_check_line) (defBody s_check_line) 0 f false m_check_line := by
  intro cdv A outer s H E hr0 gd0 B Z a
  exact (dSs_cons (dS_if (dT_not (dT_val (dE_isC (qCls_ok (c := 1) L_is) rfl b_isinstance rfl L_g (n_var 0)))) (dSs_cons dS_never dSs_nil) dSs_nil) dSs_nil)
abbrev N_mixed : List Str := ["line", "sign", "other_sign"]
theorem nd_mixed : N_mixed.Nodup := by decide
def m_mixed : MS := (mSeq (mDrop (mCallN 1 (runP 1 m_check_line) (mCons (mVar 0) (mRet [])))) (mSeq (mDrop (mCallN 2 (runP 2 m_check_sign) (mCons (mVar 0) (mCons (mVar 1) (mRet []))))) (mSeq (mDrop (mCallN 2 (runP 2 m_check_sign) (mCons (mVar 0) (mCons (mVar 2) (mRet []))))) (mSeq (mRt (mCallN 3 (runP 4 m_share_look) (mCons (mVar 0) (mCons (mVar 1) (mCons (mVar 2) (mRet [])))))) mNext))))
theorem b_mixed {w : World} {K : PySem.W.Frag} {mg : Str → Option Value} {base : Heap} {aL f : Addr} {a_share_look : Addr} {fd_share_look : FuncData} (d_share_look : Cal Pg w K mg base "share_look" 6 a_share_look fd_share_look ["line", "sign", "other"] (spP (GL aL ["lot"]) K 3 (runP 4 m_share_look))) {a_check_sign : Addr} {fd_check_sign : FuncData} (d_check_sign : Cal Pg w K mg base "check_sign" 4 a_check_sign fd_check_sign ["line", "sign"] (spP (GL aL ["lot"]) K 2 (runP 2 m_check_sign))) {a_check_line : Addr} {fd_check_line : FuncData} (d_check_line : Cal Pg w K mg base "check_line" 1 a_check_line fd_check_line ["value"] (spP (GL aL ["lot"]) K 1 (runP 1 m_check_line))) :
    BodyOk Pg w K mg base (GL aL ["lot"]) N_mixed "mixed" (defScope s_mixed) (defBody s_mixed) 6 f false m_mixed := by
  intro cdv A outer s H E hr0 gd0 B Z a
  exact (dSs_cons (dS_expr (dE_call d_check_line.F (hr0.mono (by decide)) gd0 tk_cx rfl d_check_line.g d_check_line.kp d_check_line.b (dA_cons (n_var 0) dA_nil))) (dSs_cons (dS_expr (dE_call d_check_sign.F (hr0.mono (by decide)) gd0 tk_cx rfl d_check_sign.g d_check_sign.kp d_check_sign.b (dA_cons (n_var 0) (dA_cons (n_var 1) dA_nil)))) (dSs_cons (dS_expr (dE_call d_check_sign.F (hr0.mono (by decide)) gd0 tk_cx rfl d_check_sign.g d_check_sign.kp d_check_sign.b (dA_cons (n_var 0) (dA_cons (n_var 2) dA_nil)))) (dSs_cons (dS_ret (dE_call d_share_look.F (hr0.mono (by decide)) gd0 tk_cx rfl d_share_look.g d_share_look.kp d_share_look.b (dA_cons (n_var 0) (dA_cons (n_var 1) (dA_cons (n_var 2) dA_nil))))) dSs_nil))))
abbrev N_looks_seen : List Str := ["seen", "sign", "figure"]
theorem nd_looks_seen : N_looks_seen.Nodup := by decide
def m_looks_seen : MS := (mSeq (mRt (mStr dJoin (mRet (.str "")) (mLst (mLc (mItems (mRet (.str "01234567"))) [2] (uNm 2) (mBl (mOp dIn (mTup (mCons (mVar 1) (mCons (mVar 2) (mRet [])))) (mVar 0))) (mVar 2))))) mNext)
theorem b_looks_seen {w : World} {K : PySem.W.Frag} {mg : Str → Option Value} {base : Heap} {aL f : Addr} (c_FIGURES : ∃ t, mg "FIGURES" = some (.str "01234567" t)) :
    BodyOk Pg w K mg base (GL aL ["lot"]) N_looks_seen "looks_seen" (defScope s_looks_seen) (defBody s_looks_seen) 0 f false m_looks_seen := by
  intro cdv A outer s H E hr0 gd0 B Z a
  exact (dSs_cons (dS_ret (dE_join dE_str (dB_of (dE_of (n_lc1 2 rfl nd_looks_seen io0 (dI_any (dE_gstr rfl c_FIGURES)) (fun _ _ _ _ _ => dTs_one (dT_cmp (op_inDB (u65 hr0)) ok_in (dE_tup (dA_cons (n_var 1) (dA_cons (n_var 2) dA_nil))) (dB_of (n_var 0)) rfl)) (fun _ _ _ _ _ => (n_var 2))))))) dSs_nil)
abbrev N_letters_seen : List Str := ["seen", "pair"]
theorem nd_letters_seen : N_letters_seen.Nodup := by decide
def m_letters_seen : MS := (mSeq (mRt (mLst (mUnF dSrtSet (mLst (mLc (mItems (mVar 0)) [1] (uNm 1) (mRet true) (mOp dIx (mVar 1) (mRet (.int 0)))))))) mNext)
theorem b_letters_seen {w : World} {K : PySem.W.Frag} {mg : Str → Option Value} {base : Heap} {aL f : Addr} (b_sorted : mg "sorted" = none) (b_set : mg "set" = none) :
    BodyOk Pg w K mg base (GL aL ["lot"]) N_letters_seen "letters_seen" (defScope s_letters_seen) (defBody s_letters_seen) 0 f false m_letters_seen := by
  intro cdv A outer s H E hr0 gd0 B Z a
  exact (dSs_cons (dS_ret (dE_of (dF_sortedSet rfl rfl b_sorted rfl b_set (dB_of (dE_of (n_lc1 1 rfl nd_letters_seen io0 (dI_any (n_var 0)) (fun _ _ _ _ _ => dTs_nil) (fun _ _ _ _ _ => (n_ix (n_var 1) dE_int)))))))) dSs_nil)
abbrev N_is_look : List Str := ["value"]
theorem nd_is_look : N_is_look.Nodup := by decide
def m_is_look : MS := (mSeq (mRt (mAndV (mIs (qTy "str" false) (mVar 0)) (mAndV (mOp dEq (mUn dLen (mVar 0)) (mRet (.int 1))) (mOp dIn (mVar 0) (mRet (.str "01234567")))))) mNext)
theorem b_is_look {w : World} {K : PySem.W.Frag} {mg : Str → Option Value} {base : Heap} {aL f : Addr} (b_isinstance : mg "isinstance" = none) (b_str : mg "str" = none) (b_len : mg "len" = none) (c_FIGURES : ∃ t, mg "FIGURES" = some (.str "01234567" t)) :
    BodyOk Pg w K mg base (GL aL ["lot"]) N_is_look "is_look" (defScope s_is_look) (defBody s_is_look) 0 f false m_is_look := by
  intro cdv A outer s H E hr0 gd0 B Z a
  exact (dSs_cons (dS_ret (dE_and (dE_isT (qTy_ok "str" _ _) rfl b_isinstance rfl b_str (by decide +kernel) (n_var 0)) (dE_and (dE_cmp (op_eqB (u64 hr0)) ok_eq (dE_callB call_len ok_len rfl b_len (by decide +kernel) (dB_of (n_var 0))) (dB_of dE_int) rfl) (dE_one (dE_cmp (op_inDB (u65 hr0)) ok_in (n_var 0) (dB_of (dE_gstr rfl c_FIGURES)) rfl))))) dSs_nil)
abbrev N_is_seen_pair : List Str := ["value"]
theorem nd_is_seen_pair : N_is_seen_pair.Nodup := by decide
def m_is_seen_pair : MS := (mSeq (mRt (mAndV (mIs (qTy "tuple" false) (mVar 0)) (mAndV (mOp dEq (mUn dLen (mVar 0)) (mRet (.int 2))) (mAndV (mCallN 1 (runP 1 m_is_letter) (mCons (mOp dIx (mVar 0) (mRet (.int 0))) (mRet []))) (mCallN 1 (runP 1 m_is_look) (mCons (mOp dIx (mVar 0) (mRet (.int 1))) (mRet []))))))) mNext)
theorem b_is_seen_pair {w : World} {K : PySem.W.Frag} {mg : Str → Option Value} {base : Heap} {aL f : Addr} (b_isinstance : mg "isinstance" = none) (b_tuple : mg "tuple" = none) (b_len : mg "len" = none) {a_is_letter : Addr} {fd_is_letter : FuncData} (d_is_letter : Cal Pg w K mg base "is_letter" 1 a_is_letter fd_is_letter ["value"] (spP (GL aL ["lot"]) K 1 (runP 1 m_is_letter))) {a_is_look : Addr} {fd_is_look : FuncData} (d_is_look : Cal Pg w K mg base "is_look" 1 a_is_look fd_is_look ["value"] (spP (GL aL ["lot"]) K 1 (runP 1 m_is_look))) :
    BodyOk Pg w K mg base (GL aL ["lot"]) N_is_seen_pair "is_seen_pair" (defScope s_is_seen_pair) (defBody s_is_seen_pair) 1 f false m_is_seen_pair := by
  intro cdv A outer s H E hr0 gd0 B Z a
  exact (dSs_cons (dS_ret (dE_and (dE_isT (qTy_ok "tuple" _ _) rfl b_isinstance rfl b_tuple (by decide +kernel) (n_var 0)) (dE_and (dE_cmp (op_eqB (u64 hr0)) ok_eq (dE_callB call_len ok_len rfl b_len (by decide +kernel) (dB_of (n_var 0))) (dB_of dE_int) rfl) (dE_and (dE_call d_is_letter.F (hr0.mono (by decide)) gd0 tk_cx rfl d_is_letter.g d_is_letter.kp d_is_letter.b (dA_cons (n_ix (n_var 0) dE_int) dA_nil)) (dE_one (dE_call d_is_look.F (hr0.mono (by decide)) gd0 tk_cx rfl d_is_look.g d_is_look.kp d_is_look.b (dA_cons (n_ix (n_var 0) dE_int) dA_nil))))))) dSs_nil)
abbrev N_check_seen : List Str := ["value", "index"]
theorem nd_check_seen : N_check_seen.Nodup := by decide
def m_check_seen : MS := (mSeq (mIfS (mOr (mNot (mBl (mIs (qTy "tuple" false) (mVar 0)))) (mBl (mOp dEq (mVar 0) (mTup (mRet []))))) (mSeq (fun _ => .err) mNext) mNext) (mSeq (mFor (mBind (mCons (mUn dLen (mVar 0)) (mRet [])) fun ds => mOpt (dRg1 ds)) (gNm 1) (mSeq (mIfS (mOr (mBl (mOp dEq (mVar 1) (mRet (.int 40)))) (mNot (mBl (mCallN 1 (runP 1 m_is_seen_pair) (mCons (mOp dIx (mVar 0) (mVar 1)) (mRet [])))))) (mSeq (fun _ => .err) mNext) mNext) mNext)) mNext))
theorem b_check_seen {w : World} {K : PySem.W.Frag} {mg : Str → Option Value} {base : Heap} {aL f : Addr} (b_range : mg "range" = none) (b_len : mg "len" = none) (c_MOST_SEEN : ∃ t, mg "MOST_SEEN" = some (.int 40 t)) {a_is_seen_pair : Addr} {fd_is_seen_pair : FuncData} (d_is_seen_pair : Cal Pg w K mg base "is_seen_pair" 2 a_is_seen_pair fd_is_seen_pair ["value"] (spP (GL aL ["lot"]) K 1 (runP 1 m_is_seen_pair))) (b_isinstance : mg "isinstance" = none) (b_tuple : mg "tuple" = none) :
    BodyOk Pg w K mg base (GL aL ["lot"]) N_check_seen "check_seen" (defScope s_check_seen) (defBody s_check_seen) 2 f false m_check_seen := by
  intro cdv A outer s H E hr0 gd0 B Z a
  exact (dSs_cons (dS_if (PW.pt (dW_or (dT_not (dT_val (dE_isT (qTy_ok "tuple" _ _) rfl b_isinstance rfl b_tuple (by decide +kernel) (n_var 0)))) (dW_or1 (dT_cmp (op_eqB (u64 hr0)) ok_eq (n_var 0) (dB_of (dE_tup dA_nil)) rfl)))) (dSs_cons dS_never dSs_nil) dSs_nil) (dSs_cons (dS_for ps_cx rfl (dI_rng1 rfl b_range (dA_cons (dE_callB call_len ok_len rfl b_len (by decide +kernel) (dB_of (n_var 0))) dA_nil)) (n_gname 1 nd_check_seen io0) (dSs_cons (dS_if (PW.pt (dW_or (dT_cmp (op_eqB (u64 hr0)) ok_eq (n_var 1) (dB_of (dE_gint rfl c_MOST_SEEN)) rfl) (dW_or1 (dT_not (dT_val (dE_call d_is_seen_pair.F (hr0.mono (by decide)) gd0 tk_cx rfl d_is_seen_pair.g d_is_seen_pair.kp d_is_seen_pair.b (dA_cons (n_ix (n_var 0) (n_var 1)) dA_nil))))))) (dSs_cons dS_never dSs_nil) dSs_nil) dSs_nil)) dSs_nil))
abbrev N_surely_mixed : List Str := ["seen", "k", "found", "own", "other", "figure"]
theorem nd_surely_mixed : N_surely_mixed.Nodup := by decide
def m_surely_mixed : MS := (mSeq (mDrop (mCallN 1 (runP 2 m_check_seen) (mCons (mVar 0) (mRet [])))) (mSeq (mParFV 2 3 (mFit (mRet [])) (mCallN 1 (runP 2 m_letters_seen) (mCons (mVar 0) (mRet [])))) (mSeq (mFor (mBind (mCons (mUn dLen (mVar 3)) (mRet [])) fun ds => mOpt (dRg1 ds)) (gNm 1) (mSeq (mFor (mItems (mSl (mVar 3) (mPart (mOp dAdd (mVar 1) (mRet (.int 1)))) (mRet none))) (gNm 4) (mSeq (mIfS (mBl (mUn dAny (mLst (mLc (mItems (mCallN 2 (runP 3 m_looks_seen) (mCons (mVar 0) (mCons (mOp dIx (mVar 3) (mVar 1)) (mRet []))))) [5] (uNm 5) (mRet true) (mOp dIn (mVar 5) (mCallN 2 (runP 3 m_looks_seen) (mCons (mVar 0) (mCons (mVar 4) (mRet []))))))))) (mSeq (mDrop (mApp 2 (mTup (mCons (mOp dIx (mVar 3) (mVar 1)) (mCons (mVar 4) (mRet [])))))) mNext) mNext) mNext)) mNext)) (mSeq (mRt (mUn dTuple (mOwn 2))) mNext))))
theorem b_surely_mixed {w : World} {K : PySem.W.Frag} {mg : Str → Option Value} {base : Heap} {aL f : Addr} (b_tuple : mg "tuple" = none) (b_range : mg "range" = none) (b_len : mg "len" = none) (b_any : mg "any" = none) {a_looks_seen : Addr} {fd_looks_seen : FuncData} (d_looks_seen : Cal Pg w K mg base "looks_seen" 1 a_looks_seen fd_looks_seen ["seen", "sign"] (spP (GL aL ["lot"]) K 2 (runP 3 m_looks_seen))) {a_letters_seen : Addr} {fd_letters_seen : FuncData} (d_letters_seen : Cal Pg w K mg base "letters_seen" 1 a_letters_seen fd_letters_seen ["seen"] (spP (GL aL ["lot"]) K 1 (runP 2 m_letters_seen))) {a_check_seen : Addr} {fd_check_seen : FuncData} (d_check_seen : Cal Pg w K mg base "check_seen" 3 a_check_seen fd_check_seen ["value"] (spP (GL aL ["lot"]) K 1 (runP 2 m_check_seen))) :
    BodyOk Pg w K mg base (GL aL ["lot"]) N_surely_mixed "surely_mixed" (defScope s_surely_mixed) (defBody s_surely_mixed) 3 f false m_surely_mixed := by
  intro cdv A outer s H E hr0 gd0 B Z a
  exact (dSs_cons (dS_expr (dE_call d_check_seen.F (hr0.mono (by decide)) gd0 tk_cx rfl d_check_seen.g d_check_seen.kp d_check_seen.b (dA_cons (n_var 0) dA_nil))) (dSs_cons (n_parFV 2 3 nd_surely_mixed io0 io0 (dF_lst dA_nil) (dE_call d_letters_seen.F (hr0.mono (by decide)) gd0 tk_cx rfl d_letters_seen.g d_letters_seen.kp d_letters_seen.b (dA_cons (n_var 0) dA_nil))) (dSs_cons (dS_for ps_cx rfl (dI_rng1 rfl b_range (dA_cons (dE_callB call_len ok_len rfl b_len (by decide +kernel) (dB_of (n_var 3))) dA_nil)) (n_gname 1 nd_surely_mixed io0) (dSs_cons (dS_for ps_cx rfl (dI_any (dE_sl (n_var 3) (dO_some (dE_op op_addB ok_add (n_var 1) (dB_of dE_int))) dO_none)) (n_gname 4 nd_surely_mixed io0) (dSs_cons (dS_if (dT_val (dE_callB (cr_any rfl) ok_any rfl b_any (by decide +kernel) (dB_of (dE_of (n_lc1 5 rfl nd_surely_mixed io0 (dI_any (dE_call d_looks_seen.F (hr0.mono (by decide)) gd0 tk_cx rfl d_looks_seen.g d_looks_seen.kp d_looks_seen.b (dA_cons (n_var 0) (dA_cons (n_ix (n_var 3) (n_var 1)) dA_nil)))) (fun _ _ _ _ _ => dTs_nil) (fun _ _ _ _ _ => (dE_cmp (op_inDB (u65 hr0)) ok_in (n_var 5) (dB_of (dE_call d_looks_seen.F (hr0.mono (by decide)) gd0 tk0 rfl d_looks_seen.g d_looks_seen.kp d_looks_seen.b (dA_cons (n_var 0) (dA_cons (n_var 4) dA_nil)))) rfl))))))) (dSs_cons (dS_expr (n_app 2 (dE_tup (dA_cons (n_ix (n_var 3) (n_var 1)) (dA_cons (n_var 4) dA_nil))))) dSs_nil) dSs_nil) dSs_nil)) dSs_nil)) (dSs_cons (dS_ret (dE_callTy call_tuple_of ok_tuple rfl b_tuple (by decide +kernel) (n_own 2))) dSs_nil))))
abbrev N_fits : List Str := ["line", "seen", "pair"]
theorem nd_fits : N_fits.Nodup := by decide
def m_fits : MS := (mSeq (mDrop (mCallN 1 (runP 1 m_check_line) (mCons (mVar 0) (mRet [])))) (mSeq (mDrop (mCallN 1 (runP 2 m_check_seen) (mCons (mVar 1) (mRet [])))) (mSeq (mRt (mUn dAll (mLst (mLc (mItems (mVar 1)) [2] (uNm 2) (mRet true) (mAndV (mInOwn 1 false (runP 2 m_Line_contains) (mOp dIx (mVar 2) (mRet (.int 0))) (mVar 0)) (mOp dIn (mOp dIx (mVar 2) (mRet (.int 1))) (mMeth 1 2 (runP 2 m_Line_looks_of) (mVar 0) (mCons (mOp dIx (mVar 2) (mRet (.int 0))) (mRet []))))))))) mNext)))
theorem b_fits {w : World} {K : PySem.W.Frag} {mg : Str → Option Value} {base : Heap} {aL f : Addr} (b_all : mg "all" = none) (L_cl : Cls K aL) (L_g : mg "Line" = some (.ref aL)) (L_is : InsTy K aL) {a_Line_contains : Addr} {fd_Line_contains : FuncData} (q_Line_contains : Met Pg w K mg base aL "__contains__" 3 a_Line_contains fd_Line_contains ["self", "value"] (spP (GL aL ["lot"]) K 2 (runP 2 m_Line_contains))) {a_Line_looks_of : Addr} {fd_Line_looks_of : FuncData} (q_Line_looks_of : Met Pg w K mg base aL "looks_of" 5 a_Line_looks_of fd_Line_looks_of ["self", "sign"] (spP (GL aL ["lot"]) K 2 (runP 2 m_Line_looks_of))) {a_check_seen : Addr} {fd_check_seen : FuncData} (d_check_seen : Cal Pg w K mg base "check_seen" 3 a_check_seen fd_check_seen ["value"] (spP (GL aL ["lot"]) K 1 (runP 2 m_check_seen))) {a_check_line : Addr} {fd_check_line : FuncData} (d_check_line : Cal Pg w K mg base "check_line" 1 a_check_line fd_check_line ["value"] (spP (GL aL ["lot"]) K 1 (runP 1 m_check_line))) :
    BodyOk Pg w K mg base (GL aL ["lot"]) N_fits "fits" (defScope s_fits) (defBody s_fits) 5 f false m_fits := by
  intro cdv A outer s H E hr0 gd0 B Z a
  exact (dSs_cons (dS_expr (dE_call d_check_line.F (hr0.mono (by decide)) gd0 tk_cx rfl d_check_line.g d_check_line.kp d_check_line.b (dA_cons (n_var 0) dA_nil))) (dSs_cons (dS_expr (dE_call d_check_seen.F (hr0.mono (by decide)) gd0 tk_cx rfl d_check_seen.g d_check_seen.kp d_check_seen.b (dA_cons (n_var 1) dA_nil))) (dSs_cons (dS_ret (dE_callB (cr_all rfl) ok_all rfl b_all (by decide +kernel) (dB_of (dE_of (n_lc1 2 rfl nd_fits io0 (dI_any (n_var 1)) (fun _ _ _ _ _ => dTs_nil) (fun _ _ _ _ _ => (dE_and (dE_inOwn q_Line_contains.M.at_ q_Line_contains.ty q_Line_contains.F (hr0.mono (by decide)) gd0 q_Line_contains.B tk0 (n_ix (n_var 2) dE_int) (n_var 0) rfl) (dE_one (dE_cmp (op_inDB (u65 hr0)) ok_in (n_ix (n_var 2) dE_int) (dB_of (dE_meth L_cl q_Line_looks_of.M q_Line_looks_of.F (hr0.mono (by decide)) gd0 tk0 q_Line_looks_of.B lk_no_looks_of (n_var 0) (dA_cons (n_ix (n_var 2) dE_int) dA_nil))) rfl))))))))) dSs_nil)))
abbrev N__law_drop : List Str := ["spring", "size", "state", "figure"]
theorem nd__law_drop : N__law_drop.Nodup := by decide
def m__law_drop : MS := (mSeq (mIfS (mBl (mOp dGt (mIxO 0 (mRet (.int 0))) (mRet (.int 0)))) (mSeq (sBind (mOp dDivmod (mIxO 0 (mRet (.int 0))) (mVar 1)) fun d => onlyNx ((gTp 2 (gCons' (gIx 0 (mRet (.int 0))) (gCons' (gNm 3) gNil'))) d)) (mSeq (mRt (mVar 3)) mNext)) mNext) (mSeq (sBind (mOp dAdd (mIxO 0 (mRet (.int 2))) (mRet (.int 1))) fun d => onlyNx ((gIx 0 (mRet (.int 2))) d)) (mSeq (mSet 2 (mOp dMod (mUn dToInt (mOp dAdd (mOp dAdd (mOp dMul (mIxO 0 (mRet (.int 1))) (mOp dAdd (mRet (.int 52009)) (mOp dMul (mRet (.int 2)) (mIxO 0 (mRet (.int 2)))))) (mOp dMul (mRet (.int 4111)) (mIxO 0 (mRet (.int 2))))) (mRet (.int 17)))) (mRet (.int 2147483549)))) (mSeq (sBind (mOp dMod (mUn dToInt (mOp dAdd (mOp dAdd (mOp dMul (mVar 2) (mRet (.int 40009))) (mOp dMul (mRet (.int 11)) (mIxO 0 (mRet (.int 2))))) (mRet (.int 3)))) (mRet (.int 2147483497))) fun d => onlyNx ((gIx 0 (mRet (.int 1))) d)) (mSeq (mRt (mOp dMod (mUn dToInt (mOp dDiv (mIxO 0 (mRet (.int 1))) (mRet (.int 2048)))) (mVar 1))) mNext)))))
theorem b__law_drop {w : World} {K : PySem.W.Frag} {mg : Str → Option Value} {base : Heap} {aL f : Addr} (b_int : mg "int" = none) (b_divmod : mg "divmod" = none) :
    BodyOk Pg w K mg base (GL aL ["lot"]) N__law_drop "_law_drop" (defScope s__law_drop) (defBody s__law_drop) 0 f true m__law_drop := by
  intro cdv A outer s H E hr0 gd0 B Z a
  exact (dSs_cons (dS_if (dT_cmp op_gt ok_gt (n_ixO 0 dE_int) (dB_of dE_int) rfl) (dSs_cons (dS_asg (dE_callB2 call_divmod ok_divmod rfl b_divmod (by decide +kernel) (n_ixO 0 dE_int) (n_var 1)) (dG_tup rfl (dGs_cons (n_gsub 0 dE_int) (dGs_cons (n_gname 3 nd__law_drop (io1 (by decide))) dGs_nil)))) (dSs_cons (dS_ret (n_var 3)) dSs_nil)) dSs_nil) (dSs_cons (dS_asg (dE_op op_addB ok_add (n_ixO 0 dE_int) (dB_of dE_int)) (n_gsub 0 dE_int)) (dSs_cons (n_set 2 nd__law_drop (io1 (by decide)) (dE_op op_mod ok_mod (dE_callTy call_int1 ok_int rfl b_int (by decide +kernel) (dB_of (dE_op op_addB ok_add (dE_op op_addB ok_add (dE_op op_mulB ok_mul (n_ixO 0 dE_int) (dB_of (dE_op op_addB ok_add dE_int (dB_of (dE_op op_mulB ok_mul dE_int (dB_of (n_ixO 0 dE_int))))))) (dB_of (dE_op op_mulB ok_mul dE_int (dB_of (n_ixO 0 dE_int))))) (dB_of dE_int)))) (dB_of dE_int))) (dSs_cons (dS_asg (dE_op op_mod ok_mod (dE_callTy call_int1 ok_int rfl b_int (by decide +kernel) (dB_of (dE_op op_addB ok_add (dE_op op_addB ok_add (dE_op op_mulB ok_mul (n_var 2) (dB_of dE_int)) (dB_of (dE_op op_mulB ok_mul dE_int (dB_of (n_ixO 0 dE_int))))) (dB_of dE_int)))) (dB_of dE_int)) (n_gsub 0 dE_int)) (dSs_cons (dS_ret (dE_op op_mod ok_mod (dE_callTy call_int1 ok_int rfl b_int (by decide +kernel) (dB_of (dE_op op_fdiv ok_div (n_ixO 0 dE_int) (dB_of dE_int)))) (dB_of (n_var 1)))) dSs_nil)))))
abbrev N__law_choice : List Str := ["spring", "menu"]
theorem nd__law_choice : N__law_choice.Nodup := by decide
def m__law_choice : MS := (mSeq (mRt (mOp dIx (mVar 1) (mCallI 0 1 (runI 4 m__law_drop) (mCons (mUn dLen (mVar 1)) (mRet []))))) mNext)
theorem b__law_choice {w : World} {K : PySem.W.Frag} {mg : Str → Option Value} {base : Heap} {aL f : Addr} {a__law_drop : Addr} {fd__law_drop : FuncData} (d__law_drop : Cal Pg w K mg base "_law_drop" 1 a__law_drop fd__law_drop ["spring", "size"] (spI (GL aL ["lot"]) K 1 (runI 4 m__law_drop))) (b_len : mg "len" = none) :
    BodyOk Pg w K mg base (GL aL ["lot"]) N__law_choice "_law_choice" (defScope s__law_choice) (defBody s__law_choice) 1 f true m__law_choice := by
  intro cdv A outer s H E hr0 gd0 B Z a
  exact (dSs_cons (dS_ret (n_ix (n_var 1) (n_callI 0 d__law_drop.F (hr0.mono (by decide)) gd0 tk_cx d__law_drop.g d__law_drop.kp d__law_drop.b (dA_cons (dE_callB call_len ok_len rfl b_len (by decide +kernel) (dB_of (n_var 1))) dA_nil)))) dSs_nil)
abbrev N__law_pairs_for : List Str := ["spring", "told", "found", "turn", "way", "letter", "own_looks"]
theorem nd__law_pairs_for : N__law_pairs_for.Nodup := by decide
def m__law_pairs_for : MS := (mSeq (mSetF 2 (mFit (mRet []))) (mSeq (mFor (mBind (mCons (mOp dAdd (mRet (.int 1)) (mCallI 0 1 (runI 4 m__law_drop) (mCons (mCallI 0 1 (runI 2 m__law_choice) (mCons (mLst (mFit (mCons (mRet (.int 3)) (mCons (mRet (.int 10)) (mCons (mRet (.int 40)) (mRet [])))))) (mRet []))) (mRet [])))) (mRet [])) fun ds => mOpt (dRg1 ds)) (gNm 3) (mSeq (sBind (mCallI 0 1 (runI 2 m__law_choice) (mCons (mVar 1) (mRet []))) fun d => onlyNx ((gTp 2 (gCons' (gNm 5) (gCons' (gNm 6) gNil'))) d)) (mSeq (mSet 4 (mCallI 0 1 (runI 4 m__law_drop) (mCons (mRet (.int 24)) (mRet [])))) (mSeq (mSet 5 (mIf (mBl (mOp dEq (mVar 4) (mRet (.int 0)))) (mCallI 0 1 (runI 2 m__law_choice) (mCons (mLst (mUnF dList (mRet (.str "abcdefghijklmnopqrstuvwxyz")))) (mRet []))) (mVar 5))) (mSeq (mDrop (mApp 2 (mTup (mCons (mVar 5) (mCons (mCallI 0 1 (runI 2 m__law_choice) (mCons (mIf (mBl (mOp dEq (mVar 4) (mRet (.int 1)))) (mRet (.str "01234567")) (mVar 6)) (mRet []))) (mRet [])))))) mNext))))) (mSeq (mRt (mUn dTuple (mOwn 2))) mNext)))
theorem b__law_pairs_for {w : World} {K : PySem.W.Frag} {mg : Str → Option Value} {base : Heap} {aL f : Addr} (b_tuple : mg "tuple" = none) (b_range : mg "range" = none) {a__law_drop : Addr} {fd__law_drop : FuncData} (d__law_drop : Cal Pg w K mg base "_law_drop" 1 a__law_drop fd__law_drop ["spring", "size"] (spI (GL aL ["lot"]) K 1 (runI 4 m__law_drop))) {a__law_choice : Addr} {fd__law_choice : FuncData} (d__law_choice : Cal Pg w K mg base "_law_choice" 2 a__law_choice fd__law_choice ["spring", "menu"] (spI (GL aL ["lot"]) K 1 (runI 2 m__law_choice))) (b_list : mg "list" = none) :
    BodyOk Pg w K mg base (GL aL ["lot"]) N__law_pairs_for "_law_pairs_for" (defScope s__law_pairs_for) (defBody s__law_pairs_for) 2 f true m__law_pairs_for := by
  intro cdv A outer s H E hr0 gd0 B Z a
  exact (dSs_cons (n_setF 2 nd__law_pairs_for (io1 (by decide)) (dF_lst dA_nil)) (dSs_cons (dS_for ps_cx rfl (dI_rng1 rfl b_range (dA_cons (dE_op op_addB ok_add dE_int (dB_of (n_callI 0 d__law_drop.F (hr0.mono (by decide)) gd0 tk_cx d__law_drop.g d__law_drop.kp d__law_drop.b (dA_cons (n_callI 0 d__law_choice.F (hr0.mono (by decide)) gd0 tk_cx d__law_choice.g d__law_choice.kp d__law_choice.b (dA_cons (dE_of (dF_lst (dA_cons dE_int (dA_cons dE_int (dA_cons dE_int dA_nil))))) dA_nil)) dA_nil)))) dA_nil)) (n_gname 3 nd__law_pairs_for (io1 (by decide))) (dSs_cons (dS_asg (n_callI 0 d__law_choice.F (hr0.mono (by decide)) gd0 tk_cx d__law_choice.g d__law_choice.kp d__law_choice.b (dA_cons (n_var 1) dA_nil)) (dG_tup rfl (dGs_cons (n_gname 5 nd__law_pairs_for (io1 (by decide))) (dGs_cons (n_gname 6 nd__law_pairs_for (io1 (by decide))) dGs_nil)))) (dSs_cons (n_set 4 nd__law_pairs_for (io1 (by decide)) (n_callI 0 d__law_drop.F (hr0.mono (by decide)) gd0 tk_cx d__law_drop.g d__law_drop.kp d__law_drop.b (dA_cons dE_int dA_nil))) (dSs_cons (n_set 5 nd__law_pairs_for (io1 (by decide)) (dE_if (dT_cmp (op_eqB (u64 hr0)) ok_eq (n_var 4) (dB_of dE_int) rfl) (n_callI 0 d__law_choice.F (hr0.mono (by decide)) gd0 tk_cx d__law_choice.g d__law_choice.kp d__law_choice.b (dA_cons (dE_of (dF_callTy (call_listB rfl) ok_list rfl b_list (by decide +kernel) (dB_of dE_str))) dA_nil)) (n_var 5))) (dSs_cons (dS_expr (n_app 2 (dE_tup (dA_cons (n_var 5) (dA_cons (n_callI 0 d__law_choice.F (hr0.mono (by decide)) gd0 tk_cx d__law_choice.g d__law_choice.kp d__law_choice.b (dA_cons (dE_if (dT_cmp (op_eqB (u64 hr0)) ok_eq (n_var 4) (dB_of dE_int) rfl) dE_str (n_var 6)) dA_nil)) dA_nil))))) dSs_nil))))) (dSs_cons (dS_ret (dE_callTy call_tuple_of ok_tuple rfl b_tuple (by decide +kernel) (n_own 2))) dSs_nil)))
abbrev N_are_looks : List Str := ["value", "k", "figure"]
theorem nd_are_looks : N_are_looks.Nodup := by decide
def m_are_looks : MS := (mSeq (mIfS (mOr (mNot (mBl (mIs (qTy "str" false) (mVar 0)))) (mOr (mBl (mOp dEq (mVar 0) (mRet (.str "")))) (mNot (mBl (mUn dAll (mLst (mLc (mItems (mVar 0)) [2] (uNm 2) (mRet true) (mOp dIn (mVar 2) (mRet (.str "01234567")))))))))) (mSeq (mRt (mRet (.bl false))) mNext) mNext) (mSeq (mRt (mUn dAll (mLst (mLc (mBind (mCons (mOp dSub (mUn dLen (mVar 0)) (mRet (.int 1))) (mRet [])) fun ds => mOpt (dRg1 ds)) [1] (uNm 1) (mRet true) (mOp dLt (mOp dIx (mVar 0) (mVar 1)) (mOp dIx (mVar 0) (mOp dAdd (mVar 1) (mRet (.int 1))))))))) mNext))
theorem b_are_looks {w : World} {K : PySem.W.Frag} {mg : Str → Option Value} {base : Heap} {aL f : Addr} (b_all : mg "all" = none) (b_range : mg "range" = none) (b_len : mg "len" = none) (b_isinstance : mg "isinstance" = none) (b_str : mg "str" = none) (c_FIGURES : ∃ t, mg "FIGURES" = some (.str "01234567" t)) :
    BodyOk Pg w K mg base (GL aL ["lot"]) N_are_looks "are_looks" (defScope s_are_looks) (defBody s_are_looks) 0 f false m_are_looks := by
  intro cdv A outer s H E hr0 gd0 B Z a
  exact (dSs_cons (dS_if (PW.pt (dW_or (dT_not (dT_val (dE_isT (qTy_ok "str" _ _) rfl b_isinstance rfl b_str (by decide +kernel) (n_var 0)))) (dW_or (dT_cmp (op_eqB (u64 hr0)) ok_eq (n_var 0) (dB_of dE_str) rfl) (dW_or1 (dT_not (dT_val (dE_callB (cr_all rfl) ok_all rfl b_all (by decide +kernel) (dB_of (dE_of (n_lc1 2 rfl nd_are_looks io0 (dI_any (n_var 0)) (fun _ _ _ _ _ => dTs_nil) (fun _ _ _ _ _ => (dE_cmp (op_inDB (u65 hr0)) ok_in (n_var 2) (dB_of (dE_gstr rfl c_FIGURES)) rfl)))))))))))) (dSs_cons (dS_ret dE_bl) dSs_nil) dSs_nil) (dSs_cons (dS_ret (dE_callB (cr_all rfl) ok_all rfl b_all (by decide +kernel) (dB_of (dE_of (n_lc1 1 rfl nd_are_looks io0 (dI_rng1 rfl b_range (dA_cons (dE_op op_sub ok_sub (dE_callB call_len ok_len rfl b_len (by decide +kernel) (dB_of (n_var 0))) (dB_of dE_int)) dA_nil)) (fun _ _ _ _ _ => dTs_nil) (fun _ _ _ _ _ => (dE_cmp op_ltB ok_lt (n_ix (n_var 0) (n_var 1)) (dB_of (n_ix (n_var 0) (dE_op op_addB ok_add (n_var 1) (dB_of dE_int)))) rfl))))))) dSs_nil))
abbrev N_is_pair : List Str := ["value"]
theorem nd_is_pair : N_is_pair.Nodup := by decide
def m_is_pair : MS := (mSeq (mRt (mAndV (mIs (qTy "tuple" false) (mVar 0)) (mAndV (mOp dEq (mUn dLen (mVar 0)) (mRet (.int 2))) (mAndV (mCallN 1 (runP 1 m_is_letter) (mCons (mOp dIx (mVar 0) (mRet (.int 0))) (mRet []))) (mCallN 1 (runP 3 m_are_looks) (mCons (mOp dIx (mVar 0) (mRet (.int 1))) (mRet []))))))) mNext)
theorem b_is_pair {w : World} {K : PySem.W.Frag} {mg : Str → Option Value} {base : Heap} {aL f : Addr} (b_isinstance : mg "isinstance" = none) (b_tuple : mg "tuple" = none) (b_len : mg "len" = none) {a_is_letter : Addr} {fd_is_letter : FuncData} (d_is_letter : Cal Pg w K mg base "is_letter" 1 a_is_letter fd_is_letter ["value"] (spP (GL aL ["lot"]) K 1 (runP 1 m_is_letter))) {a_are_looks : Addr} {fd_are_looks : FuncData} (d_are_looks : Cal Pg w K mg base "are_looks" 1 a_are_looks fd_are_looks ["value"] (spP (GL aL ["lot"]) K 1 (runP 3 m_are_looks))) :
    BodyOk Pg w K mg base (GL aL ["lot"]) N_is_pair "is_pair" (defScope s_is_pair) (defBody s_is_pair) 1 f false m_is_pair := by
  intro cdv A outer s H E hr0 gd0 B Z a
  exact (dSs_cons (dS_ret (dE_and (dE_isT (qTy_ok "tuple" _ _) rfl b_isinstance rfl b_tuple (by decide +kernel) (n_var 0)) (dE_and (dE_cmp (op_eqB (u64 hr0)) ok_eq (dE_callB call_len ok_len rfl b_len (by decide +kernel) (dB_of (n_var 0))) (dB_of dE_int) rfl) (dE_and (dE_call d_is_letter.F (hr0.mono (by decide)) gd0 tk_cx rfl d_is_letter.g d_is_letter.kp d_is_letter.b (dA_cons (n_ix (n_var 0) dE_int) dA_nil)) (dE_one (dE_call d_are_looks.F (hr0.mono (by decide)) gd0 tk_cx rfl d_are_looks.g d_are_looks.kp d_are_looks.b (dA_cons (n_ix (n_var 0) dE_int) dA_nil))))))) dSs_nil)
abbrev N_check_signs : List Str := ["signs", "index", "known", "each"]
theorem nd_check_signs : N_check_signs.Nodup := by decide
def m_check_signs : MS := (mSeq (mIfS (mOr (mNot (mBl (mIs (qTy "tuple" false) (mVar 0)))) (mBl (mOp dEq (mVar 0) (mTup (mRet []))))) (mSeq (fun _ => .err) mNext) mNext) (mSeq (mFor (mBind (mCons (mUn dLen (mVar 0)) (mRet [])) fun ds => mOpt (dRg1 ds)) (gNm 1) (mSeq (mSet 2 (mLst (mLc (mItems (mSl (mVar 0) (mRet none) (mPart (mVar 1)))) [3] (uNm 3) (mRet true) (mOp dIx (mVar 3) (mRet (.int 0)))))) (mSeq (mIfS (mOr (mBl (mOp dEq (mVar 1) (mRet (.int 6)))) (mOr (mNot (mBl (mCallN 1 (runP 1 m_is_pair) (mCons (mOp dIx (mVar 0) (mVar 1)) (mRet []))))) (mBl (mOp dIn (mOp dIx (mOp dIx (mVar 0) (mVar 1)) (mRet (.int 0))) (mVar 2))))) (mSeq (fun _ => .err) mNext) mNext) mNext))) (mSeq (mIfS (mBl (mOp dLt (mUn dLen (mVar 0)) (mRet (.int 2)))) (mSeq (fun _ => .err) mNext) mNext) mNext)))
theorem b_check_signs {w : World} {K : PySem.W.Frag} {mg : Str → Option Value} {base : Heap} {aL f : Addr} (b_len : mg "len" = none) (c_LEAST_SIGNS : ∃ t, mg "LEAST_SIGNS" = some (.int 2 t)) (b_range : mg "range" = none) (c_MOST_SIGNS : ∃ t, mg "MOST_SIGNS" = some (.int 6 t)) {a_is_pair : Addr} {fd_is_pair : FuncData} (d_is_pair : Cal Pg w K mg base "is_pair" 2 a_is_pair fd_is_pair ["value"] (spP (GL aL ["lot"]) K 1 (runP 1 m_is_pair))) (b_isinstance : mg "isinstance" = none) (b_tuple : mg "tuple" = none) :
    BodyOk Pg w K mg base (GL aL ["lot"]) N_check_signs "check_signs" (defScope s_check_signs) (defBody s_check_signs) 2 f false m_check_signs := by
  intro cdv A outer s H E hr0 gd0 B Z a
  exact (dSs_cons (dS_if (PW.pt (dW_or (dT_not (dT_val (dE_isT (qTy_ok "tuple" _ _) rfl b_isinstance rfl b_tuple (by decide +kernel) (n_var 0)))) (dW_or1 (dT_cmp (op_eqB (u64 hr0)) ok_eq (n_var 0) (dB_of (dE_tup dA_nil)) rfl)))) (dSs_cons dS_never dSs_nil) dSs_nil) (dSs_cons (dS_for ps_cx rfl (dI_rng1 rfl b_range (dA_cons (dE_callB call_len ok_len rfl b_len (by decide +kernel) (dB_of (n_var 0))) dA_nil)) (n_gname 1 nd_check_signs io0) (dSs_cons (n_setLcV 2 3 rfl nd_check_signs io0 io0 (dI_any (dE_sl (n_var 0) dO_none (dO_some (n_var 1)))) (fun _ _ _ _ _ => dTs_nil) (fun _ _ _ _ _ => (n_ix (n_var 3) dE_int))) (dSs_cons (dS_if (PW.pt (dW_or (dT_cmp (op_eqB (u64 hr0)) ok_eq (n_var 1) (dB_of (dE_gint rfl c_MOST_SIGNS)) rfl) (dW_or (dT_not (dT_val (dE_call d_is_pair.F (hr0.mono (by decide)) gd0 tk_cx rfl d_is_pair.g d_is_pair.kp d_is_pair.b (dA_cons (n_ix (n_var 0) (n_var 1)) dA_nil)))) (dW_or1 (dT_cmp (op_inDB (u65 hr0)) ok_in (n_ix (n_ix (n_var 0) (n_var 1)) dE_int) (dB_of (n_var 2)) rfl))))) (dSs_cons dS_never dSs_nil) dSs_nil) dSs_nil))) (dSs_cons (dS_if (dT_cmp op_ltB ok_lt (dE_callB call_len ok_len rfl b_len (by decide +kernel) (dB_of (n_var 0))) (dB_of (dE_gint rfl c_LEAST_SIGNS)) rfl) (dSs_cons dS_never dSs_nil) dSs_nil) dSs_nil)))
abbrev N_Line_init : List Str := ["self", "signs"]
theorem nd_Line_init : N_Line_init.Nodup := by decide
def m_Line_init : MS := (mSeq (mDrop (mCallN 1 (runP 4 m_check_signs) (mCons (mVar 1) (mRet [])))) (mSeq (mFldO 0 0 1 none (mVar 1)) mNext))
theorem b_Line_init {w : World} {K : PySem.W.Frag} {mg : Str → Option Value} {base : Heap} {aL f : Addr} (L_cl : Cls K aL) (L_g : mg "Line" = some (.ref aL)) (L_is : InsTy K aL) (L_na_lot : NoAttr K aL "lot") {a_check_signs : Addr} {fd_check_signs : FuncData} (d_check_signs : Cal Pg w K mg base "check_signs" 3 a_check_signs fd_check_signs ["signs"] (spP (GL aL ["lot"]) K 1 (runP 4 m_check_signs))) :
    BodyOk Pg w K mg base (GL aL ["lot"]) N_Line_init "Line.__init__" (defScope s_Line_init) (defBody s_Line_init) 3 f true m_Line_init := by
  intro cdv A outer s H E hr0 gd0 B Z a
  exact (dSs_cons (dS_expr (dE_call d_check_signs.F (hr0.mono (by decide)) gd0 tk_cx rfl d_check_signs.g d_check_signs.kp d_check_signs.b (dA_cons (n_var 1) dA_nil))) (dSs_cons (n_fldO 0 L_cl L_na_lot rfl le_lot up_lot (n_var 1)) dSs_nil))
abbrev N__law_names : List Str := ["spring", "size", "turn", "bag", "found"]
theorem nd__law_names : N__law_names.Nodup := by decide
def m__law_names : MS := (mSeq (mParFF 3 4 (mUnF dList (mRet (.str "abcdefghijklmnopqrstuvwxyz"))) (mFit (mRet []))) (mSeq (mFor (mBind (mCons (mVar 1) (mRet [])) fun ds => mOpt (dRg1 ds)) (gNm 2) (mSeq (mDrop (mApp 4 (mPop 3 (mCallI 0 1 (runI 4 m__law_drop) (mCons (mUn dLen (mOwn 3)) (mRet [])))))) mNext)) (mSeq (mRtO 4) mNext)))
theorem b__law_names {w : World} {K : PySem.W.Frag} {mg : Str → Option Value} {base : Heap} {aL f : Addr} (b_range : mg "range" = none) {a__law_drop : Addr} {fd__law_drop : FuncData} (d__law_drop : Cal Pg w K mg base "_law_drop" 1 a__law_drop fd__law_drop ["spring", "size"] (spI (GL aL ["lot"]) K 1 (runI 4 m__law_drop))) (b_len : mg "len" = none) (b_list : mg "list" = none) :
    BodyOk Pg w K mg base (GL aL ["lot"]) N__law_names "_law_names" (defScope s__law_names) (defBody s__law_names) 1 f true m__law_names := by
  intro cdv A outer s H E hr0 gd0 B Z a
  exact (dSs_cons (n_parFF 3 4 nd__law_names (io1 (by decide)) (io1 (by decide)) (dF_callTy (call_listB rfl) ok_list rfl b_list (by decide +kernel) (dB_of dE_str)) (dF_lst dA_nil)) (dSs_cons (dS_for ps_cx rfl (dI_rng1 rfl b_range (dA_cons (n_var 1) dA_nil)) (n_gname 2 nd__law_names (io1 (by decide))) (dSs_cons (dS_expr (n_app 4 (n_pop 3 (n_callI 0 d__law_drop.F (hr0.mono (by decide)) gd0 tk_cx d__law_drop.g d__law_drop.kp d__law_drop.b (dA_cons (dE_callB call_len ok_len rfl b_len (by decide +kernel) (n_own 3)) dA_nil))))) dSs_nil)) (dSs_cons (n_retO 4 (io1 (by decide))) dSs_nil)))
abbrev N__law_mixed_up : List Str := ["spring", "things_here", "turn", "bag", "found"]
theorem nd__law_mixed_up : N__law_mixed_up.Nodup := by decide
def m__law_mixed_up : MS := (mSeq (mParFF 3 4 (mUnF dList (mVar 1)) (mFit (mRet []))) (mSeq (mFor (mBind (mCons (mUn dLen (mOwn 3)) (mRet [])) fun ds => mOpt (dRg1 ds)) (gNm 2) (mSeq (mDrop (mApp 4 (mPop 3 (mCallI 0 1 (runI 4 m__law_drop) (mCons (mUn dLen (mOwn 3)) (mRet [])))))) mNext)) (mSeq (mRtO 4) mNext)))
theorem b__law_mixed_up {w : World} {K : PySem.W.Frag} {mg : Str → Option Value} {base : Heap} {aL f : Addr} (b_range : mg "range" = none) (b_len : mg "len" = none) {a__law_drop : Addr} {fd__law_drop : FuncData} (d__law_drop : Cal Pg w K mg base "_law_drop" 1 a__law_drop fd__law_drop ["spring", "size"] (spI (GL aL ["lot"]) K 1 (runI 4 m__law_drop))) (b_list : mg "list" = none) :
    BodyOk Pg w K mg base (GL aL ["lot"]) N__law_mixed_up "_law_mixed_up" (defScope s__law_mixed_up) (defBody s__law_mixed_up) 1 f true m__law_mixed_up := by
  intro cdv A outer s H E hr0 gd0 B Z a
  exact (dSs_cons (n_parFF 3 4 nd__law_mixed_up (io1 (by decide)) (io1 (by decide)) (dF_callTy (call_listB rfl) ok_list rfl b_list (by decide +kernel) (dB_of (n_var 1))) (dF_lst dA_nil)) (dSs_cons (dS_for ps_cx rfl (dI_rng1 rfl b_range (dA_cons (dE_callB call_len ok_len rfl b_len (by decide +kernel) (n_own 3)) dA_nil)) (n_gname 2 nd__law_mixed_up (io1 (by decide))) (dSs_cons (dS_expr (n_app 4 (n_pop 3 (n_callI 0 d__law_drop.F (hr0.mono (by decide)) gd0 tk_cx d__law_drop.g d__law_drop.kp d__law_drop.b (dA_cons (dE_callB call_len ok_len rfl b_len (by decide +kernel) (n_own 3)) dA_nil))))) dSs_nil)) (dSs_cons (n_retO 4 (io1 (by decide))) dSs_nil)))
abbrev N__law_some_looks : List Str := ["spring", "menu", "found", "figure"]
theorem nd__law_some_looks : N__law_some_looks.Nodup := by decide
def m__law_some_looks : MS := (mSeq (mSet 2 (mLst (mLc (mItems (mVar 1)) [3] (uNm 3) (mBl (mOp dEq (mCallI 0 1 (runI 4 m__law_drop) (mCons (mRet (.int 3)) (mRet []))) (mRet (.int 0)))) (mVar 3)))) (mSeq (mRt (mStr dJoin (mRet (.str "")) (mLst (mUnF dSorted (mIf (mBl (mOp dNe (mVar 2) (mLst (mFit (mRet []))))) (mVar 2) (mLst (mFit (mCons (mCallI 0 1 (runI 2 m__law_choice) (mCons (mVar 1) (mRet []))) (mRet []))))))))) mNext))
theorem b__law_some_looks {w : World} {K : PySem.W.Frag} {mg : Str → Option Value} {base : Heap} {aL f : Addr} (b_sorted : mg "sorted" = none) {a__law_choice : Addr} {fd__law_choice : FuncData} (d__law_choice : Cal Pg w K mg base "_law_choice" 2 a__law_choice fd__law_choice ["spring", "menu"] (spI (GL aL ["lot"]) K 1 (runI 2 m__law_choice))) {a__law_drop : Addr} {fd__law_drop : FuncData} (d__law_drop : Cal Pg w K mg base "_law_drop" 1 a__law_drop fd__law_drop ["spring", "size"] (spI (GL aL ["lot"]) K 1 (runI 4 m__law_drop))) :
    BodyOk Pg w K mg base (GL aL ["lot"]) N__law_some_looks "_law_some_looks" (defScope s__law_some_looks) (defBody s__law_some_looks) 2 f true m__law_some_looks := by
  intro cdv A outer s H E hr0 gd0 B Z a
  exact (dSs_cons (n_setLcV 2 3 rfl nd__law_some_looks (io1 (by decide)) (io1 (by decide)) (dI_any (n_var 1)) (fun _ _ _ _ _ => dTs_one (dT_cmp (op_eqB (u64 hr0)) ok_eq (n_callI 0 d__law_drop.F (hr0.mono (by decide)) gd0 tk0 d__law_drop.g d__law_drop.kp d__law_drop.b (dA_cons dE_int dA_nil)) (dB_of dE_int) rfl)) (fun _ _ _ _ _ => (n_var 3))) (dSs_cons (dS_ret (dE_join dE_str (dB_of (dE_of (dF_callB cr_sortedS ok_sorted rfl b_sorted (by decide +kernel) (dB_if (dT_cmp (op_neB (u64 hr0)) ok_ne (n_var 2) (dB_of (dE_of (dF_lst dA_nil))) rfl) (dB_of (n_var 2)) (dB_of (dE_of (dF_lst (dA_cons (n_callI 0 d__law_choice.F (hr0.mono (by decide)) gd0 tk_cx d__law_choice.g d__law_choice.kp d__law_choice.b (dA_cons (n_var 1) dA_nil)) dA_nil)))))))))) dSs_nil))
abbrev N__law_ring_lots : List Str := ["spring", "size", "round_here", "found", "k", "menu"]
theorem nd__law_ring_lots : N__law_ring_lots.Nodup := by decide
def m__law_ring_lots : MS := (mSeq (mSet 2 (mCallI 0 1 (runI 5 m__law_mixed_up) (mCons (mRet (.str "01234567")) (mRet [])))) (mSeq (mSetF 3 (mLc (mBind (mCons (mRet (.int 5)) (mRet [])) fun ds => mOpt (dRg1 ds)) [4] (uNm 4) (mRet true) (mStr dJoin (mRet (.str "")) (mLst (mUnF dSorted (mLst (mFit (mCons (mOp dIx (mVar 2) (mVar 4)) (mCons (mOp dIx (mVar 2) (mOp dMod (mUn dToInt (mOp dAdd (mVar 4) (mRet (.int 1)))) (mRet (.int 5)))) (mRet [])))))))))) (mSeq (mIfS (mBl (mOp dEq (mCallI 0 1 (runI 4 m__law_drop) (mCons (mRet (.int 3)) (mRet []))) (mRet (.int 0)))) (mSeq (mSet 4 (mCallI 0 1 (runI 4 m__law_drop) (mCons (mRet (.int 5)) (mRet [])))) (mSeq (sBind (mStr dJoin (mRet (.str "")) (mLst (mUnF dSorted (mOp dAdd (mLst (mUnF dList (mIxO 3 (mVar 4)))) (mLst (mFit (mCons (mOp dIx (mVar 2) (mRet (.int 5))) (mRet [])))))))) fun d => onlyNx ((gIx 3 (mVar 4)) d)) mNext)) mNext) (mSeq (mIfS (mBl (mOp dEq (mVar 1) (mRet (.int 6)))) (mSeq (mSet 5 (mCallI 0 1 (runI 2 m__law_choice) (mCons (mLst (mFit (mCons (mSl (mVar 2) (mPart (mRet (.int 6))) (mRet none)) (mCons (mSl (mVar 2) (mPart (mRet (.int 5))) (mRet none)) (mCons (mVar 2) (mCons (mOp dAdd (mSl (mVar 2) (mRet none) (mPart (mRet (.int 3)))) (mSl (mVar 2) (mPart (mRet (.int 7))) (mRet none))) (mRet []))))))) (mRet [])))) (mSeq (mDrop (mApp 3 (mCallI 0 1 (runI 4 m__law_some_looks) (mCons (mVar 5) (mRet []))))) mNext)) mNext) (mSeq (mRtO 3) mNext)))))
theorem b__law_ring_lots {w : World} {K : PySem.W.Frag} {mg : Str → Option Value} {base : Heap} {aL f : Addr} {a__law_some_looks : Addr} {fd__law_some_looks : FuncData} (d__law_some_looks : Cal Pg w K mg base "_law_some_looks" 3 a__law_some_looks fd__law_some_looks ["spring", "menu"] (spI (GL aL ["lot"]) K 1 (runI 4 m__law_some_looks))) {a__law_choice : Addr} {fd__law_choice : FuncData} (d__law_choice : Cal Pg w K mg base "_law_choice" 2 a__law_choice fd__law_choice ["spring", "menu"] (spI (GL aL ["lot"]) K 1 (runI 2 m__law_choice))) {a__law_drop : Addr} {fd__law_drop : FuncData} (d__law_drop : Cal Pg w K mg base "_law_drop" 1 a__law_drop fd__law_drop ["spring", "size"] (spI (GL aL ["lot"]) K 1 (runI 4 m__law_drop))) (b_sorted : mg "sorted" = none) (b_list : mg "list" = none) (b_range : mg "range" = none) (b_int : mg "int" = none) {a__law_mixed_up : Addr} {fd__law_mixed_up : FuncData} (d__law_mixed_up : Cal Pg w K mg base "_law_mixed_up" 2 a__law_mixed_up fd__law_mixed_up ["spring", "things_here"] (spI (GL aL ["lot"]) K 1 (runI 5 m__law_mixed_up))) :
    BodyOk Pg w K mg base (GL aL ["lot"]) N__law_ring_lots "_law_ring_lots" (defScope s__law_ring_lots) (defBody s__law_ring_lots) 3 f true m__law_ring_lots := by
  intro cdv A outer s H E hr0 gd0 B Z a
  exact (dSs_cons (n_set 2 nd__law_ring_lots (io1 (by decide)) (n_callI 0 d__law_mixed_up.F (hr0.mono (by decide)) gd0 tk_cx d__law_mixed_up.g d__law_mixed_up.kp d__law_mixed_up.b (dA_cons dE_str dA_nil))) (dSs_cons (n_setLc 3 4 rfl nd__law_ring_lots (io1 (by decide)) (io1 (by decide)) (dI_rng1 rfl b_range (dA_cons dE_int dA_nil)) (fun _ _ _ _ _ => dTs_nil) (fun _ _ _ _ _ => (dE_join dE_str (dB_of (dE_of (dF_callB cr_sortedS ok_sorted rfl b_sorted (by decide +kernel) (dB_of (dE_of (dF_lst (dA_cons (n_ix (n_var 2) (n_var 4)) (dA_cons (n_ix (n_var 2) (dE_op op_mod ok_mod (dE_callTy call_int1 ok_int rfl b_int (by decide +kernel) (dB_of (dE_op op_addB ok_add (n_var 4) (dB_of dE_int)))) (dB_of dE_int))) dA_nil))))))))))) (dSs_cons (dS_if (dT_cmp (op_eqB (u64 hr0)) ok_eq (n_callI 0 d__law_drop.F (hr0.mono (by decide)) gd0 tk_cx d__law_drop.g d__law_drop.kp d__law_drop.b (dA_cons dE_int dA_nil)) (dB_of dE_int) rfl) (dSs_cons (n_set 4 nd__law_ring_lots (io1 (by decide)) (n_callI 0 d__law_drop.F (hr0.mono (by decide)) gd0 tk_cx d__law_drop.g d__law_drop.kp d__law_drop.b (dA_cons dE_int dA_nil))) (dSs_cons (dS_asg (dE_join dE_str (dB_of (dE_of (dF_callB cr_sortedS ok_sorted rfl b_sorted (by decide +kernel) (dB_of (dE_op op_addB ok_add (dE_of (dF_callTy (call_listB rfl) ok_list rfl b_list (by decide +kernel) (dB_of (n_ixO 3 (n_var 4))))) (dB_of (dE_of (dF_lst (dA_cons (n_ix (n_var 2) dE_int) dA_nil)))))))))) (n_gsub 3 (n_var 4))) dSs_nil)) dSs_nil) (dSs_cons (dS_if (dT_cmp (op_eqB (u64 hr0)) ok_eq (n_var 1) (dB_of dE_int) rfl) (dSs_cons (n_set 5 nd__law_ring_lots (io1 (by decide)) (n_callI 0 d__law_choice.F (hr0.mono (by decide)) gd0 tk_cx d__law_choice.g d__law_choice.kp d__law_choice.b (dA_cons (dE_of (dF_lst (dA_cons (dE_sl (n_var 2) (dO_some dE_int) dO_none) (dA_cons (dE_sl (n_var 2) (dO_some dE_int) dO_none) (dA_cons (n_var 2) (dA_cons (dE_op op_addB ok_add (dE_sl (n_var 2) dO_none (dO_some dE_int)) (dB_of (dE_sl (n_var 2) (dO_some dE_int) dO_none))) dA_nil)))))) dA_nil))) (dSs_cons (dS_expr (n_app 3 (n_callI 0 d__law_some_looks.F (hr0.mono (by decide)) gd0 tk_cx d__law_some_looks.g d__law_some_looks.kp d__law_some_looks.b (dA_cons (n_var 5) dA_nil)))) dSs_nil)) dSs_nil) (dSs_cons (n_retO 3 (io1 (by decide))) dSs_nil)))))
abbrev N__law_any_lots : List Str := ["spring", "size", "menu", "turn"]
theorem nd__law_any_lots : N__law_any_lots.Nodup := by decide
def m__law_any_lots : MS := (mSeq (mSet 2 (mCallI 0 1 (runI 2 m__law_choice) (mCons (mLst (mFit (mCons (mRet (.str "01234567")) (mCons (mRet (.str "0123")) (mCons (mRet (.str "234567")) (mCons (mRet (.str "01234")) (mCons (mRet (.str "567")) (mRet [])))))))) (mRet [])))) (mSeq (mRt (mLst (mLc (mBind (mCons (mVar 1) (mRet [])) fun ds => mOpt (dRg1 ds)) [3] (uNm 3) (mRet true) (mCallI 0 1 (runI 4 m__law_some_looks) (mCons (mVar 2) (mRet [])))))) mNext))
theorem b__law_any_lots {w : World} {K : PySem.W.Frag} {mg : Str → Option Value} {base : Heap} {aL f : Addr} (b_range : mg "range" = none) {a__law_some_looks : Addr} {fd__law_some_looks : FuncData} (d__law_some_looks : Cal Pg w K mg base "_law_some_looks" 3 a__law_some_looks fd__law_some_looks ["spring", "menu"] (spI (GL aL ["lot"]) K 1 (runI 4 m__law_some_looks))) {a__law_choice : Addr} {fd__law_choice : FuncData} (d__law_choice : Cal Pg w K mg base "_law_choice" 2 a__law_choice fd__law_choice ["spring", "menu"] (spI (GL aL ["lot"]) K 1 (runI 2 m__law_choice))) :
    BodyOk Pg w K mg base (GL aL ["lot"]) N__law_any_lots "_law_any_lots" (defScope s__law_any_lots) (defBody s__law_any_lots) 3 f true m__law_any_lots := by
  intro cdv A outer s H E hr0 gd0 B Z a
  exact (dSs_cons (n_set 2 nd__law_any_lots (io1 (by decide)) (n_callI 0 d__law_choice.F (hr0.mono (by decide)) gd0 tk_cx d__law_choice.g d__law_choice.kp d__law_choice.b (dA_cons (dE_of (dF_lst (dA_cons dE_str (dA_cons dE_str (dA_cons dE_str (dA_cons dE_str (dA_cons dE_str dA_nil))))))) dA_nil))) (dSs_cons (dS_ret (dE_of (n_lc1 3 rfl nd__law_any_lots (io1 (by decide)) (dI_rng1 rfl b_range (dA_cons (n_var 1) dA_nil)) (fun _ _ _ _ _ => dTs_nil) (fun _ _ _ _ _ => (n_callI 0 d__law_some_looks.F (hr0.mono (by decide)) gd0 tk0 d__law_some_looks.g d__law_some_looks.kp d__law_some_looks.b (dA_cons (n_var 2) dA_nil)))))) dSs_nil))
abbrev N__law_told : List Str := ["spring", "size", "lots_here"]
theorem nd__law_told : N__law_told.Nodup := by decide
def m__law_told : MS := (mSeq (mSet 1 (mOp dAdd (mRet (.int 2)) (mCallI 0 1 (runI 4 m__law_drop) (mCons (mRet (.int 5)) (mRet []))))) (mSeq (mSet 2 (mIf (mAnd (mBl (mOp dGt (mVar 1) (mRet (.int 4)))) (mBl (mOp dEq (mCallI 0 1 (runI 4 m__law_drop) (mCons (mRet (.int 2)) (mRet []))) (mRet (.int 0))))) (mCallI 0 1 (runI 6 m__law_ring_lots) (mCons (mVar 1) (mRet []))) (mCallI 0 1 (runI 4 m__law_any_lots) (mCons (mVar 1) (mRet []))))) (mSeq (mRt (mUn dTuple (mLst (mZip (mCallI 0 1 (runI 5 m__law_names) (mCons (mVar 1) (mRet []))) (mCallI 0 1 (runI 5 m__law_mixed_up) (mCons (mVar 2) (mRet []))))))) mNext)))
theorem b__law_told {w : World} {K : PySem.W.Frag} {mg : Str → Option Value} {base : Heap} {aL f : Addr} (b_tuple : mg "tuple" = none) {a__law_names : Addr} {fd__law_names : FuncData} (d__law_names : Cal Pg w K mg base "_law_names" 2 a__law_names fd__law_names ["spring", "size"] (spI (GL aL ["lot"]) K 1 (runI 5 m__law_names))) {a__law_mixed_up : Addr} {fd__law_mixed_up : FuncData} (d__law_mixed_up : Cal Pg w K mg base "_law_mixed_up" 2 a__law_mixed_up fd__law_mixed_up ["spring", "things_here"] (spI (GL aL ["lot"]) K 1 (runI 5 m__law_mixed_up))) (b_list : mg "list" = none) (b_zip : mg "zip" = none) {a__law_drop : Addr} {fd__law_drop : FuncData} (d__law_drop : Cal Pg w K mg base "_law_drop" 1 a__law_drop fd__law_drop ["spring", "size"] (spI (GL aL ["lot"]) K 1 (runI 4 m__law_drop))) {a__law_ring_lots : Addr} {fd__law_ring_lots : FuncData} (d__law_ring_lots : Cal Pg w K mg base "_law_ring_lots" 4 a__law_ring_lots fd__law_ring_lots ["spring", "size"] (spI (GL aL ["lot"]) K 1 (runI 6 m__law_ring_lots))) {a__law_any_lots : Addr} {fd__law_any_lots : FuncData} (d__law_any_lots : Cal Pg w K mg base "_law_any_lots" 4 a__law_any_lots fd__law_any_lots ["spring", "size"] (spI (GL aL ["lot"]) K 1 (runI 4 m__law_any_lots))) :
    BodyOk Pg w K mg base (GL aL ["lot"]) N__law_told "_law_told" (defScope s__law_told) (defBody s__law_told) 4 f true m__law_told := by
  intro cdv A outer s H E hr0 gd0 B Z a
  exact (dSs_cons (n_set 1 nd__law_told (io1 (by decide)) (dE_op op_addB ok_add dE_int (dB_of (n_callI 0 d__law_drop.F (hr0.mono (by decide)) gd0 tk_cx d__law_drop.g d__law_drop.kp d__law_drop.b (dA_cons dE_int dA_nil))))) (dSs_cons (n_set 2 nd__law_told (io1 (by decide)) (dE_if (PW.pt (dW_and (dT_cmp op_gt ok_gt (n_var 1) (dB_of dE_int) rfl) (dW_and1 (dT_cmp (op_eqB (u64 hr0)) ok_eq (n_callI 0 d__law_drop.F (hr0.mono (by decide)) gd0 tk_cx d__law_drop.g d__law_drop.kp d__law_drop.b (dA_cons dE_int dA_nil)) (dB_of dE_int) rfl)))) (n_callI 0 d__law_ring_lots.F (hr0.mono (by decide)) gd0 tk_cx d__law_ring_lots.g d__law_ring_lots.kp d__law_ring_lots.b (dA_cons (n_var 1) dA_nil)) (n_callI 0 d__law_any_lots.F (hr0.mono (by decide)) gd0 tk_cx d__law_any_lots.g d__law_any_lots.kp d__law_any_lots.b (dA_cons (n_var 1) dA_nil)))) (dSs_cons (dS_ret (dE_callTy call_tuple_of ok_tuple rfl b_tuple (by decide +kernel) (dB_of (dE_of (dF_zip rfl (n_callI 0 d__law_names.F (hr0.mono (by decide)) gd0 tk_cx d__law_names.g d__law_names.kp d__law_names.b (dA_cons (n_var 1) dA_nil)) (n_callI 0 d__law_mixed_up.F (hr0.mono (by decide)) gd0 tk_cx d__law_mixed_up.g d__law_mixed_up.kp d__law_mixed_up.b (dA_cons (n_var 2) dA_nil)) rfl b_list rfl b_zip))))) dSs_nil)))
abbrev N__law_right : List Str := ["spring", "turn", "told", "wire", "wide", "again", "k", "fresh", "letter", "own_looks", "pairs_here", "wrong", "due", "near", "pair", "each"]
theorem nd__law_right : N__law_right.Nodup := by decide
def m__law_right : MS := (mSeq (mFor (mBind (mCons (mRet (.int 2)) (mRet [])) fun ds => mOpt (dRg1 ds)) (gNm 1) (mSeq (mSet 2 (mCallI 0 0 (runI 3 m__law_told) (mRet []))) (mSeq (mSet 3 (mMake 0 1 (runI 2 m_Line_init) (mCons (mVar 2) (mRet [])))) (mSeq (mParVV 6 7 (mCallI 0 1 (runI 4 m__law_drop) (mCons (mUn dLen (mVar 2)) (mRet []))) (mCallI 0 1 (runI 2 m__law_choice) (mCons (mRet (.str "01234567")) (mRet [])))) (mSeq (sBind (mOp dIx (mVar 2) (mVar 6)) fun d => onlyNx ((gTp 2 (gCons' (gNm 8) (gCons' (gNm 9) gNil'))) d)) (mSeq (mSet 4 (mMake 0 1 (runI 2 m_Line_init) (mCons (mOp dAdd (mOp dAdd (mSl (mVar 2) (mRet none) (mPart (mVar 6))) (mTup (mCons (mTup (mCons (mVar 8) (mCons (mStr dJoin (mRet (.str "")) (mLst (mUnF dSrtSet (mOp dAdd (mVar 9) (mVar 7))))) (mRet [])))) (mRet [])))) (mSl (mVar 2) (mPart (mOp dAdd (mVar 6) (mRet (.int 1)))) (mRet none))) (mRet [])))) (mSeq (mFor (mBind (mCons (mRet (.int 6)) (mRet [])) fun ds => mOpt (dRg1 ds)) (gNm 5) (mSeq (mSet 10 (mCallI 0 1 (runI 7 m__law_pairs_for) (mCons (mVar 2) (mRet [])))) (mSeq (mSet 11 (mLst (mLc (mItems (mVar 10)) [14] (uNm 14) (mBl (mOp dEq (mLst (mLc (mItems (mVar 2)) [15] (uNm 15) (mAnd (mBl (mOp dEq (mOp dIx (mVar 15) (mRet (.int 0))) (mOp dIx (mVar 14) (mRet (.int 0))))) (mBl (mOp dIn (mOp dIx (mVar 14) (mRet (.int 1))) (mOp dIx (mVar 15) (mRet (.int 1)))))) (mVar 15))) (mLst (mFit (mRet []))))) (mVar 14)))) (mSeq (mSet 12 (mOp dEq (mVar 11) (mLst (mFit (mRet []))))) (mSeq (mIfS (mBl (mOp dNe (mUn dRepr (mLst (mFit (mCons (mCallN 2 (runP 3 m_fits) (mCons (mVar 3) (mCons (mVar 10) (mRet [])))) (mCons (mCallN 2 (runP 3 m_fits) (mBind (mCons (mVar 10) (mCons (mVar 3) (mRet []))) fun ds => mRet (permD [1, 0] ds))) (mRet [])))))) (mUn dRepr (mLst (mFit (mCons (mVar 12) (mCons (mVar 12) (mRet [])))))))) (mSeq (mRt (mRet (.bl false))) mNext) mNext) (mSeq (mIfS (mAnd (mBl (mVar 12)) (mNot (mBl (mCallN 2 (runP 3 m_fits) (mCons (mVar 4) (mCons (mVar 10) (mRet []))))))) (mSeq (mRt (mRet (.bl false))) mNext) mNext) (mSeq (mSet 13 (mIf (mBl (mVar 12)) (mCallN 1 (runP 6 m_surely_mixed) (mCons (mVar 10) (mRet []))) (mTup (mRet [])))) (mSeq (mIfS (mBl (mOp dNe (mLst (mLc (mItems (mVar 13)) [14] (uNm 14) (mNot (mBl (mCallN 3 (runP 3 m_mixed) (mCons (mVar 3) (mCons (mOp dIx (mVar 14) (mRet (.int 0))) (mCons (mOp dIx (mVar 14) (mRet (.int 1))) (mRet []))))))) (mVar 14))) (mLst (mFit (mRet []))))) (mSeq (mRt (mRet (.bl false))) mNext) mNext) mNext)))))))) mNext))))))) (mSeq (mRt (mRet (.bl true))) mNext))
theorem b__law_right {w : World} {K : PySem.W.Frag} {mg : Str → Option Value} {base : Heap} {aL f : Addr} (b_range : mg "range" = none) {a_mixed : Addr} {fd_mixed : FuncData} (d_mixed : Cal Pg w K mg base "mixed" 7 a_mixed fd_mixed ["line", "sign", "other_sign"] (spP (GL aL ["lot"]) K 3 (runP 3 m_mixed))) {a_surely_mixed : Addr} {fd_surely_mixed : FuncData} (d_surely_mixed : Cal Pg w K mg base "surely_mixed" 4 a_surely_mixed fd_surely_mixed ["seen"] (spP (GL aL ["lot"]) K 1 (runP 6 m_surely_mixed))) {a_fits : Addr} {fd_fits : FuncData} (d_fits : Cal Pg w K mg base "fits" 6 a_fits fd_fits ["line", "seen"] (spP (GL aL ["lot"]) K 2 (runP 3 m_fits))) (b_repr : mg "repr" = none) (kw_fits : ∀ (s : Shared) (ws : List Value), K.In s.heap → ([1, 0].filterMap (ws[·]?)).length = 2 → BindsTo s fd_fits ⟨[], [("seen" : Str), ("line" : Str)].zip ws⟩ ([("line" : Str), ("seen" : Str)].zip ([1, 0].filterMap (ws[·]?)))) {a__law_pairs_for : Addr} {fd__law_pairs_for : FuncData} (d__law_pairs_for : Cal Pg w K mg base "_law_pairs_for" 3 a__law_pairs_for fd__law_pairs_for ["spring", "told"] (spI (GL aL ["lot"]) K 1 (runI 7 m__law_pairs_for))) (L_cl : Cls K aL) (L_g : mg "Line" = some (.ref aL)) (L_is : InsTy K aL) {a_Line_init : Addr} {fd_Line_init : FuncData} (q_Line_init : Ini Pg w K mg base aL 4 a_Line_init fd_Line_init ["self", "signs"] (spI (GL aL ["lot"]) K 1 (runI 2 m_Line_init))) (b_sorted : mg "sorted" = none) (b_set : mg "set" = none) {a__law_drop : Addr} {fd__law_drop : FuncData} (d__law_drop : Cal Pg w K mg base "_law_drop" 1 a__law_drop fd__law_drop ["spring", "size"] (spI (GL aL ["lot"]) K 1 (runI 4 m__law_drop))) (b_len : mg "len" = none) {a__law_choice : Addr} {fd__law_choice : FuncData} (d__law_choice : Cal Pg w K mg base "_law_choice" 2 a__law_choice fd__law_choice ["spring", "menu"] (spI (GL aL ["lot"]) K 1 (runI 2 m__law_choice))) {a__law_told : Addr} {fd__law_told : FuncData} (d__law_told : Cal Pg w K mg base "_law_told" 5 a__law_told fd__law_told ["spring"] (spI (GL aL ["lot"]) K 0 (runI 3 m__law_told))) :
    BodyOk Pg w K mg base (GL aL ["lot"]) N__law_right "_law_right" (defScope s__law_right) (defBody s__law_right) 7 f true m__law_right := by
  intro cdv A outer s H E hr0 gd0 B Z a
  exact (dSs_cons (dS_for ps_cx rfl (dI_rng1 rfl b_range (dA_cons dE_int dA_nil)) (n_gname 1 nd__law_right (io1 (by decide))) (dSs_cons (n_set 2 nd__law_right (io1 (by decide)) (n_callI 0 d__law_told.F (hr0.mono (by decide)) gd0 tk_cx d__law_told.g d__law_told.kp d__law_told.b dA_nil)) (dSs_cons (n_set 3 nd__law_right (io1 (by decide)) (dE_make rfl q_Line_init.M q_Line_init.F (hr0.mono (by decide)) gd0 tk_cx rfl L_g q_Line_init.B (dA_cons (n_var 2) dA_nil))) (dSs_cons (n_parVV 6 7 nd__law_right (io1 (by decide)) (io1 (by decide)) (n_callI 0 d__law_drop.F (hr0.mono (by decide)) gd0 tk_cx d__law_drop.g d__law_drop.kp d__law_drop.b (dA_cons (dE_callB call_len ok_len rfl b_len (by decide +kernel) (dB_of (n_var 2))) dA_nil)) (n_callI 0 d__law_choice.F (hr0.mono (by decide)) gd0 tk_cx d__law_choice.g d__law_choice.kp d__law_choice.b (dA_cons dE_str dA_nil))) (dSs_cons (dS_asg (n_ix (n_var 2) (n_var 6)) (dG_tup rfl (dGs_cons (n_gname 8 nd__law_right (io1 (by decide))) (dGs_cons (n_gname 9 nd__law_right (io1 (by decide))) dGs_nil)))) (dSs_cons (n_set 4 nd__law_right (io1 (by decide)) (dE_make rfl q_Line_init.M q_Line_init.F (hr0.mono (by decide)) gd0 tk_cx rfl L_g q_Line_init.B (dA_cons (dE_op op_addB ok_add (dE_op op_addB ok_add (dE_sl (n_var 2) dO_none (dO_some (n_var 6))) (dB_of (dE_tup (dA_cons (dE_tup (dA_cons (n_var 8) (dA_cons (dE_join dE_str (dB_of (dE_of (dF_sortedSet rfl rfl b_sorted rfl b_set (dB_of (dE_op op_addB ok_add (n_var 9) (dB_of (n_var 7)))))))) dA_nil))) dA_nil)))) (dB_of (dE_sl (n_var 2) (dO_some (dE_op op_addB ok_add (n_var 6) (dB_of dE_int))) dO_none))) dA_nil))) (dSs_cons (dS_for ps_cx rfl (dI_rng1 rfl b_range (dA_cons dE_int dA_nil)) (n_gname 5 nd__law_right (io1 (by decide))) (dSs_cons (n_set 10 nd__law_right (io1 (by decide)) (n_callI 0 d__law_pairs_for.F (hr0.mono (by decide)) gd0 tk_cx d__law_pairs_for.g d__law_pairs_for.kp d__law_pairs_for.b (dA_cons (n_var 2) dA_nil))) (dSs_cons (n_setLcV 11 14 rfl nd__law_right (io1 (by decide)) (io1 (by decide)) (dI_any (n_var 10)) (fun _ _ _ _ _ => dTs_one (dT_cmp (op_eqB (u64 hr0)) ok_eq (dE_of (n_lc1 15 rfl nd__law_right (io1 (by decide)) (dI_any (n_var 2)) (fun _ _ _ _ _ => dTs_one (PW.pt (dW_and (dT_cmp (op_eqB (u64 hr0)) ok_eq (n_ix (n_var 15) dE_int) (dB_of (n_ix (n_var 14) dE_int)) rfl) (dW_and1 (dT_cmp (op_inDB (u65 hr0)) ok_in (n_ix (n_var 14) dE_int) (dB_of (n_ix (n_var 15) dE_int)) rfl))))) (fun _ _ _ _ _ => (n_var 15)))) (dB_of (dE_of (dF_lst dA_nil))) rfl)) (fun _ _ _ _ _ => (n_var 14))) (dSs_cons (n_set 12 nd__law_right (io1 (by decide)) (dE_cmp (op_eqB (u64 hr0)) ok_eq (n_var 11) (dB_of (dE_of (dF_lst dA_nil))) rfl)) (dSs_cons (dS_if (dT_cmp (op_neB (u64 hr0)) ok_ne (dE_callB (call_reprD gd0 (u64 hr0)) ok_repr rfl b_repr (by decide +kernel) (dB_of (dE_of (dF_lst (dA_cons (dE_call d_fits.F (hr0.mono (by decide)) gd0 tk_cx rfl d_fits.g d_fits.kp d_fits.b (dA_cons (n_var 3) (dA_cons (n_var 10) dA_nil))) (dA_cons (dE_callK0 (ks := ["seen", "line"]) (pm := [1, 0]) d_fits.F (hr0.mono (by decide)) gd0 tk_cx rfl d_fits.g d_fits.kp kw_fits (dK_cons (n_var 10) (dK_cons (n_var 3) dK_nil))) dA_nil)))))) (dB_of (dE_callB (call_reprD gd0 (u64 hr0)) ok_repr rfl b_repr (by decide +kernel) (dB_of (dE_of (dF_lst (dA_cons (n_var 12) (dA_cons (n_var 12) dA_nil))))))) rfl) (dSs_cons (dS_ret dE_bl) dSs_nil) dSs_nil) (dSs_cons (dS_if (PW.pt (dW_and (dT_val (n_var 12)) (dW_and1 (dT_not (dT_val (dE_call d_fits.F (hr0.mono (by decide)) gd0 tk_cx rfl d_fits.g d_fits.kp d_fits.b (dA_cons (n_var 4) (dA_cons (n_var 10) dA_nil)))))))) (dSs_cons (dS_ret dE_bl) dSs_nil) dSs_nil) (dSs_cons (n_set 13 nd__law_right (io1 (by decide)) (dE_if (dT_val (n_var 12)) (dE_call d_surely_mixed.F (hr0.mono (by decide)) gd0 tk_cx rfl d_surely_mixed.g d_surely_mixed.kp d_surely_mixed.b (dA_cons (n_var 10) dA_nil)) (dE_tup dA_nil))) (dSs_cons (dS_if (dT_cmp (op_neB (u64 hr0)) ok_ne (dE_of (n_lc1 14 rfl nd__law_right (io1 (by decide)) (dI_any (n_var 13)) (fun _ _ _ _ _ => dTs_one (dT_not (dT_val (dE_call d_mixed.F (hr0.mono (by decide)) gd0 tk0 rfl d_mixed.g d_mixed.kp d_mixed.b (dA_cons (n_var 3) (dA_cons (n_ix (n_var 14) dE_int) (dA_cons (n_ix (n_var 14) dE_int) dA_nil))))))) (fun _ _ _ _ _ => (n_var 14)))) (dB_of (dE_of (dF_lst dA_nil))) rfl) (dSs_cons (dS_ret dE_bl) dSs_nil) dSs_nil) dSs_nil)))))))) dSs_nil))))))) (dSs_cons (dS_ret dE_bl) dSs_nil))
abbrev N__law_brook : List Str := ["script", "turn", "own", "state", "cell"]
theorem nd__law_brook : N__law_brook.Nodup := by decide
def m__law_brook : MS := (mSeq (mSet 2 (mIf (mBl (mOp dLt (mVar 1) (mUn dLen (mVar 0)))) (mOp dIx (mVar 0) (mVar 1)) (mRet (.int 0)))) (mSeq (mSet 3 (mOp dAdd (mRet (.int 30011)) (mOp dMul (mRet (.int 7919)) (mVar 1)))) (mSeq (mFor (mItems (mSl (mVar 0) (mRet none) (mPart (mRet (.int 5))))) (gNm 4) (mSeq (mSet 3 (mOp dMod (mUn dToInt (mOp dAdd (mOp dAdd (mOp dMul (mVar 3) (mRet (.int 31393))) (mOp dMul (mVar 4) (mRet (.int 19)))) (mRet (.int 37)))) (mRet (.int 2147483549)))) mNext)) (mSeq (mRtF (mFit (mCons (mIf (mOr (mBl (mOp dLt (mVar 2) (mRet (.int 0)))) (mBl (mOp dGe (mVar 2) (mOp dPow (mRet (.int 10)) (mRet (.int 18)))))) (mUn dAbs (mVar 2)) (mRet (.int 0))) (mCons (mOp dMod (mUn dToInt (mOp dAdd (mOp dAdd (mOp dMul (mVar 3) (mRet (.int 83))) (mOp dMul (mVar 2) (mVar 2))) (mOp dMul (mRet (.int 41)) (mVar 1)))) (mRet (.int 2147483549))) (mCons (mRet (.int 0)) (mRet [])))))) mNext))))
theorem b__law_brook {w : World} {K : PySem.W.Frag} {mg : Str → Option Value} {base : Heap} {aL f : Addr} (b_int : mg "int" = none) (b_abs : mg "abs" = none) (b_len : mg "len" = none) :
    BodyOk Pg w K mg base (GL aL ["lot"]) N__law_brook "_law_brook" (defScope s__law_brook) (defBody s__law_brook) 0 f false m__law_brook := by
  intro cdv A outer s H E hr0 gd0 B Z a
  exact (dSs_cons (n_set 2 nd__law_brook io0 (dE_if (dT_cmp op_ltB ok_lt (n_var 1) (dB_of (dE_callB call_len ok_len rfl b_len (by decide +kernel) (dB_of (n_var 0)))) rfl) (n_ix (n_var 0) (n_var 1)) dE_int)) (dSs_cons (n_set 3 nd__law_brook io0 (dE_op op_addB ok_add dE_int (dB_of (dE_op op_mulB ok_mul dE_int (dB_of (n_var 1)))))) (dSs_cons (dS_for ps_cx rfl (dI_any (dE_sl (n_var 0) dO_none (dO_some dE_int))) (n_gname 4 nd__law_brook io0) (dSs_cons (n_set 3 nd__law_brook io0 (dE_op op_mod ok_mod (dE_callTy call_int1 ok_int rfl b_int (by decide +kernel) (dB_of (dE_op op_addB ok_add (dE_op op_addB ok_add (dE_op op_mulB ok_mul (n_var 3) (dB_of dE_int)) (dB_of (dE_op op_mulB ok_mul (n_var 4) (dB_of dE_int)))) (dB_of dE_int)))) (dB_of dE_int))) dSs_nil)) (dSs_cons (dS_retF (dF_lst (dA_cons (dE_if (PW.pt (dW_or (dT_cmp op_ltB ok_lt (n_var 2) (dB_of dE_int) rfl) (dW_or1 (dT_cmp op_ge ok_ge (n_var 2) (dB_of (dE_op op_pow ok_pow dE_int (dB_of dE_int))) rfl)))) (dE_callB call_abs ok_abs rfl b_abs (by decide +kernel) (dB_of (n_var 2))) dE_int) (dA_cons (dE_op op_mod ok_mod (dE_callTy call_int1 ok_int rfl b_int (by decide +kernel) (dB_of (dE_op op_addB ok_add (dE_op op_addB ok_add (dE_op op_mulB ok_mul (n_var 3) (dB_of dE_int)) (dB_of (dE_op op_mulB ok_mul (n_var 2) (dB_of (n_var 2))))) (dB_of (dE_op op_mulB ok_mul dE_int (dB_of (n_var 1))))))) (dB_of dE_int)) (dA_cons dE_int dA_nil))))) dSs_nil))))
abbrev N_law : List Str := ["script", "turn"]
theorem nd_law : N_law.Nodup := by decide
def m_law : MS := (mSeq (mRt (mUn dAll (mLst (mLc (mBind (mCons (mOp dMax (mRet (.int 2)) (mOp dMin (mUn dLen (mVar 0)) (mRet (.int 5)))) (mRet [])) fun ds => mOpt (dRg1 ds)) [1] (uNm 1) (mRet true) (mCallFI (runI 16 m__law_right) (mCallF 2 (runF 5 m__law_brook) (mCons (mVar 0) (mCons (mVar 1) (mRet []))))))))) mNext)
theorem b_law {w : World} {K : PySem.W.Frag} {mg : Str → Option Value} {base : Heap} {aL f : Addr} (b_all : mg "all" = none) (b_range : mg "range" = none) (b_max : mg "max" = none) (b_min : mg "min" = none) (b_len : mg "len" = none) {a__law_right : Addr} {fd__law_right : FuncData} (d__law_right : Cal Pg w K mg base "_law_right" 8 a__law_right fd__law_right ["spring"] (spI (GL aL ["lot"]) K 0 (runI 16 m__law_right))) {a__law_brook : Addr} {fd__law_brook : FuncData} (d__law_brook : Cal Pg w K mg base "_law_brook" 1 a__law_brook fd__law_brook ["script", "turn"] (spF (GL aL ["lot"]) K 2 (runF 5 m__law_brook))) :
    BodyOk Pg w K mg base (GL aL ["lot"]) N_law "law" (defScope s_law) (defBody s_law) 8 f false m_law := by
  intro cdv A outer s H E hr0 gd0 B Z a
  exact (dSs_cons (dS_ret (dE_callB (cr_all rfl) ok_all rfl b_all (by decide +kernel) (dB_of (dE_of (n_lc1 1 rfl nd_law io0 (dI_rng1 rfl b_range (dA_cons (dE_callB2 (call_max2 rfl) ok_max2 rfl b_max (by decide +kernel) dE_int (dE_callB2 (call_min2 rfl) ok_min2 rfl b_min (by decide +kernel) (dE_callB call_len ok_len rfl b_len (by decide +kernel) (dB_of (n_var 0))) dE_int)) dA_nil)) (fun _ _ _ _ _ => dTs_nil) (fun _ _ _ _ _ => (dE_callFI d__law_right.F (hr0.mono (by decide)) gd0 tk0 rfl d__law_right.g d__law_right.kp d__law_right.b (dF_call d__law_brook.F (hr0.mono (by decide)) gd0 tk0 rfl d__law_brook.g d__law_brook.kp d__law_brook.b (dA_cons (n_var 0) (dA_cons (n_var 1) dA_nil)))))))))) dSs_nil)
end Nv

namespace Nv
open PySem PySem.Spec PyProof.Rows L2
/-! ## the spring -/
def Spr (k : Nat) (s : D) : Prop := ∃ a b c : Int, s = .lst [.int a, .int b, .int c] ∧ 0 ≤ a ∧ 0 ≤ b ∧ b < 2147483648 ∧ 0 ≤ c ∧ c ≤ k
theorem Spr.mono {k l : Nat} {s : D} (h : Spr k s) (hl : k ≤ l) : Spr l s := by
  obtain ⟨a, b, c, e, h1, h2, h3, h4, h5⟩ := h
  exact ⟨a, b, c, e, h1, h2, h3, h4, by omega⟩
theorem Spr.ls {k : Nat} {s : D} (h : Spr k s) : ∃ xs, s = .lst xs := by
  obtain ⟨a, b, c, e, _⟩ := h
  exact ⟨_, e⟩
theorem small {i : Int} (h : i.natAbs < 18446744073709551616) : i.natAbs < 2 ^ 1000 := Nat.lt_of_lt_of_le h (show 2 ^ 64 ≤ 2 ^ 1000 from Nat.pow_le_pow_right (by omega) (by omega))
theorem drop_spec {k : Nat} {s : D} {n : Int} (h : Spr k s) (hk : k ≤ 1000000) (hn : 0 < n) (hn2 : n < 1073741824) : ∃ (d : Int) (s' : D), runI 4 m__law_drop s [.int n] = .ok (.int d) s' ∧ 0 ≤ d ∧ d < n ∧ Spr (k + 1) s' := by
  obtain ⟨a, b, c, rfl, h1, h2, h3, h4, h5⟩ := h
  by_cases ha : 0 < a
  · refine ⟨a % n, .lst [.int (a / n), .int b, .int c], ?_, Int.emod_nonneg _ (by omega), Int.emod_lt_of_pos _ hn, _, _, _, rfl, Int.ediv_nonneg (by omega) (by omega), h2, h3, h4, by omega⟩
    simp [runI, st1, m__law_drop, ha, hn, hn2, ixN, fiOf, own0]
  · have ha0 : a = 0 := by omega
    subst ha0
    have e1 : mulFits 2 (c + 1) = true := mulFits_of (small (by omega)) (small (by omega))
    have e2 : mulFits b (52009 + 2 * (c + 1)) = true := mulFits_of (small (by omega)) (small (by omega))
    have e3 : mulFits 4111 (c + 1) = true := mulFits_of (small (by omega)) (small (by omega))
    have e4 : mulFits ((b * (52009 + 2 * (c + 1)) + 4111 * (c + 1) + 17) % 2147483549) 40009 = true := mulFits_of (small (by omega)) (small (by omega))
    have e5 : mulFits 11 (c + 1) = true := mulFits_of (small (by omega)) (small (by omega))
    refine ⟨(((b * (52009 + 2 * (c + 1)) + 4111 * (c + 1) + 17) % 2147483549 * 40009 + 11 * (c + 1) + 3) % 2147483497 / 2048) % n, .lst [.int 0, .int (((b * (52009 + 2 * (c + 1)) + 4111 * (c + 1) + 17) % 2147483549 * 40009 + 11 * (c + 1) + 3) % 2147483497), .int (c + 1)], ?_,
      Int.emod_nonneg _ (by omega), Int.emod_lt_of_pos _ hn, _, _, _, rfl, by omega, Int.emod_nonneg _ (by omega), ?_, by omega, by omega⟩
    · simp [runI, st1, m__law_drop, hn, ixN, fiOf, own0, e1, e2, e3, e4, e5]
    · have := Int.emod_lt_of_pos ((b * (52009 + 2 * (c + 1)) + 4111 * (c + 1) + 17) % 2147483549 * 40009 + 11 * (c + 1) + 3) (show (0 : Int) < 2147483497 by omega)
      omega
theorem runI_def (N : Nat) (m : MS) (s : D) (ds : List D) : runI N m s ds = fiOf (m (st1 N s ds)) := rfl
theorem runP_def (N : Nat) (m : MS) (ds : List D) : runP N m ds = frOf (m (st0 N ds)) := rfl
theorem runF_def (N : Nat) (m : MS) (ds : List D) : runF N m ds = ffOf (m (st0 N ds)) := rfl
theorem choiceL {k : Nat} {s : D} {xs : List D} (h : Spr k s) (hk : k ≤ 1000000) (hx : 0 < xs.length) (hl : xs.length ≤ 100000) : ∃ d s', runI 2 m__law_choice s [.lst xs] = .ok d s' ∧ d ∈ xs ∧ Spr (k + 1) s' := by
  obtain ⟨d, s', e, h1, h2, h3⟩ := drop_spec (n := xs.length) h hk (by omega) (by omega)
  have hd : d.toNat < xs.length := by omega
  refine ⟨xs[d.toNat], s', ?_, List.getElem_mem hd, h3⟩
  rw [runI_def 2 m__law_choice]
  simp [st1, m__law_choice, fiOf, own0, e, atI_int _ h1, hd]
theorem choiceT {k : Nat} {s : D} {xs : List D} (h : Spr k s) (hk : k ≤ 1000000) (hx : 0 < xs.length) (hl : xs.length ≤ 100000) : ∃ d s', runI 2 m__law_choice s [.tup xs] = .ok d s' ∧ d ∈ xs ∧ Spr (k + 1) s' := by
  obtain ⟨d, s', e, h1, h2, h3⟩ := drop_spec (n := xs.length) h hk (by omega) (by omega)
  have hd : d.toNat < xs.length := by omega
  refine ⟨xs[d.toNat], s', ?_, List.getElem_mem hd, h3⟩
  rw [runI_def 2 m__law_choice]
  simp [st1, m__law_choice, fiOf, own0, e, atI_int _ h1, hd]
theorem choiceS {k : Nat} {s : D} {x : Str} (h : Spr k s) (hk : k ≤ 1000000) (hx : 0 < x.length) (hl : x.length ≤ 100000) : ∃ c s', runI 2 m__law_choice s [.str x] = .ok (.str (chr1 c)) s' ∧ c ∈ x.cps.toList ∧ Spr (k + 1) s' := by
  obtain ⟨d, s', e, h1, h2, h3⟩ := drop_spec (n := x.length) h hk (by omega) (by omega)
  have hd : d.toNat < x.cps.toList.length := by
    have : x.length = x.cps.toList.length := by simp [Str.length]
    omega
  refine ⟨x.cps.toList[d.toNat], s', ?_, List.getElem_mem hd, h3⟩
  rw [runI_def 2 m__law_choice]
  have hd2 : d.toNat < x.cps.size := by simpa using hd
  simp [st1, m__law_choice, fiOf, own0, e, atI_int _ h1, hl, hd2]
/-- mixed up: a list's items in another order -/
theorem take_out {α : Type} {xs : List α} {k : Nat} (h : k < xs.length) : (xs[k] :: xs.eraseIdx k).Perm xs := by
  induction xs generalizing k with
  | nil => simp at h
  | cons x xs ih =>
    cases k with
    | zero => simp
    | succ k =>
      simp only [List.getElem_cons_succ, List.eraseIdx_cons_succ]
      exact (List.Perm.swap _ _ _).trans ((ih (by simpa using h)).cons x)
theorem seq_ix {n : Nat} {d : Int} (h1 : 0 ≤ d) (h2 : d < n) : seqIndex? d n = some d.toNat := by
  unfold seqIndex?
  simp
  omega
/-- one turn: an item of the bag goes over -/
theorem turn_spec {k : Nat} {s : D} {bag : List D} (h : Spr k s) (hk : k ≤ 1000000) (hb : 0 < bag.length) (hl : bag.length ≤ 1000) : ∃ (d : Int) (s' : D), runI 4 m__law_drop s [.int bag.length] = .ok (.int d) s' ∧ Spr (k + 1) s' ∧ ∃ hd : d.toNat < bag.length, 0 ≤ d ∧ d < bag.length := by
  obtain ⟨d, s', e, h1, h2, h3⟩ := drop_spec (n := bag.length) h hk (by omega) (by omega)
  exact ⟨d, s', e, h3, by omega, h1, h2⟩
theorem mixed_spec {k : Nat} {s x : D} {xs : List D} (h : Spr k s) (hx : dList x = some xs) (hk : k + xs.length ≤ 1000000) (hl : xs.length ≤ 1000) : ∃ ys s', runI 5 m__law_mixed_up s [x] = .ok (.lst ys) s' ∧ ys.Perm xs ∧ Spr (k + xs.length) s' := by
  rw [runI_def 5 m__law_mixed_up]
  have L := for_all (t := gNm 2) (body := (mSeq (mDrop (mApp 4 (mPop 3 (mCallI 0 1 (runI 4 m__law_drop) (mCons (mUn dLen (mOwn 3)) (mRet [])))))) mNext)) (ds := rgs 0 xs.length) (ρ := [.own s, .shr x, .no, .own (.lst xs), .own (.lst [])])
    (fun j ρ => ∃ s' z bag found, ρ = [.own s', .shr x, z, .own (.lst bag), .own (.lst found)] ∧ Spr (k + j) s' ∧ (found ++ bag).Perm xs ∧ found.length = j)
    ⟨s, .no, xs, [], rfl, h, by simp, rfl⟩ fun j d ρ hj ⟨s', z, bag, found, e, h1, h2, h3⟩ => by
      obtain ⟨hj1, rfl⟩ := rgs_get hj
      subst e
      have hlen := h2.length_eq
      rw [List.length_append] at hlen
      obtain ⟨d, s2, e, h4, hd, hd0, hd1⟩ := turn_spec (bag := bag) h1 (by omega) (by omega) (by omega)
      refine ⟨_, [.own s2, .shr x, .shr (.int (0 + j)), .own (.lst (bag.eraseIdx d.toNat)), .own (.lst (found ++ [bag[d.toNat]]))], rfl, ?_, s2, _, _, _, rfl, h4.mono (by omega), ?_, by simp [h3]⟩
      · have hd2 : -1000000 ≤ d ∧ d ≤ 1000000 := by omega
        have hl2 : found.length < 100000 := by omega
        simp [e, seq_ix hd0 hd1, hd, hd2, hl2]
      · rw [List.append_assoc]
        exact (List.Perm.append_left _ (take_out hd)).trans h2
  obtain ⟨ρ', q1, s', z, bag, found, rfl, q2, q3, q4⟩ := L
  rw [rgs_len] at q2 q4
  have hbag : bag = [] := by
    have := q3.length_eq
    rw [List.length_append] at this
    exact List.length_eq_zero_iff.mp (by omega)
  subst hbag
  rw [List.append_nil] at q3
  refine ⟨found, s', ?_, q3, q2⟩
  have hx1 : ((xs.length : Int) ≤ 1000000) := by omega
  simp [st1, m__law_mixed_up, fiOf, own0, q1, hx1, hx]
def alph : List D := ("abcdefghijklmnopqrstuvwxyz" : Str).cps.toList.map fun c => .str (chr1 c)
theorem alph_len : alph.length = 26 := by decide +kernel
theorem names_spec {k : Nat} {s : D} {n : Nat} (h : Spr k s) (hn : n ≤ 26) (hk : k + n ≤ 1000000) : ∃ ys rest s', runI 5 m__law_names s [.int n] = .ok (.lst ys) s' ∧ (ys ++ rest).Perm alph ∧ ys.length = n ∧ Spr (k + n) s' := by
  rw [runI_def 5 m__law_names]
  have al := alph_len
  have L := for_all (t := gNm 2) (body := (mSeq (mDrop (mApp 4 (mPop 3 (mCallI 0 1 (runI 4 m__law_drop) (mCons (mUn dLen (mOwn 3)) (mRet [])))))) mNext)) (ds := rgs 0 n) (ρ := [.own s, .shr (.int n), .no, .own (.lst alph), .own (.lst [])])
    (fun j ρ => ∃ s' z bag found, ρ = [.own s', .shr (.int n), z, .own (.lst bag), .own (.lst found)] ∧ Spr (k + j) s' ∧ (found ++ bag).Perm alph ∧ found.length = j)
    ⟨s, .no, alph, [], rfl, h, by simp, rfl⟩ fun j d ρ hj ⟨s', z, bag, found, e, h1, h2, h3⟩ => by
      obtain ⟨hj1, rfl⟩ := rgs_get hj
      subst e
      have hlen := h2.length_eq
      rw [List.length_append] at hlen
      obtain ⟨d, s2, e, h4, hd, hd0, hd1⟩ := turn_spec (bag := bag) h1 (by omega) (by omega) (by omega)
      refine ⟨_, [.own s2, .shr (.int n), .shr (.int (0 + j)), .own (.lst (bag.eraseIdx d.toNat)), .own (.lst (found ++ [bag[d.toNat]]))], rfl, ?_, s2, _, _, _, rfl, h4.mono (by omega), ?_, by simp [h3]⟩
      · have hd2 : -1000000 ≤ d ∧ d ≤ 1000000 := by omega
        have hl2 : found.length < 100000 := by omega
        simp [e, seq_ix hd0 hd1, hd, hd2, hl2]
      · rw [List.append_assoc]
        exact (List.Perm.append_left _ (take_out hd)).trans h2
  obtain ⟨ρ', q1, s', z, bag, found, rfl, q2, q3, q4⟩ := L
  rw [rgs_len] at q2 q4
  refine ⟨found, bag, s', ?_, q3, q4, q2⟩
  have hx1 : ((n : Int) ≤ 1000000) := by omega
  have hx2 : dList (.str "abcdefghijklmnopqrstuvwxyz") = some alph := by
    unfold dList alph
    exact if_pos (by decide +kernel)
  simp only [st1, m__law_names]
  simp [fiOf, own0, q1, hx1, hx2, -q_listS]
end Nv

namespace Nv
open PySem PySem.Spec PyProof.Rows L2
def figs : List Nat := [48, 49, 50, 51, 52, 53, 54, 55]
def lets : List Nat := [97, 98, 99, 100, 101, 102, 103, 104, 105, 106, 107, 108, 109, 110, 111, 112, 113, 114, 115, 116, 117, 118, 119, 120, 121, 122]
theorem s_figs : D.str "01234567" = tx figs := congrArg D.str (by decide +kernel)
theorem s_lets : D.str "abcdefghijklmnopqrstuvwxyz" = tx lets := congrArg D.str (by decide +kernel)
theorem s_nil : D.str "" = tx [] := congrArg D.str (by decide +kernel)
theorem alph_eq : alph = lets.map ch := by
  have e : ("abcdefghijklmnopqrstuvwxyz" : Str) = ⟨lets.toArray⟩ := by decide +kernel
  unfold alph
  rw [e]
  rfl
/-- a menu of looks: its signs are figures, no sign twice -/
structure Menu (w : List Nat) : Prop where
  ne : w ≠ []
  nd : w.Nodup
  fig : ∀ c ∈ w, c ∈ figs
  len : w.length ≤ 8
structure Lk (w : List Nat) : Prop where
  ne : w ≠ []
  up : w.Pairwise (· < ·)
  fig : ∀ c ∈ w, c ∈ figs
theorem Lk.nodup {w : List Nat} (h : Lk w) : w.Nodup := h.up.imp (by intro a b h; omega)
theorem up_len : ∀ (w : List Nat) (a b : Nat), w.Pairwise (· < ·) → (∀ c ∈ w, a ≤ c ∧ c < b) → w.length ≤ b - a
  | [], _, _, _, _ => Nat.zero_le _
  | c :: r, a, b, h, h2 => by
    obtain ⟨h3, h4⟩ := List.pairwise_cons.mp h
    have := up_len r (c + 1) b h4 fun x hx => ⟨h3 x hx, (h2 x (List.mem_cons_of_mem _ hx)).2⟩
    have := h2 c List.mem_cons_self
    simp only [List.length_cons]
    omega
theorem fig_rng {c : Nat} (h : c ∈ figs) : 48 ≤ c ∧ c < 56 := by
  have : ∀ c ∈ figs, 48 ≤ c ∧ c < 56 := by decide
  exact this c h
theorem Lk.len {w : List Nat} (h : Lk w) : w.length ≤ 8 := up_len w 48 56 h.up fun c hc => fig_rng (h.fig c hc)
theorem fig_lt {c : Nat} (h : c ∈ figs) : c < 200 := by
  have : ∀ c ∈ figs, c < 200 := by decide
  exact this c h
theorem let_lt {c : Nat} (h : c ∈ lets) : c < 200 := by
  have : ∀ c ∈ lets, c < 200 := by decide
  exact this c h
/-- what sorting a part of a menu gives -/
theorem lk_srt {v : List Nat} (h1 : v ≠ []) (h2 : v.Nodup) (h3 : ∀ c ∈ v, c ∈ figs) : Lk (srtN v) := by
  have p := srtN_perm v
  refine ⟨fun e => ?_, ?_, fun c hc => h3 c (p.mem_iff.mp hc)⟩
  · rw [e] at p
    exact h1 (List.nil_perm.mp p)
  · have := p.nodup_iff.mpr h2
    exact ((srtN_le v).and this).imp (by rintro a b ⟨h, h2⟩; omega)
theorem choiceX {k : Nat} {s : D} {w : List Nat} (h : Spr k s) (hk : k ≤ 1000000) (hx : w ≠ []) (hl : w.length ≤ 100000) : ∃ c s', runI 2 m__law_choice s [tx w] = .ok (ch c) s' ∧ c ∈ w ∧ Spr (k + 1) s' := by
  obtain ⟨c, s', h1, h2, h3⟩ := choiceS (x := ⟨w.toArray⟩) h hk (by rw [tx_len]; exact List.length_pos_iff.mpr hx) (by rwa [tx_len])
  exact ⟨c, s', h1, by simpa using h2, h3⟩
/-- a choice from a menu, told as a text or as a list -/
theorem choiceM {k : Nat} {s x : D} {w : List Nat} (h : Spr k s) (hk : k ≤ 1000000) (hw : Menu w) (hx : x = tx w ∨ x = .lst (w.map ch)) : ∃ c s', runI 2 m__law_choice s [x] = .ok (ch c) s' ∧ c ∈ w ∧ Spr (k + 1) s' := by
  have h8 := hw.len
  have hn := List.length_pos_iff.mpr hw.ne
  rcases hx with rfl | rfl
  · exact choiceX h hk hw.ne (by omega)
  · obtain ⟨d, s', h1, h2, h3⟩ := choiceL (xs := w.map ch) h hk (by simpa using hn) (by simp; omega)
    obtain ⟨c, hc, rfl⟩ := List.mem_map.mp h2
    exact ⟨c, s', h1, hc, h3⟩
theorem some_spec {k : Nat} {s x : D} {w : List Nat} (h : Spr k s) (hk : k ≤ 900000) (hw : Menu w) (hx : x = tx w ∨ x = .lst (w.map ch)) : ∃ v s', runI 4 m__law_some_looks s [x] = .ok (tx v) s' ∧ Lk v ∧ Spr (k + 10) s' := by
  have h8 := hw.len
  have hit : dItems x = some (w.map ch) := by
    rcases hx with rfl | rfl
    · simp
    · rfl
  have L := lc_all (it := mItems (mVar 1)) (j := 3) (t := mBl (mOp dEq (mCallI 0 1 (runI 4 m__law_drop) (mCons (mRet (.int 3)) (mRet []))) (mRet (.int 0)))) (f := mVar 3)
    (ρ := [.own s, .shr x, .no, .no]) (ρ0 := [.own s, .shr x, .no, .no]) (ds := w.map ch)
    (fun j ρ acc => ∃ s' z v, ρ = [.own s', .shr x, .no, z] ∧ Spr (k + j) s' ∧ acc = v.map ch ∧ v.Sublist (w.take j))
    (by simp [hit]) ⟨s, .no, [], rfl, h, rfl, by simp⟩ fun j d ρ acc hj ⟨s', z, v, e, h1, e2, h3⟩ => by
      obtain ⟨hj1, rfl⟩ := get_map hj
      subst e; subst e2
      obtain ⟨q, s2, e, h4, h5, h6⟩ := drop_spec (n := 3) h1 (by omega) (by omega) (by omega)
      have hv := h3.length_le
      rw [List.length_take] at hv
      have ht : w.take (j + 1) = w.take j ++ [w[j]] := by rw [List.take_succ, List.getElem?_eq_getElem hj1]; rfl
      by_cases hq : q = 0
      · refine .inr ⟨[.own s2, .shr x, .no, .shr (ch w[j])], ch w[j], [.own s2, .shr x, .no, .shr (ch w[j])], by simp [e, hq], rfl, by simp; omega, s2, _, v ++ [w[j]], rfl, h6, by simp, ?_⟩
        rw [ht]
        exact h3.append (List.Sublist.refl _)
      · refine .inl ⟨[.own s2, .shr x, .no, .shr (ch w[j])], by simp [e, hq], s2, _, v, rfl, h6, rfl, ?_⟩
        rw [ht]
        exact h3.trans (List.sublist_append_left _ _)
  obtain ⟨acc, ρ', q1, s', z, v, rfl, q2, rfl, q3⟩ := L
  rw [List.length_map] at q2 q3
  rw [List.take_length] at q3
  have hv := q3.length_le
  have fv : ∀ c ∈ v, c ∈ figs := fun c hc => hw.fig c (q3.mem hc)
  have eok : (D.lst (v.map ch)).eqOk = true := (Flat.lst (n := 0) (ds := v.map ch) (by intro d hd; obtain ⟨c, hc, rfl⟩ := List.mem_map.mp hd; exact Flat.ch (fig_lt (fv c hc)))).eqOk (by omega)
  rw [runI_def 4 m__law_some_looks]
  have hs := srtN_perm v
  by_cases hv0 : v = []
  · subst hv0
    obtain ⟨c, s2, e, h4, h5⟩ := choiceM (k := k + w.length) q2 (by omega) hw hx
    refine ⟨srtN [c], s2, ?_, lk_srt (by simp) (by simp) (by simpa using hw.fig c h4), h5.mono (by omega)⟩
    have e1 := dSorted_ch (cs := [c]) (by simp)
    have e2 := dJoin_ch (cs := srtN [c]) (by rw [(srtN_perm _).length_eq]; simp)
    simp only [List.map_cons, List.map_nil] at e1 eok
    simp [-q_sortedL, -q_joinL, fiOf, own0, st1, m__law_some_looks, q1, restore, dNe_nilL eok, e, e1, e2]
  · refine ⟨srtN v, s', ?_, lk_srt hv0 (q3.nodup hw.nd) fv, q2.mono (by omega)⟩
    have e1 := dSorted_ch (cs := v) (by omega)
    have e2 := dJoin_ch (cs := srtN v) (by rw [hs.length_eq]; omega)
    simp [-q_sortedL, -q_joinL, fiOf, own0, st1, m__law_some_looks, q1, restore, dNe_nilL eok, hv0, e1, e2]
end Nv

namespace Nv
open PySem PySem.Spec PyProof.Rows L2
def unch : D → Nat
  | .str s => s.cps.toList.headD 0
  | _ => 0
def untx : D → List Nat
  | .str s => s.cps.toList
  | _ => []
theorem unch_ch (c : Nat) : unch (ch c) = c := rfl
theorem untx_tx (c : List Nat) : untx (tx c) = c := rfl
theorem perm_inv {α : Type} {g : α → D} (inv : D → α) (hi : ∀ a, inv (g a) = a) {ys : List D} {w : List α} (h : ys.Perm (w.map g)) : ∃ zs : List α, ys = zs.map g ∧ zs.Perm w := by
  refine ⟨ys.map inv, ?_, ?_⟩
  · rw [List.map_map]
    have : ∀ y ∈ ys, (g ∘ inv) y = y := fun y hy => by
      obtain ⟨a, _, rfl⟩ := List.mem_map.mp (h.mem_iff.mp hy)
      show g (inv (g a)) = _
      rw [hi]
    rw [List.map_congr_left this]
    simp
  · have := h.map inv
    rw [List.map_map] at this
    simpa [Function.comp_def, hi] using this
theorem any_spec {k n : Nat} {s : D} (h : Spr k s) (hk : k ≤ 800000) (hn : n ≤ 6) : ∃ (vs : List (List Nat)) (s' : D), runI 4 m__law_any_lots s [.int n] = .ok (.lst (vs.map tx)) s' ∧ vs.length = n ∧ (∀ v ∈ vs, Lk v) ∧ Spr (k + 100) s' := by
  obtain ⟨d, s1, e, h1, h2⟩ := choiceL (xs := [.str "01234567", .str "0123", .str "234567", .str "01234", .str "567"]) h (by omega) (by simp) (by simp)
  have hm : ∃ w, d = tx w ∧ Menu w := by
    simp only [List.mem_cons, List.not_mem_nil, or_false] at h1
    rcases h1 with rfl | rfl | rfl | rfl | rfl
    · exact ⟨figs, s_figs, by decide, by decide, by decide, by decide⟩
    · exact ⟨[48, 49, 50, 51], congrArg D.str (by decide +kernel), by decide, by decide, by decide, by decide⟩
    · exact ⟨[50, 51, 52, 53, 54, 55], congrArg D.str (by decide +kernel), by decide, by decide, by decide, by decide⟩
    · exact ⟨[48, 49, 50, 51, 52], congrArg D.str (by decide +kernel), by decide, by decide, by decide, by decide⟩
    · exact ⟨[53, 54, 55], congrArg D.str (by decide +kernel), by decide, by decide, by decide, by decide⟩
  obtain ⟨w, rfl, hw⟩ := hm
  have L := lc_all (it := mBind (mCons (mVar 1) (mRet [])) fun ds => mOpt (dRg1 ds)) (j := 3) (t := mRet true) (f := mCallI 0 1 (runI 4 m__law_some_looks) (mCons (mVar 2) (mRet [])))
    (ρ := [.own s1, .shr (.int n), .shr (tx w), .no]) (ρ0 := [.own s1, .shr (.int n), .shr (tx w), .no]) (ds := rgs 0 n)
    (fun j ρ acc => ∃ s' z vs, ρ = [.own s', .shr (.int n), .shr (tx w), z] ∧ Spr (k + 1 + 10 * j) s' ∧ acc = vs.map tx ∧ vs.length = j ∧ ∀ v ∈ vs, Lk v)
    (by have hn1 : (n : Int) ≤ 1000000 := by omega
        have hn2 : -1000000 ≤ (n : Int) := by omega
        simp [hn1, hn2]) ⟨s1, .no, [], rfl, h2, rfl, rfl, by simp⟩ fun j d ρ acc hj ⟨s', z, vs, e, h1, e2, h3, h4⟩ => by
      obtain ⟨hj1, rfl⟩ := rgs_get hj
      subst e; subst e2
      obtain ⟨v, s2, e, h5, h6⟩ := some_spec (x := tx w) h1 (by omega) hw (.inl rfl)
      have hvl : vs.length < 100000 := by omega
      refine .inr ⟨_, tx v, [.own s2, .shr (.int n), .shr (tx w), .shr (.int (0 + j))], rfl, by simp [e], by simpa using hvl, s2, _, vs ++ [v], rfl, h6.mono (by omega), by simp, by simp; omega, ?_⟩
      intro u hu
      rcases List.mem_append.mp hu with h | h
      · exact h4 u h
      · rw [List.mem_singleton.mp h]; exact h5
  obtain ⟨acc, ρ', q1, s', z, vs, rfl, q2, rfl, q3, q4⟩ := L
  rw [rgs_len] at q2 q3
  refine ⟨vs, s', ?_, q3, q4, q2.mono (by omega)⟩
  rw [runI_def 4 m__law_any_lots]
  simp [fiOf, own0, st1, m__law_any_lots, e, q1, restore]
end Nv

namespace Nv
open PySem PySem.Spec PyProof.Rows L2
theorem sort2 (a b : Nat) : dSorted (.lst [ch a, ch b]) = some ((srtN [a, b]).map ch) := dSorted_ch (cs := [a, b]) (by simp)
theorem join_srt {w : List Nat} (h : w.length ≤ 1000) : dJoin "" (.lst ((srtN w).map ch)) = some (tx (srtN w)) := dJoin_ch (by rw [(srtN_perm _).length_eq]; omega)
theorem menu_of {w z : List Nat} (hw : w.Sublist z) (hn : z.Nodup) (hf : ∀ c ∈ z, c ∈ figs) (ne : w ≠ []) (hl : w.length ≤ 8) : Menu w := ⟨ne, hw.nodup hn, fun c hc => hf c (hw.mem hc), hl⟩
theorem ring_ms {z0 z1 z2 z3 z4 z5 z6 z7 : Nat} (hn : [z0, z1, z2, z3, z4, z5, z6, z7].Nodup) (hf : ∀ c ∈ [z0, z1, z2, z3, z4, z5, z6, z7], c ∈ figs) :
    Menu [z6, z7] ∧ Menu [z5, z6, z7] ∧ Menu [z0, z1, z2, z3, z4, z5, z6, z7] ∧ Menu [z0, z1, z2, z7] := by
  refine ⟨menu_of (show [z6, z7].Sublist [z0, z1, z2, z3, z4, z5, z6, z7] from List.drop_sublist 6 [z0, z1, z2, z3, z4, z5, z6, z7]) hn hf (by simp) (by simp), menu_of (show [z5, z6, z7].Sublist [z0, z1, z2, z3, z4, z5, z6, z7] from List.drop_sublist 5 [z0, z1, z2, z3, z4, z5, z6, z7]) hn hf (by simp) (by simp), menu_of (List.Sublist.refl _) hn hf (by simp) (by simp), menu_of ?_ hn hf (by simp) (by simp)⟩
  exact .cons₂ _ (.cons₂ _ (.cons₂ _ (List.drop_sublist 4 [z3, z4, z5, z6, z7])))
theorem ring_vs {z0 z1 z2 z3 z4 z5 z6 z7 : Nat} (hn : [z0, z1, z2, z3, z4, z5, z6, z7].Nodup) (hf : ∀ c ∈ [z0, z1, z2, z3, z4, z5, z6, z7], c ∈ figs) :
    ∃ vs : List (List Nat), vs = [srtN [z0, z1], srtN [z1, z2], srtN [z2, z3], srtN [z3, z4], srtN [z4, z0]] ∧ ∀ v ∈ vs, Lk v ∧ z5 ∉ v := by
  have one : ∀ a b, a ∈ figs → b ∈ figs → a ≠ b → z5 ≠ a → z5 ≠ b → Lk (srtN [a, b]) ∧ z5 ∉ srtN [a, b] := fun a b h1 h2 h3 h4 h5 =>
    ⟨lk_srt (by simp) (by simp [h3]) (by simp [h1, h2]), by rw [(srtN_perm _).mem_iff]; simp [h4, h5]⟩
  simp only [List.mem_cons, List.not_mem_nil, or_false, forall_eq_or_imp, forall_eq] at hf
  obtain ⟨f0, f1, f2, f3, f4, f5, f6, f7⟩ := hf
  simp only [List.nodup_cons, List.mem_cons, List.not_mem_nil, or_false, not_or, List.nodup_nil, not_false_eq_true, and_true] at hn
  obtain ⟨n0, n1, n2, n3, n4, -⟩ := hn
  refine ⟨_, rfl, ?_⟩
  intro v hv
  simp only [List.mem_cons, List.not_mem_nil, or_false] at hv
  rcases hv with rfl | rfl | rfl | rfl | rfl
  · exact one _ _ f0 f1 n0.1 (Ne.symm n0.2.2.2.2.1) (Ne.symm n1.2.2.2.1)
  · exact one _ _ f1 f2 n1.1 (Ne.symm n1.2.2.2.1) (Ne.symm n2.2.2.1)
  · exact one _ _ f2 f3 n2.1 (Ne.symm n2.2.2.1) (Ne.symm n3.2.1)
  · exact one _ _ f3 f4 n3.1 (Ne.symm n3.2.1) (Ne.symm n4.1)
  · exact one _ _ f4 f0 (Ne.symm n0.2.2.2.1) (Ne.symm n4.1) (Ne.symm n0.2.2.2.2.1)
theorem ring_spec {k n : Nat} {s : D} (h : Spr k s) (hk : k ≤ 800000) (hn : n = 5 ∨ n = 6) : ∃ (vs : List (List Nat)) (s' : D), runI 6 m__law_ring_lots s [.int n] = .ok (.lst (vs.map tx)) s' ∧ vs.length = n ∧ (∀ v ∈ vs, Lk v) ∧ Spr (k + 100) s' := by
  obtain ⟨ys, s1, e1, h1, h2⟩ := mixed_spec (x := tx figs) (xs := figs.map ch) h (dList_tx (by decide)) (by simp [figs]; omega) (by simp [figs])
  obtain ⟨zs, rfl, hz⟩ := perm_inv unch unch_ch h1
  have hnd : zs.Nodup := hz.nodup_iff.mpr (by decide)
  have hfig : ∀ c ∈ zs, c ∈ figs := fun c hc => hz.mem_iff.mp hc
  have hlen := hz.length_eq
  obtain ⟨z0, z1, z2, z3, z4, z5, z6, z7, rfl⟩ : ∃ a b c d e f g h, zs = [a, b, c, d, e, f, g, h] := by
    match zs, hlen with
    | [a, b, c, d, e, f, g, h], _ => exact ⟨_, _, _, _, _, _, _, _, rfl⟩
  clear hz hlen h1
  have h2 : Spr (k + 8) s1 := h2.mono (by simp [figs])
  have f5 : z5 ∈ figs := hfig z5 (by simp)
  obtain ⟨vs, evs, hvs⟩ := ring_vs hnd hfig
  have hvl : vs.length = 5 := by rw [evs]; rfl
  -- the lots ahead of the last
  have A : ∃ (us : List (List Nat)) (s2 : D), us.length = 5 ∧ (∀ v ∈ us, Lk v) ∧ Spr (k + 12) s2 ∧ ∃ z, ∀ G, (mSeq (mSetF 3 (mLc (mBind (mCons (mRet (.int 5)) (mRet [])) fun ds => mOpt (dRg1 ds)) [4] (uNm 4) (mRet true) (mStr dJoin (mRet (.str "")) (mLst (mUnF dSorted (mLst (mFit (mCons (mOp dIx (mVar 2) (mVar 4)) (mCons (mOp dIx (mVar 2) (mOp dMod (mUn dToInt (mOp dAdd (mVar 4) (mRet (.int 1)))) (mRet (.int 5)))) (mRet [])))))))))) (mSeq (mIfS (mBl (mOp dEq (mCallI 0 1 (runI 4 m__law_drop) (mCons (mRet (.int 3)) (mRet []))) (mRet (.int 0)))) (mSeq (mSet 4 (mCallI 0 1 (runI 4 m__law_drop) (mCons (mRet (.int 5)) (mRet [])))) (mSeq (sBind (mStr dJoin (mRet (.str "")) (mLst (mUnF dSorted (mOp dAdd (mLst (mUnF dList (mIxO 3 (mVar 4)))) (mLst (mFit (mCons (mOp dIx (mVar 2) (mRet (.int 5))) (mRet [])))))))) fun d => onlyNx ((gIx 3 (mVar 4)) d)) mNext)) mNext) G))
      [.own s1, .shr (.int n), .shr (.lst [ch z0, ch z1, ch z2, ch z3, ch z4, ch z5, ch z6, ch z7]), .no, .no, .no] = G [.own s2, .shr (.int n), .shr (.lst [ch z0, ch z1, ch z2, ch z3, ch z4, ch z5, ch z6, ch z7]), .own (.lst (us.map tx)), z, .no] := by
    have lc : mLc (mBind (mCons (mRet (.int 5)) (mRet [])) fun ds => mOpt (dRg1 ds)) [4] (uNm 4) (mRet true) (mStr dJoin (mRet (.str "")) (mLst (mUnF dSorted (mLst (mFit (mCons (mOp dIx (mVar 2) (mVar 4)) (mCons (mOp dIx (mVar 2) (mOp dMod (mUn dToInt (mOp dAdd (mVar 4) (mRet (.int 1)))) (mRet (.int 5)))) (mRet []))))))))
        [.own s1, .shr (.int n), .shr (.lst [ch z0, ch z1, ch z2, ch z3, ch z4, ch z5, ch z6, ch z7]), .no, .no, .no] = .ok (vs.map tx) [.own s1, .shr (.int n), .shr (.lst [ch z0, ch z1, ch z2, ch z3, ch z4, ch z5, ch z6, ch z7]), .no, .no, .no] := by
      have r5 : rgs 0 5 = [.int 0, .int 1, .int 2, .int 3, .int 4] := rfl
      have a4 : ∀ xs : List D, atI xs 4 = xs[4]? := fun xs => atI_nat xs 4
      simp [-q_sortedL, -q_joinL, mLc, lcR, r5, wipeR, uNm, restore, sort2, join_srt, evs, a4]
    obtain ⟨q, s2, e, h4, h5, h6⟩ := drop_spec (n := 3) h2 (by omega) (by omega) (by omega)
    by_cases hq : q = 0
    · obtain ⟨r, s3, e3, h7, h8, h9⟩ := drop_spec (n := 5) h6 (by omega) (by omega) (by omega)
      have hr : r.toNat < vs.length := by omega
      obtain ⟨l1, l2⟩ := hvs _ (List.getElem_mem hr)
      have l8 := l1.len
      have b1 : dList (tx vs[r.toNat]) = some (vs[r.toNat].map ch) := dList_tx (by omega)
      have b2 : dSorted (.lst (vs[r.toNat].map ch ++ [ch z5])) = some ((srtN (vs[r.toNat] ++ [z5])).map ch) := by
        have := dSorted_ch (cs := vs[r.toNat] ++ [z5]) (by simp; omega)
        rwa [List.map_append] at this
      have b3 : dJoin "" (.lst ((srtN (vs[r.toNat] ++ [z5])).map ch)) = some (tx (srtN (vs[r.toNat] ++ [z5]))) := join_srt (by simp; omega)
      have b4 : vs[r.toNat].length ≤ 99999 := by omega
      refine ⟨vs.set r.toNat (srtN (vs[r.toNat] ++ [z5])), s3, by simpa using hvl, ?_, h9.mono (by omega), .shr (.int r), fun G => ?_⟩
      · intro v hv
        rcases List.mem_or_eq_of_mem_set hv with h | rfl
        · exact (hvs v h).1
        · refine lk_srt (by simp) (List.nodup_append.mpr ⟨l1.nodup, by simp, ?_⟩) ?_
          · intro a ha b hb
            rw [List.mem_singleton.mp hb]
            rintro rfl
            exact l2 ha
          · intro c hc
            rcases List.mem_append.mp hc with h | h
            · exact l1.fig c h
            · rw [List.mem_singleton.mp h]; exact f5
      · have b5 : ixN (vs.map tx).length r = some r.toNat := ixN_int h7 (by rw [List.length_map, hvl]; exact h8)
        have b6 : atI (vs.map tx) r = some (tx vs[r.toNat]) := by rw [atI_int _ h7, List.getElem?_map, List.getElem?_eq_getElem hr]; rfl
        rw [List.length_map] at b5
        have b7 : vs[r.toNat].length + 1 ≤ 100000 := by omega
        simp [-q_sortedL, -q_joinL, lc, e, hq, e3, b6, b1, b7, b2, b3, b5, List.map_set]
    · refine ⟨vs, s2, hvl, fun v hv => (hvs v hv).1, h6.mono (by omega), .no, fun G => ?_⟩
      simp [-q_sortedL, -q_joinL, lc, e, hq]
  obtain ⟨us, s2, hu, hlk, h3, z, A⟩ := A
  rw [runI_def 6 m__law_ring_lots]
  have st : m__law_ring_lots (st1 6 s [.int n]) = (mSeq (mIfS (mBl (mOp dEq (mVar 1) (mRet (.int 6)))) (mSeq (mSet 5 (mCallI 0 1 (runI 2 m__law_choice) (mCons (mLst (mFit (mCons (mSl (mVar 2) (mPart (mRet (.int 6))) (mRet none)) (mCons (mSl (mVar 2) (mPart (mRet (.int 5))) (mRet none)) (mCons (mVar 2) (mCons (mOp dAdd (mSl (mVar 2) (mRet none) (mPart (mRet (.int 3)))) (mSl (mVar 2) (mPart (mRet (.int 7))) (mRet none))) (mRet []))))))) (mRet [])))) (mSeq (mDrop (mApp 3 (mCallI 0 1 (runI 4 m__law_some_looks) (mCons (mVar 5) (mRet []))))) mNext)) mNext) (mSeq (mRtO 3) mNext))
      [.own s2, .shr (.int n), .shr (.lst [ch z0, ch z1, ch z2, ch z3, ch z4, ch z5, ch z6, ch z7]), .own (.lst (us.map tx)), z, .no] := by
    rw [← A (mSeq (mIfS (mBl (mOp dEq (mVar 1) (mRet (.int 6)))) (mSeq (mSet 5 (mCallI 0 1 (runI 2 m__law_choice) (mCons (mLst (mFit (mCons (mSl (mVar 2) (mPart (mRet (.int 6))) (mRet none)) (mCons (mSl (mVar 2) (mPart (mRet (.int 5))) (mRet none)) (mCons (mVar 2) (mCons (mOp dAdd (mSl (mVar 2) (mRet none) (mPart (mRet (.int 3)))) (mSl (mVar 2) (mPart (mRet (.int 7))) (mRet none))) (mRet []))))))) (mRet [])))) (mSeq (mDrop (mApp 3 (mCallI 0 1 (runI 4 m__law_some_looks) (mCons (mVar 5) (mRet []))))) mNext)) mNext) (mSeq (mRtO 3) mNext))]
    unfold m__law_ring_lots
    rw [q_seq]
    simp only [s_figs, List.map_cons, List.map_nil] at e1 ⊢
    simp [-q_sortedL, -q_joinL, -q_seq, -q_setF, st1, e1]
  rw [st]
  rcases hn with rfl | rfl
  · exact ⟨us, s2, by simp [fiOf, own0], hu, hlk, h3.mono (by omega)⟩
  · obtain ⟨d, s3, e3, h4, h5⟩ := choiceL (xs := [.lst [ch z6, ch z7], .lst [ch z5, ch z6, ch z7], .lst [ch z0, ch z1, ch z2, ch z3, ch z4, ch z5, ch z6, ch z7], .lst [ch z0, ch z1, ch z2, ch z7]]) h3 (by omega) (by simp) (by simp)
    have hm : ∃ w, d = .lst (w.map ch) ∧ Menu w := by
      obtain ⟨m1, m2, m3, m4⟩ := ring_ms hnd hfig
      simp only [List.mem_cons, List.not_mem_nil, or_false] at h4
      rcases h4 with rfl | rfl | rfl | rfl
      · exact ⟨_, rfl, m1⟩
      · exact ⟨_, rfl, m2⟩
      · exact ⟨_, rfl, m3⟩
      · exact ⟨_, rfl, m4⟩
    obtain ⟨w, rfl, hw⟩ := hm
    obtain ⟨v, s4, e4, h6, h7⟩ := some_spec (x := .lst (w.map ch)) h5 (by omega) hw (.inr rfl)
    refine ⟨us ++ [v], s4, ?_, by simp [hu], ?_, h7.mono (by omega)⟩
    · have c1 : ∀ xs : List D, xs = [ch z0, ch z1, ch z2, ch z3, ch z4, ch z5, ch z6, ch z7] → cutL xs (some 6) none = [ch z6, ch z7] ∧ cutL xs (some 5) none = [ch z5, ch z6, ch z7] ∧ cutL xs none (some 3) = [ch z0, ch z1, ch z2] ∧ cutL xs (some 7) none = [ch z7] := by
        rintro _ rfl
        exact ⟨rfl, rfl, rfl, rfl⟩
      obtain ⟨c2, c3, c4, c5⟩ := c1 _ rfl
      have hl : us.length < 100000 := by omega
      simp [fiOf, own0, c2, c3, c4, c5, e3, e4, hl]
    · intro u hu
      rcases List.mem_append.mp hu with h | h
      · exact hlk u h
      · rw [List.mem_singleton.mp h]; exact h6
end Nv

namespace Nv
open PySem PySem.Spec PyProof.Rows L2
/-- a pair of a told table -/
def en (p : Nat × List Nat) : D := .tup [ch p.1, tx p.2]
structure Tab (t : List (Nat × List Nat)) : Prop where
  lo : 2 ≤ t.length
  hi : t.length ≤ 6
  nd : (t.map (·.1)).Nodup
  ltr : ∀ p ∈ t, p.1 ∈ lets
  lk : ∀ p ∈ t, Lk p.2
theorem zip_en : ∀ (as : List Nat) (us : List (List Nat)), zipD (as.map ch) (us.map tx) = (as.zip us).map en
  | [], us => by cases us <;> rfl
  | a :: as, [] => rfl
  | a :: as, u :: us => by
    simp only [List.map_cons, zipD, List.zip_cons_cons, zip_en as us]
    rfl
theorem tail_spec {k n : Nat} {s : D} {vs : List (List Nat)} {z : Sl} (h : Spr k s) (hk : k ≤ 800000) (hn : 2 ≤ n) (hn2 : n ≤ 6) (hv : vs.length = n) (hlk : ∀ v ∈ vs, Lk v) :
    ∃ (t : List (Nat × List Nat)) (s' : D), Tab t ∧ Spr (k + 20) s' ∧ mUn dTuple (mLst (mZip (mCallI 0 1 (runI 5 m__law_names) (mCons (mVar 1) (mRet []))) (mCallI 0 1 (runI 5 m__law_mixed_up) (mCons (mVar 2) (mRet []))))) [.own s, .shr (.int n), .shr (.lst (vs.map tx))] = .ok (.tup (t.map en)) [.own s', .shr (.int n), .shr (.lst (vs.map tx))] := by
  obtain ⟨ys, rest, s1, e1, h1, h2, h3⟩ := names_spec (n := n) h (by omega) (by omega)
  rw [alph_eq] at h1
  obtain ⟨zs, ez, hz⟩ := perm_inv unch unch_ch h1
  have hzn : zs.Nodup := hz.nodup_iff.mpr (by decide)
  obtain ⟨as, bs, rfl, ea, eb⟩ := List.map_eq_append_iff.mp ez.symm
  subst ea
  obtain ⟨us', s2, e2, h4, h5⟩ := mixed_spec (x := .lst (vs.map tx)) (xs := vs.map tx) h3 rfl (by rw [List.length_map]; omega) (by rw [List.length_map]; omega)
  obtain ⟨us, rfl, hu⟩ := perm_inv untx untx_tx h4
  have ha : as.length = n := by simpa using h2
  have hul : us.length = n := by rw [hu.length_eq]; exact hv
  refine ⟨as.zip us, s2, ⟨?_, ?_, ?_, ?_, ?_⟩, h5.mono (by rw [List.length_map]; omega), ?_⟩
  · rw [List.length_zip]; omega
  · rw [List.length_zip]; omega
  · have : (as.zip us).map (·.1) = as := List.map_fst_zip (by omega)
    rw [this]
    exact (List.nodup_append.mp hzn).1
  · intro p hp
    have := List.of_mem_zip (show (p.1, p.2) ∈ as.zip us from hp)
    exact hz.mem_iff.mp (List.mem_append_left _ this.1)
  · intro p hp
    have := List.of_mem_zip (show (p.1, p.2) ∈ as.zip us from hp)
    exact hlk _ (hu.mem_iff.mp this.2)
  · simp [e1, e2, zip_en]
theorem told_spec {k : Nat} {s : D} (h : Spr k s) (hk : k ≤ 700000) : ∃ (t : List (Nat × List Nat)) (s' : D), runI 3 m__law_told s [] = .ok (.tup (t.map en)) s' ∧ Tab t ∧ Spr (k + 200) s' := by
  obtain ⟨d, s1, e1, h1, h2, h3⟩ := drop_spec (n := 5) h (by omega) (by omega) (by omega)
  obtain ⟨m, rfl⟩ := Int.eq_ofNat_of_zero_le h1
  have hm : m < 5 := by omega
  have en2 : (2 : Int) + m = ((2 + m : Nat) : Int) := by omega
  rw [runI_def 3 m__law_told]
  have A : ∃ (vs : List (List Nat)) (s2 : D), vs.length = 2 + m ∧ (∀ v ∈ vs, Lk v) ∧ Spr (k + 150) s2 ∧ mIf (mAnd (mBl (mOp dGt (mVar 1) (mRet (.int 4)))) (mBl (mOp dEq (mCallI 0 1 (runI 4 m__law_drop) (mCons (mRet (.int 2)) (mRet []))) (mRet (.int 0))))) (mCallI 0 1 (runI 6 m__law_ring_lots) (mCons (mVar 1) (mRet []))) (mCallI 0 1 (runI 4 m__law_any_lots) (mCons (mVar 1) (mRet [])))
      [.own s1, .shr (.int ((2 + m : Nat) : Int)), .no] = .ok (.lst (vs.map tx)) [.own s2, .shr (.int ((2 + m : Nat) : Int)), .no] := by
    by_cases hg : (4 : Int) < ((2 + m : Nat) : Int)
    · obtain ⟨q, s2, e2, h4, h5, h6⟩ := drop_spec (n := 2) h3 (by omega) (by omega) (by omega)
      by_cases hq : q = 0
      · obtain ⟨vs, s3, e3, h7, h8, h9⟩ := ring_spec (n := 2 + m) h6 (by omega) (by omega)
        exact ⟨vs, s3, h7, h8, h9.mono (by omega), by simp [-Int.natCast_add, hg, e2, hq, e3]⟩
      · obtain ⟨vs, s3, e3, h7, h8, h9⟩ := any_spec (n := 2 + m) h6 (by omega) (by omega)
        exact ⟨vs, s3, h7, h8, h9.mono (by omega), by simp [-Int.natCast_add, hg, e2, hq, e3]⟩
    · obtain ⟨vs, s3, e3, h7, h8, h9⟩ := any_spec (n := 2 + m) h3 (by omega) (by omega)
      exact ⟨vs, s3, h7, h8, h9.mono (by omega), by simp [-Int.natCast_add, hg, e3]⟩
  obtain ⟨vs, s2, h4, h5, h6, A⟩ := A
  obtain ⟨t, s3, h7, h8, B⟩ := tail_spec (z := .no) h6 (by omega) (by omega) (by omega) h4 h5
  refine ⟨t, s3, ?_, h7, h8.mono (by omega)⟩
  have e1' : runI 4 m__law_drop s [.int 5] = .ok (.int m) s1 := e1
  simp [-q_un, -q_if, -Int.natCast_add, fiOf, own0, st1, m__law_told, e1', en2, A, B]
end Nv

namespace Nv
open PySem PySem.Spec PyProof.Rows L2
theorem letter_spec (c : Nat) : runP 1 m_is_letter [ch c] = .ok (.bl (decide (c ∈ lets))) := by
  rw [runP_def 1 m_is_letter]
  simp [frOf, st0, m_is_letter, s_lets, in_tx]
theorem look_spec (c : Nat) : runP 1 m_is_look [ch c] = .ok (.bl (decide (c ∈ figs))) := by
  rw [runP_def 1 m_is_look]
  simp [frOf, st0, m_is_look, s_figs, in_tx]
theorem looks_spec {w : List Nat} (h : Lk w) : runP 3 m_are_looks [tx w] = .ok (.bl true) := by
  have h8 := h.len
  have hn := List.length_pos_iff.mpr h.ne
  have A : mLc (mItems (mVar 0)) [2] (uNm 2) (mRet true) (mOp dIn (mVar 2) (mRet (tx figs))) [.shr (tx w), .no, .no] = .ok (w.map fun c => .bl (decide (c ∈ figs))) [.shr (tx w), .no, .no] :=
    lc_mapT (g := ch) _ (by simp) (fun a ha => by simp [in_tx]) (by simp) (by omega)
  have B : mLc (mBind (mCons (mOp dSub (mUn dLen (mVar 0)) (mRet (.int 1))) (mRet [])) fun ds => mOpt (dRg1 ds)) [1] (uNm 1) (mRet true) (mOp dLt (mOp dIx (mVar 0) (mVar 1)) (mOp dIx (mVar 0) (mOp dAdd (mVar 1) (mRet (.int 1))))) [.shr (tx w), .no, .no] = .ok ((List.range (w.length - 1)).map fun _ => .bl true) [.shr (tx w), .no, .no] :=
    lc_mapT (g := fun k : Nat => .int (0 + (k : Int))) _ (by
      have e : ((w.length : Int) - 1).toNat = w.length - 1 := by omega
      have e2 : -1000000 ≤ (w.length : Int) - 1 ∧ (w.length : Int) - 1 ≤ 1000000 := by omega
      have e3 : w.length ≤ 100000 := by omega
      simp [tx_dlen e3, e, e2, rgs]) (fun k hk => by
      rw [List.mem_range] at hk
      have e1 := tx_ix (w := w) (k := k) (by omega) (by omega)
      have e2 := tx_ix (w := w) (k := k + 1) (by omega) (by omega)
      have e3 : w[k]'(by omega) < w[k + 1]'(by omega) := (List.pairwise_iff_getElem.mp h.up) k (k + 1) (by omega) (by omega) (by omega)
      simp only [Int.natCast_add, Int.natCast_one] at e2
      simp [e1, e2, lt_ch, e3]) (by simp) (by simp; omega)
  have C : (w.all fun c => decide (c ∈ figs)) = true := by rw [List.all_eq_true]; intro c hc; exact decide_eq_true (h.fig c hc)
  rw [runP_def 3 m_are_looks]
  simp [frOf, st0, m_are_looks, s_figs, s_nil, eq_txnil, h.ne, A, B, dAll_map, C]
theorem pair_spec {p : Nat × List Nat} (h1 : p.1 ∈ lets) (h2 : Lk p.2) : runP 1 m_is_pair [en p] = .ok (.bl true) := by
  rw [runP_def 1 m_is_pair]
  simp [frOf, st0, m_is_pair, en, letter_spec, looks_spec h2, h1]
theorem flat_en {p : Nat × List Nat} (h1 : p.1 ∈ lets) (h2 : Lk p.2) : Flat 1 (en p) := Flat.tup (by
  intro d hd
  simp at hd
  rcases hd with rfl | rfl
  · exact Flat.ch (let_lt h1)
  · exact Flat.txt fun c hc => fig_lt (h2.fig c hc))
theorem Tab.flat {t : List (Nat × List Nat)} (h : Tab t) : ∀ d ∈ t.map en, Flat 1 d := by
  intro d hd
  obtain ⟨p, hp, rfl⟩ := List.mem_map.mp hd
  exact flat_en (h.ltr p hp) (h.lk p hp)
theorem signs_spec {t : List (Nat × List Nat)} (h : Tab t) : runP 4 m_check_signs [.tup (t.map en)] = .ok .non := by
  have e0 := (Flat.tup h.flat).eqOk (by omega)
  have hlo := h.lo
  have hhi := h.hi
  have hne : (t.map en).isEmpty = false := by
    cases t with
    | nil => simp at hlo
    | cons a r => rfl
  have L := for_all (t := gNm 1) (body := (mSeq (mSet 2 (mLst (mLc (mItems (mSl (mVar 0) (mRet none) (mPart (mVar 1)))) [3] (uNm 3) (mRet true) (mOp dIx (mVar 3) (mRet (.int 0)))))) (mSeq (mIfS (mOr (mBl (mOp dEq (mVar 1) (mRet (.int 6)))) (mOr (mNot (mBl (mCallN 1 (runP 1 m_is_pair) (mCons (mOp dIx (mVar 0) (mVar 1)) (mRet []))))) (mBl (mOp dIn (mOp dIx (mOp dIx (mVar 0) (mVar 1)) (mRet (.int 0))) (mVar 2))))) (mSeq (fun _ => .err) mNext) mNext) mNext)))
    (ds := rgs 0 t.length) (ρ := [.shr (.tup (t.map en)), .no, .no, .no])
    (fun j ρ => ∃ z1 z2, ρ = [.shr (.tup (t.map en)), z1, z2, .no]) ⟨_, _, rfl⟩ fun j d ρ hj ⟨z1, z2, e⟩ => by
      obtain ⟨hj1, rfl⟩ := rgs_get hj
      subst e
      refine ⟨[.shr (.tup (t.map en)), .shr (.int (0 + (j : Nat))), z2, .no], _, rfl, ?_, .shr (.int (0 + (j : Nat))), .shr (.lst (((t.take j).map (·.1)).map ch)), rfl⟩
      have A : mLc (mItems (mSl (mVar 0) (mRet none) (mPart (mVar 1)))) [3] (uNm 3) (mRet true) (mOp dIx (mVar 3) (mRet (.int 0))) [.shr (.tup (t.map en)), .shr (.int (j : Nat)), z2, .no] = .ok ((t.take j).map fun p => ch p.1) [.shr (.tup (t.map en)), .shr (.int (j : Nat)), z2, .no] :=
        lc_mapT (g := en) _ (by simp [cut_take]) (fun p hp => by simp [en]) (by simp) (by simp; omega)
      have e1 : (t.take j).map (fun p => ch p.1) = ((t.take j).map (·.1)).map ch := by rw [List.map_map]; rfl
      have e2 : t[j].1 ∉ (t.take j).map (·.1) := by
        have := h.nd
        have es : t = t.take j ++ t[j] :: t.drop (j + 1) := by rw [← List.drop_eq_getElem_cons hj1, List.take_append_drop]
        rw [es, List.map_append, List.nodup_append] at this
        intro hm
        exact this.2.2 _ hm _ (List.mem_map_of_mem (f := fun p : Nat × List Nat => p.1) List.mem_cons_self) rfl
      have e3 := in_chs (c := t[j].1) (cs := (t.take j).map (·.1)) (let_lt (h.ltr _ (List.getElem_mem hj1))) (by
        intro x hx
        obtain ⟨p, hp, rfl⟩ := List.mem_map.mp hx
        exact let_lt (h.ltr p (List.mem_of_mem_take hp)))
      have e4 := pair_spec (h.ltr _ (List.getElem_mem hj1)) (h.lk _ (List.getElem_mem hj1))
      have e5 : ¬ ((j : Int) = 6) := by omega
      have e6 : dIx (en t[j]) (.int 0) = some (ch t[j].1) := by simp [en]
      have e7 : (decide (t[j].1 ∈ (t.take j).map (·.1))) = false := decide_eq_false e2
      rw [e1] at A
      rw [e7] at e3
      simp only [Int.zero_add]
      simp [-List.map_map, -List.map_take, -List.mem_map, A, e3, e4, e5, e6, atI_nat, hj1]
  obtain ⟨ρ', q1, z1, z2, rfl⟩ := L
  rw [runP_def 4 m_check_signs]
  have e1 : (t.length : Int) ≤ 1000000 := by omega
  have e2 : ¬ ((t.length : Int) < 2) := by omega
  have e3 : -1000000 ≤ (t.length : Int) := by omega
  simp [frOf, st0, m_check_signs, dEq_nilT e0, hne, e1, e2, e3, q1]
/-- the object that a table becomes -/
def ln (t : List (Nat × List Nat)) : D := .ins 1 [.tup (t.map en)]
theorem init_spec {t : List (Nat × List Nat)} (h : Tab t) : runI 2 m_Line_init (.ins 0 []) [.tup (t.map en)] = .ok .non (ln t) := by
  rw [runI_def 2 m_Line_init]
  simp [fiOf, own0, st1, m_Line_init, signs_spec h, upd1, ln]
theorem letters_spec {t : List (Nat × List Nat)} (h : t.length ≤ 1000) : runP 2 m_Line_letters [ln t] = .ok (tx (t.map (·.1))) := by
  have A : mLc (mItems (mFld 1 0 (mVar 0))) [1] (uNm 1) (mRet true) (mOp dIx (mVar 1) (mRet (.int 0))) [.shr (ln t), .no] = .ok (t.map fun p => ch p.1) [.shr (ln t), .no] :=
    lc_mapT (g := en) _ (by simp [ln]) (fun p hp => by simp [en]) (by simp) (by omega)
  have e1 : t.map (fun p => ch p.1) = (t.map (·.1)).map ch := by rw [List.map_map]; rfl
  have e2 := dJoin_ch (cs := t.map (·.1)) (by simp; omega)
  rw [e1] at A
  rw [runP_def 2 m_Line_letters]
  simp [-List.map_map, -q_joinL, frOf, st0, m_Line_letters, A, e2]
theorem contains_spec {t : List (Nat × List Nat)} (h : t.length ≤ 1000) {c : Nat} (hc : c ∈ lets) : runP 2 m_Line_contains [ln t, ch c] = .ok (.bl (decide (c ∈ t.map (·.1)))) := by
  rw [runP_def 2 m_Line_contains]
  have e : insIs 1 (ln t) = true := rfl
  simp [-List.mem_map, frOf, st0, m_Line_contains, letter_spec, hc, letters_spec h, e, in_tx]
theorem sign_spec {t : List (Nat × List Nat)} (h : Tab t) {c : Nat} (hc : c ∈ t.map (·.1)) : runP 2 m_check_sign [ln t, ch c] = .ok .non := by
  have hl : c ∈ lets := by
    obtain ⟨p, hp, rfl⟩ := List.mem_map.mp hc
    exact h.ltr p hp
  have h6 := h.hi
  have e : insIs 1 (ln t) = true := rfl
  rw [runP_def 2 m_check_sign]
  have e2 := contains_spec (t := t) (by omega) hl
  rw [decide_eq_true hc] at e2
  simp [frOf, st0, m_check_sign, e, e2]
theorem looksof_spec {t : List (Nat × List Nat)} (h : Tab t) {p : Nat × List Nat} (hp : p ∈ t) : runP 2 m_Line_looks_of [ln t, ch p.1] = .ok (tx p.2) := by
  have h6 := h.hi
  have hc : p.1 ∈ t.map (·.1) := List.mem_map_of_mem hp
  obtain ⟨i, e1, e2⟩ := ix_tx hc
  have e : insIs 1 (ln t) = true := rfl
  have e3 : t[i]? = some p := by
    rw [List.getElem?_map] at e2
    obtain ⟨q, h1, h2⟩ := Option.map_eq_some_iff.mp e2
    obtain ⟨k, hk⟩ := List.mem_iff_getElem?.mp hp
    have hk2 : (t.map (·.1))[k]? = some p.1 := by rw [List.getElem?_map, hk]; rfl
    have hi2 : (t.map (·.1))[i]? = some p.1 := by rw [List.getElem?_map, h1, ← h2]; rfl
    obtain ⟨a1, a2⟩ := List.getElem?_eq_some_iff.mp hk2
    obtain ⟨b1, b2⟩ := List.getElem?_eq_some_iff.mp hi2
    have nd := List.pairwise_iff_getElem.mp h.nd
    rcases Nat.lt_trichotomy i k with h3 | h3 | h3
    · exact absurd (b2.trans a2.symm) (nd i k b1 a1 h3)
    · rw [h3]; exact hk
    · exact absurd (a2.trans b2.symm) (nd k i a1 b1 h3)
  have e4 : tx (t.map (·.1)) = .str ⟨(t.map (·.1)).toArray⟩ := rfl
  have e5 : dFld 1 0 (ln t) = some (.tup (t.map en)) := rfl
  have e6 : (dIx (en p) (.int 1)) = some (tx p.2) := by simp [en]
  rw [runP_def 2 m_Line_looks_of]
  simp [-List.map_map, -List.mem_map, frOf, st0, m_Line_looks_of, sign_spec h hc, e, letters_spec (t := t) (by omega), e4, e1, e5, atI_nat, e3, e6]
end Nv

namespace Nv
open PySem PySem.Spec PyProof.Rows L2
structure Sn (ps : List (Nat × Nat)) : Prop where
  lo : 1 ≤ ps.length
  hi : ps.length ≤ 40
  ltr : ∀ p ∈ ps, p.1 ∈ lets
  fig : ∀ p ∈ ps, p.2 ∈ figs
theorem Sn.lt {ps : List (Nat × Nat)} (h : Sn ps) : ∀ p ∈ ps, p.1 < 200 ∧ p.2 < 200 := fun p hp => ⟨let_lt (h.ltr p hp), fig_lt (h.fig p hp)⟩
theorem Sn.eqOk {ps : List (Nat × Nat)} (h : Sn ps) : (D.tup (ps.map pq)).eqOk = true := (Flat.tup (n := 1) (by
  intro d hd
  obtain ⟨p, hp, rfl⟩ := List.mem_map.mp hd
  exact Flat.pq (h.lt p hp).1 (h.lt p hp).2)).eqOk (by omega)
theorem pr_0 (p : Nat × Nat) : dIx (pq p) (.int 0) = some (ch p.1) := by simp [pq]
theorem pr_1 (p : Nat × Nat) : dIx (pq p) (.int 1) = some (ch p.2) := by simp [pq]
theorem en_0 (p : Nat × List Nat) : dIx (en p) (.int 0) = some (ch p.1) := by simp [en]
theorem en_1 (p : Nat × List Nat) : dIx (en p) (.int 1) = some (tx p.2) := by simp [en]
theorem seenpair_spec {p : Nat × Nat} (h1 : p.1 ∈ lets) (h2 : p.2 ∈ figs) : runP 1 m_is_seen_pair [pq p] = .ok (.bl true) := by
  rw [runP_def 1 m_is_seen_pair]
  simp [frOf, st0, m_is_seen_pair, pq, letter_spec, look_spec, h1, h2]
theorem seen_spec {ps : List (Nat × Nat)} (h : Sn ps) : runP 2 m_check_seen [.tup (ps.map pq)] = .ok .non := by
  have hlo := h.lo
  have hhi := h.hi
  have hne : (ps.map pq).isEmpty = false := by
    cases ps with
    | nil => simp at hlo
    | cons a r => rfl
  have L := for_all (t := gNm 1) (body := (mSeq (mIfS (mOr (mBl (mOp dEq (mVar 1) (mRet (.int 40)))) (mNot (mBl (mCallN 1 (runP 1 m_is_seen_pair) (mCons (mOp dIx (mVar 0) (mVar 1)) (mRet [])))))) (mSeq (fun _ => .err) mNext) mNext) mNext))
    (ds := rgs 0 ps.length) (ρ := [.shr (.tup (ps.map pq)), .no])
    (fun j ρ => ∃ z, ρ = [.shr (.tup (ps.map pq)), z]) ⟨_, rfl⟩ fun j d ρ hj ⟨z, e⟩ => by
      obtain ⟨hj1, rfl⟩ := rgs_get hj
      subst e
      refine ⟨[.shr (.tup (ps.map pq)), .shr (.int (0 + (j : Nat)))], [.shr (.tup (ps.map pq)), .shr (.int (0 + (j : Nat)))], rfl, ?_, _, rfl⟩
      have e4 := seenpair_spec (h.ltr _ (List.getElem_mem hj1)) (h.fig _ (List.getElem_mem hj1))
      have e5 : ¬ ((j : Int) = 40) := by omega
      simp only [Int.zero_add]
      simp [e4, e5, atI_nat, hj1]
  obtain ⟨ρ', q1, z, rfl⟩ := L
  rw [runP_def 2 m_check_seen]
  have e1 : (ps.length : Int) ≤ 1000000 := by omega
  have e3 : -1000000 ≤ (ps.length : Int) := by omega
  simp [frOf, st0, m_check_seen, dEq_nilT h.eqOk, hne, e1, e3, q1]
theorem line_spec (t : List (Nat × List Nat)) : runP 1 m_check_line [ln t] = .ok .non := by
  rw [runP_def 1 m_check_line]
  simp [frOf, st0, m_check_line, ln]
/-- a line fits a pair that was seen -/
def fit (t : List (Nat × List Nat)) (p : Nat × Nat) : Bool := t.any fun q => decide (q.1 = p.1) && decide (p.2 ∈ q.2)
theorem nd_eq {t : List (Nat × List Nat)} (h : (t.map (·.1)).Nodup) {r q : Nat × List Nat} (hr : r ∈ t) (hq : q ∈ t) (e : r.1 = q.1) : r = q := by
  obtain ⟨i, hi⟩ := List.mem_iff_getElem?.mp hq
  obtain ⟨k, hk⟩ := List.mem_iff_getElem?.mp hr
  have hk2 : (t.map (·.1))[k]? = some r.1 := by rw [List.getElem?_map, hk]; rfl
  have hi2 : (t.map (·.1))[i]? = some r.1 := by rw [List.getElem?_map, hi, e]; rfl
  obtain ⟨a1, a2⟩ := List.getElem?_eq_some_iff.mp hk2
  obtain ⟨b1, b2⟩ := List.getElem?_eq_some_iff.mp hi2
  have nd := List.pairwise_iff_getElem.mp h
  rcases Nat.lt_trichotomy i k with h3 | h3 | h3
  · exact absurd (b2.trans a2.symm) (nd i k b1 a1 h3)
  · subst h3; exact Option.some.inj (hk.symm.trans hi)
  · exact absurd (a2.trans b2.symm) (nd k i a1 b1 h3)
theorem fit_mem {t : List (Nat × List Nat)} (h : Tab t) {q : Nat × List Nat} (hq : q ∈ t) {f : Nat} {a : Nat} (ha : q.1 = a) : fit t (a, f) = decide (f ∈ q.2) := by
  subst ha
  unfold fit
  rw [Bool.eq_iff_iff, List.any_eq_true, decide_eq_true_eq]
  constructor
  · rintro ⟨r, hr, h2⟩
    simp only [Bool.and_eq_true, decide_eq_true_eq] at h2
    have e : r = q := nd_eq h.nd hr hq h2.1
    rw [← e]; exact h2.2
  · intro hf
    exact ⟨q, hq, by simp [hf]⟩
theorem fit_out {t : List (Nat × List Nat)} {p : Nat × Nat} (h : p.1 ∉ t.map (·.1)) : fit t p = false := by
  unfold fit
  rw [Bool.eq_false_iff]
  intro e
  obtain ⟨r, hr, h2⟩ := List.any_eq_true.mp e
  simp only [Bool.and_eq_true, decide_eq_true_eq] at h2
  exact h (List.mem_map.mpr ⟨r, hr, h2.1⟩)
theorem fits_spec {t : List (Nat × List Nat)} {ps : List (Nat × Nat)} (h : Tab t) (hs : Sn ps) : runP 3 m_fits [ln t, .tup (ps.map pq)] = .ok (.bl (ps.all (fit t))) := by
  have hhi := hs.hi
  have h6 := h.hi
  have e : insIs 1 (ln t) = true := rfl
  have A : mLc (mItems (mVar 1)) [2] (uNm 2) (mRet true) (mAndV (mInOwn 1 false (runP 2 m_Line_contains) (mOp dIx (mVar 2) (mRet (.int 0))) (mVar 0)) (mOp dIn (mOp dIx (mVar 2) (mRet (.int 1))) (mMeth 1 2 (runP 2 m_Line_looks_of) (mVar 0) (mCons (mOp dIx (mVar 2) (mRet (.int 0))) (mRet [])))))
      [.shr (ln t), .shr (.tup (ps.map pq)), .no] = .ok (ps.map fun p => .bl (fit t p)) [.shr (ln t), .shr (.tup (ps.map pq)), .no] :=
    lc_mapT (g := pq) _ (by simp) (fun p hp => by
      have c := contains_spec (t := t) (by omega) (hs.ltr p hp)
      by_cases hc : p.1 ∈ t.map (·.1)
      · obtain ⟨q, hq, hq1⟩ := List.mem_map.mp hc
        have e2 := looksof_spec h hq
        rw [hq1] at e2
        rw [decide_eq_true hc] at c
        have e3 := fit_mem h hq (f := p.2) hq1
        simp [-q_ixT, c, pr_0, pr_1, e, e2, in_tx, e3]
      · rw [decide_eq_false hc] at c
        simp [-q_ixT, c, pr_0, pr_1, e, fit_out hc]) (by simp) (by omega)
  rw [runP_def 3 m_fits]
  simp [frOf, st0, m_fits, line_spec, seen_spec hs, A, dAll_map]
/-! what was seen of a sign -/
def seenOf (ps : List (Nat × Nat)) (a : Nat) : List Nat := figs.filter fun f => decide ((a, f) ∈ ps)
theorem looksseen_spec {ps : List (Nat × Nat)} (hs : Sn ps) {a : Nat} (ha : a ∈ lets) : runP 3 m_looks_seen [.tup (ps.map pq), ch a] = .ok (tx (seenOf ps a)) := by
  have A : mLc (mItems (mRet (tx figs))) [2] (uNm 2) (mBl (mOp dIn (mTup (mCons (mVar 1) (mCons (mVar 2) (mRet [])))) (mVar 0))) (mVar 2) [.shr (.tup (ps.map pq)), .shr (ch a), .no] = .ok ((seenOf ps a).map ch) [.shr (.tup (ps.map pq)), .shr (ch a), .no] :=
    lc_map (g := ch) (fun f => decide ((a, f) ∈ ps)) ch (by simp) (fun f hf => by
      have e := in_prs (p := (a, f)) (ps := ps) ⟨let_lt ha, fig_lt hf⟩ hs.lt
      have e2 : pq (a, f) = .tup [ch a, ch f] := rfl
      rw [e2] at e
      simp [e]) (by simp) (by decide)
  have e2 := dJoin_ch (cs := seenOf ps a) (Nat.le_trans (List.length_filter_le _ _) (by decide))
  rw [runP_def 3 m_looks_seen]
  simp [-q_joinL, frOf, st0, m_looks_seen, s_figs, A, e2]
theorem lettersseen_spec {ps : List (Nat × Nat)} (hs : Sn ps) : ∃ ls : List Nat, runP 2 m_letters_seen [.tup (ps.map pq)] = .ok (.lst (ls.map ch)) ∧ ls.Pairwise (· < ·) ∧ ∀ c, c ∈ ls ↔ c ∈ ps.map (·.1) := by
  have hhi := hs.hi
  have A : mLc (mItems (mVar 0)) [1] (uNm 1) (mRet true) (mOp dIx (mVar 1) (mRet (.int 0))) [.shr (.tup (ps.map pq)), .no] = .ok (ps.map fun p => ch p.1) [.shr (.tup (ps.map pq)), .no] :=
    lc_mapT (g := pq) _ (by simp) (fun p hp => by simp [-q_ixT, pr_0]) (by simp) (by omega)
  have e1 : ps.map (fun p => ch p.1) = (ps.map (·.1)).map ch := by rw [List.map_map]; rfl
  rw [e1] at A
  obtain ⟨ls, e2, h1, h2⟩ := dSrtSet_ch (cs := ps.map (·.1)) (by simp; omega)
  refine ⟨ls, ?_, h1, h2⟩
  rw [runP_def 2 m_letters_seen]
  simp [-List.map_map, frOf, st0, m_letters_seen, A, e2]
/-! two signs of a line -/
theorem share_spec {t : List (Nat × List Nat)} (h : Tab t) {p q : Nat × List Nat} (hp : p ∈ t) (hq : q ∈ t) : runP 4 m_share_look [ln t, ch p.1, ch q.1] = .ok (.bl (p.2.any fun c => decide (c ∈ q.2))) := by
  have h8 := (h.lk p hp).len
  have e : insIs 1 (ln t) = true := rfl
  have A : mLc (mItems (mMeth 1 2 (runP 2 m_Line_looks_of) (mVar 0) (mCons (mVar 1) (mRet [])))) [3] (uNm 3) (mRet true) (mOp dIn (mVar 3) (mMeth 1 2 (runP 2 m_Line_looks_of) (mVar 0) (mCons (mVar 2) (mRet [])))) [.shr (ln t), .shr (ch p.1), .shr (ch q.1), .no] = .ok (p.2.map fun c => .bl (decide (c ∈ q.2))) [.shr (ln t), .shr (ch p.1), .shr (ch q.1), .no] :=
    lc_mapT (g := ch) _ (by simp [e, looksof_spec h hp]) (fun c hc => by simp [e, looksof_spec h hq, in_tx]) (by simp) (by omega)
  rw [runP_def 4 m_share_look]
  simp [frOf, st0, m_share_look, A, dAny_map]
theorem mixed2_spec {t : List (Nat × List Nat)} (h : Tab t) {p q : Nat × List Nat} (hp : p ∈ t) (hq : q ∈ t) : runP 3 m_mixed [ln t, ch p.1, ch q.1] = .ok (.bl (p.2.any fun c => decide (c ∈ q.2))) := by
  have h1 := sign_spec h (List.mem_map_of_mem (f := fun p : Nat × List Nat => p.1) hp)
  have h2 := sign_spec h (List.mem_map_of_mem (f := fun p : Nat × List Nat => p.1) hq)
  rw [runP_def 3 m_mixed]
  simp [frOf, st0, m_mixed, line_spec, h1, h2, share_spec h hp hq]
end Nv

namespace Nv
open PySem PySem.Spec PyProof.Rows L2
/-- pairs of signs that were seen with one look -/
def SawBoth (ps : List (Nat × Nat)) (q : Nat × Nat) : Prop := q.1 ∈ lets ∧ q.2 ∈ lets ∧ ∃ f, (q.1, f) ∈ ps ∧ (q.2, f) ∈ ps
theorem let_rng {c : Nat} (h : c ∈ lets) : 97 ≤ c ∧ c < 123 := by
  have : ∀ c ∈ lets, 97 ≤ c ∧ c < 123 := by decide
  exact this c h
theorem surely_spec {ps : List (Nat × Nat)} (hs : Sn ps) : ∃ qs : List (Nat × Nat), runP 6 m_surely_mixed [.tup (ps.map pq)] = .ok (.tup (qs.map pq)) ∧ (∀ q ∈ qs, SawBoth ps q) ∧ qs.length ≤ 1000 := by
  obtain ⟨ls, e1, h1, h2⟩ := lettersseen_spec hs
  have hlet : ∀ c ∈ ls, c ∈ lets := fun c hc => by
    obtain ⟨p, hp, rfl⟩ := List.mem_map.mp ((h2 c).mp hc)
    exact hs.ltr p hp
  have hlen : ls.length ≤ 26 := up_len ls 97 123 h1 fun c hc => let_rng (hlet c hc)
  have L := for_all (t := gNm 1) (body := (mSeq (mFor (mItems (mSl (mVar 3) (mPart (mOp dAdd (mVar 1) (mRet (.int 1)))) (mRet none))) (gNm 4) (mSeq (mIfS (mBl (mUn dAny (mLst (mLc (mItems (mCallN 2 (runP 3 m_looks_seen) (mCons (mVar 0) (mCons (mOp dIx (mVar 3) (mVar 1)) (mRet []))))) [5] (uNm 5) (mRet true) (mOp dIn (mVar 5) (mCallN 2 (runP 3 m_looks_seen) (mCons (mVar 0) (mCons (mVar 4) (mRet []))))))))) (mSeq (mDrop (mApp 2 (mTup (mCons (mOp dIx (mVar 3) (mVar 1)) (mCons (mVar 4) (mRet [])))))) mNext) mNext) mNext)) mNext))
    (ds := rgs 0 ls.length) (ρ := [.shr (.tup (ps.map pq)), .no, .own (.lst []), .shr (.lst (ls.map ch)), .no, .no])
    (fun j ρ => ∃ z1 z4 qs, ρ = [.shr (.tup (ps.map pq)), z1, .own (.lst (qs.map pq)), .shr (.lst (ls.map ch)), z4, .no] ∧ (∀ q ∈ qs, SawBoth ps q) ∧ qs.length ≤ 30 * j) ⟨_, _, [], rfl, by simp, by simp⟩ fun j d ρ hj ⟨z1, z4, qs, e, h3, h4⟩ => by
      obtain ⟨hj1, rfl⟩ := rgs_get hj
      subst e
      have la := hlet _ (List.getElem_mem hj1)
      have I := for_all (t := gNm 4) (body := (mSeq (mIfS (mBl (mUn dAny (mLst (mLc (mItems (mCallN 2 (runP 3 m_looks_seen) (mCons (mVar 0) (mCons (mOp dIx (mVar 3) (mVar 1)) (mRet []))))) [5] (uNm 5) (mRet true) (mOp dIn (mVar 5) (mCallN 2 (runP 3 m_looks_seen) (mCons (mVar 0) (mCons (mVar 4) (mRet []))))))))) (mSeq (mDrop (mApp 2 (mTup (mCons (mOp dIx (mVar 3) (mVar 1)) (mCons (mVar 4) (mRet [])))))) mNext) mNext) mNext))
        (ds := (ls.drop (j + 1)).map ch) (ρ := [.shr (.tup (ps.map pq)), .shr (.int (j : Nat)), .own (.lst (qs.map pq)), .shr (.lst (ls.map ch)), z4, .no])
        (fun i ρ => ∃ z4 qs, ρ = [.shr (.tup (ps.map pq)), .shr (.int (j : Nat)), .own (.lst (qs.map pq)), .shr (.lst (ls.map ch)), z4, .no] ∧ (∀ q ∈ qs, SawBoth ps q) ∧ qs.length ≤ 30 * j + i) ⟨_, qs, rfl, h3, by omega⟩ fun i d ρ hi ⟨z4, qs, e, h5, h6⟩ => by
          obtain ⟨hi1, rfl⟩ := get_map hi
          subst e
          have lb := hlet _ (List.mem_of_mem_drop (List.getElem_mem hi1))
          generalize hb : (ls.drop (j + 1))[i] = b at lb
          have hi2 : i < 26 := by rw [List.length_drop] at hi1; omega
          have lq : qs.length < 100000 := by omega
          have x1 := looksseen_spec hs la
          have x2 := looksseen_spec hs lb
          have A : mLc (mItems (mCallN 2 (runP 3 m_looks_seen) (mCons (mVar 0) (mCons (mOp dIx (mVar 3) (mVar 1)) (mRet []))))) [5] (uNm 5) (mRet true) (mOp dIn (mVar 5) (mCallN 2 (runP 3 m_looks_seen) (mCons (mVar 0) (mCons (mVar 4) (mRet [])))))
              [.shr (.tup (ps.map pq)), .shr (.int (j : Nat)), .own (.lst (qs.map pq)), .shr (.lst (ls.map ch)), .shr (ch b), .no] = .ok ((seenOf ps ls[j]).map fun c => .bl (decide (c ∈ seenOf ps b))) [.shr (.tup (ps.map pq)), .shr (.int (j : Nat)), .own (.lst (qs.map pq)), .shr (.lst (ls.map ch)), .shr (ch b), .no] :=
            lc_mapT (g := ch) _ (by simp [atI_nat, hj1, x1]) (fun c hc => by simp [x2, in_tx]) (by simp) (Nat.le_trans (List.length_filter_le _ _) (by decide))
          by_cases hany : ((seenOf ps ls[j]).any fun c => decide (c ∈ seenOf ps b)) = true
          · refine ⟨_, [.shr (.tup (ps.map pq)), .shr (.int (j : Nat)), .own (.lst ((qs ++ [(ls[j], b)]).map pq)), .shr (.lst (ls.map ch)), .shr (ch b), .no], rfl, ?_, _, qs ++ [(ls[j], b)], rfl, ?_, by simp; omega⟩
            · have e9 : pq (ls[j], b) = .tup [ch ls[j], ch b] := rfl
              simp [A, dAny_map, hany, atI_nat, hj1, lq, e9]
            · intro q hq
              rcases List.mem_append.mp hq with h | h
              · exact h5 q h
              · rw [List.mem_singleton.mp h]
                obtain ⟨f, hf, hf2⟩ := List.any_eq_true.mp hany
                unfold seenOf at hf hf2
                simp only [List.mem_filter, decide_eq_true_eq] at hf hf2
                exact ⟨la, lb, f, hf.2, hf2.2⟩
          · refine ⟨_, [.shr (.tup (ps.map pq)), .shr (.int (j : Nat)), .own (.lst (qs.map pq)), .shr (.lst (ls.map ch)), .shr (ch b), .no], rfl, ?_, _, qs, rfl, h5, by omega⟩
            have hany2 := Bool.eq_false_iff.mpr hany
            simp [A, dAny_map, hany2]
      obtain ⟨ρ', q1, z4', qs', rfl, q2, q3⟩ := I
      refine ⟨[.shr (.tup (ps.map pq)), .shr (.int (0 + (j : Nat))), .own (.lst (qs.map pq)), .shr (.lst (ls.map ch)), z4, .no], [.shr (.tup (ps.map pq)), .shr (.int (j : Nat)), .own (.lst (qs'.map pq)), .shr (.lst (ls.map ch)), z4', .no], rfl, ?_, _, _, qs', rfl, q2, ?_⟩
      · have cd := cut_drop (ls.map ch) (j + 1)
        simp only [Int.natCast_add, Int.natCast_one] at cd
        rw [← List.map_drop] at cd
        simp only [Int.zero_add]
        simp [-List.map_drop, cd, q1]
      · rw [List.length_map, List.length_drop] at q3
        omega
  obtain ⟨ρ', q1, z1, z4, qs, rfl, q2, q3⟩ := L
  rw [rgs_len] at q3
  refine ⟨qs, ?_, q2, by omega⟩
  rw [runP_def 6 m_surely_mixed]
  have b1 : (ls.length : Int) ≤ 1000000 := by omega
  have b3 : -1000000 ≤ (ls.length : Int) := by omega
  simp [frOf, st0, m_surely_mixed, seen_spec hs, e1, b1, b3, q1]
/-- pairs to see, drawn from a table -/
theorem pairs_spec {k : Nat} {s : D} {t : List (Nat × List Nat)} (h : Spr k s) (hk : k ≤ 700000) (ht : Tab t) : ∃ (ps : List (Nat × Nat)) (s' : D), runI 7 m__law_pairs_for s [.tup (t.map en)] = .ok (.tup (ps.map pq)) s' ∧ Sn ps ∧ Spr (k + 200) s' := by
  have hlo := ht.lo
  have hhi := ht.hi
  obtain ⟨d, s1, e1, h1, h2⟩ := choiceL (xs := [.int 3, .int 10, .int 40]) h (by omega) (by simp) (by simp)
  obtain ⟨m, rfl, hm1, hm2⟩ : ∃ m : Nat, d = .int m ∧ 0 < m ∧ m ≤ 40 := by
    simp only [List.mem_cons, List.not_mem_nil, or_false] at h1
    rcases h1 with rfl | rfl | rfl
    · exact ⟨3, rfl, by omega, by omega⟩
    · exact ⟨10, rfl, by omega, by omega⟩
    · exact ⟨40, rfl, by omega, by omega⟩
  obtain ⟨n', s2, e2, h3, h4, h5⟩ := drop_spec (n := m) h2 (by omega) (by omega) (by omega)
  obtain ⟨n, rfl⟩ := Int.eq_ofNat_of_zero_le h3
  have L := for_all (t := gNm 3) (body := (mSeq (sBind (mCallI 0 1 (runI 2 m__law_choice) (mCons (mVar 1) (mRet []))) fun d => onlyNx ((gTp 2 (gCons' (gNm 5) (gCons' (gNm 6) gNil'))) d)) (mSeq (mSet 4 (mCallI 0 1 (runI 4 m__law_drop) (mCons (mRet (.int 24)) (mRet [])))) (mSeq (mSet 5 (mIf (mBl (mOp dEq (mVar 4) (mRet (.int 0)))) (mCallI 0 1 (runI 2 m__law_choice) (mCons (mLst (mUnF dList (mRet (tx lets)))) (mRet []))) (mVar 5))) (mSeq (mDrop (mApp 2 (mTup (mCons (mVar 5) (mCons (mCallI 0 1 (runI 2 m__law_choice) (mCons (mIf (mBl (mOp dEq (mVar 4) (mRet (.int 1)))) (mRet (tx figs)) (mVar 6)) (mRet []))) (mRet [])))))) mNext)))))
    (ds := rgs 0 (1 + n)) (ρ := [.own s2, .shr (.tup (t.map en)), .own (.lst []), .no, .no, .no, .no])
    (fun j ρ => ∃ s' z3 z4 z5 z6 ps, ρ = [.own s', .shr (.tup (t.map en)), .own (.lst (ps.map pq)), z3, z4, z5, z6] ∧ Spr (k + 2 + 4 * j) s' ∧ ps.length = j ∧ (∀ p ∈ ps, p.1 ∈ lets) ∧ ∀ p ∈ ps, p.2 ∈ figs) ⟨s2, _, _, _, _, [], rfl, h5, rfl, by simp, by simp⟩ fun j d ρ hj ⟨s3, z3, z4, z5, z6, ps, e, h6, h7, h8, h9⟩ => by
      obtain ⟨hj1, rfl⟩ := rgs_get hj
      subst e
      obtain ⟨d, s4, e3, h10, h11⟩ := choiceT (xs := t.map en) h6 (by omega) (by simp; omega) (by simp; omega)
      obtain ⟨p, hp, rfl⟩ := List.mem_map.mp h10
      obtain ⟨way, s5, e4, h12, h13, h14⟩ := drop_spec (n := 24) h11 (by omega) (by omega) (by omega)
      have hpl := (ht.lk p hp)
      have hp8 := hpl.len
      have lps : ps.length < 100000 := by omega
      have le : dList (tx lets) = some (lets.map ch) := dList_tx (by decide)
      by_cases w0 : way = 0
      · subst w0
        obtain ⟨d, s6, e5, h15, h16⟩ := choiceL (xs := lets.map ch) h14 (by omega) (by decide) (by decide)
        obtain ⟨a, ha, rfl⟩ := List.mem_map.mp h15
        obtain ⟨f, s7, e6, h17, h18⟩ := choiceX (w := p.2) h16 (by omega) hpl.ne (by omega)
        have e9 : pq (a, f) = .tup [ch a, ch f] := rfl
        refine ⟨_, [.own s7, .shr (.tup (t.map en)), .own (.lst ((ps ++ [(a, f)]).map pq)), .shr (.int (0 + (j : Nat))), .shr (.int 0), .shr (ch a), .shr (tx p.2)], rfl, ?_, s7, _, _, _, _, ps ++ [(a, f)], rfl, h18.mono (by omega), by simp [h7], ?_, ?_⟩
        · have e3' : runI 2 m__law_choice s3 [.tup (t.map en)] = .ok (.tup [ch p.1, tx p.2]) s4 := e3
          simp [e3', e4, le, e5, e6, lps, e9]
        · intro q hq
          rcases List.mem_append.mp hq with h | h
          · exact h8 q h
          · rw [List.mem_singleton.mp h]; exact ha
        · intro q hq
          rcases List.mem_append.mp hq with h | h
          · exact h9 q h
          · rw [List.mem_singleton.mp h]; exact hpl.fig f h17
      · obtain ⟨f, s7, e6, h17, h18⟩ : ∃ f s7, runI 2 m__law_choice s5 [if way = 1 then tx figs else tx p.2] = .ok (ch f) s7 ∧ f ∈ figs ∧ Spr (k + 2 + 4 * j + 1 + 1 + 1) s7 := by
          by_cases w1 : way = 1
          · rw [if_pos w1]
            exact choiceX (w := figs) h14 (by omega) (by decide) (by decide)
          · rw [if_neg w1]
            obtain ⟨f, s7, e6, h17, h18⟩ := choiceX (w := p.2) h14 (by omega) hpl.ne (by omega)
            exact ⟨f, s7, e6, hpl.fig f h17, h18⟩
        have e9 : pq (p.1, f) = .tup [ch p.1, ch f] := rfl
        refine ⟨_, [.own s7, .shr (.tup (t.map en)), .own (.lst ((ps ++ [(p.1, f)]).map pq)), .shr (.int (0 + (j : Nat))), .shr (.int way), .shr (ch p.1), .shr (tx p.2)], rfl, ?_, s7, _, _, _, _, ps ++ [(p.1, f)], rfl, h18.mono (by omega), by simp [h7], ?_, ?_⟩
        · have e3' : runI 2 m__law_choice s3 [.tup (t.map en)] = .ok (.tup [ch p.1, tx p.2]) s4 := e3
          by_cases w1 : way = 1
          · rw [if_pos w1] at e6
            simp [e3', e4, w0, w1, e6, lps, e9]
          · rw [if_neg w1] at e6
            simp [e3', e4, w0, w1, e6, lps, e9]
        · intro q hq
          rcases List.mem_append.mp hq with h | h
          · exact h8 q h
          · rw [List.mem_singleton.mp h]; exact ht.ltr p hp
        · intro q hq
          rcases List.mem_append.mp hq with h | h
          · exact h9 q h
          · rw [List.mem_singleton.mp h]; exact h17
  obtain ⟨ρ', q1, s3, z3, z4, z5, z6, ps, rfl, q2, q3, q4, q5⟩ := L
  rw [rgs_len] at q2 q3
  refine ⟨ps, s3, ?_, ⟨by omega, by omega, q4, q5⟩, q2.mono (by omega)⟩
  rw [runI_def 7 m__law_pairs_for]
  have b1 : (1 : Int) + (n : Int) ≤ 1000000 := by omega
  have b2 : -1000000 ≤ (1 : Int) + (n : Int) := by omega
  have b3 : ((1 : Int) + (n : Int)).toNat = 1 + n := by omega
  have e2' : runI 4 m__law_drop s1 [.int m] = .ok (.int n) s2 := e2
  simp [fiOf, own0, st1, m__law_pairs_for, s_lets, s_figs, e1, e2', b1, b2, b3, q1]
end Nv

namespace Nv
open PySem PySem.Spec PyProof.Rows L2
theorem repr_two (b : Bool) : ∃ r : Str, dRepr (.lst [.bl b, .bl b]) = some (.str r) := by
  cases b <;> (unfold dRepr; rw [if_pos (by decide +kernel)]; exact ⟨_, rfl⟩)
theorem isEmpty_filter {α : Type} (f : α → Bool) (g : α → D) (xs : List α) : ((xs.filter f).map g).isEmpty = !xs.any f := by
  rw [Bool.eq_iff_iff]
  simp [List.filter_eq_nil_iff]
theorem isEmpty_filter_not {α : Type} (f : α → Bool) (g : α → D) (xs : List α) : ((xs.filter fun x => !f x).map g).isEmpty = xs.all f := by
  rw [Bool.eq_iff_iff]
  simp [List.filter_eq_nil_iff]
theorem inner_spec {t : List (Nat × List Nat)} (ht : Tab t) {p : Nat × Nat} {a0 a1 a3 a4 a5 a6 a7 a8 a9 a10 a11 a12 a13 : Sl} :
    (mLc (mItems (mVar 2)) [15] (uNm 15) (mAnd (mBl (mOp dEq (mOp dIx (mVar 15) (mRet (.int 0))) (mOp dIx (mVar 14) (mRet (.int 0))))) (mBl (mOp dIn (mOp dIx (mVar 14) (mRet (.int 1))) (mOp dIx (mVar 15) (mRet (.int 1)))))) (mVar 15)) [a0, a1, .shr (.tup (t.map en)), a3, a4, a5, a6, a7, a8, a9, a10, a11, a12, a13, .shr (pq p), .no] = .ok ((t.filter fun q => decide (q.1 = p.1) && decide (p.2 ∈ q.2)).map en) [a0, a1, .shr (.tup (t.map en)), a3, a4, a5, a6, a7, a8, a9, a10, a11, a12, a13, .shr (pq p), .no] := by
  have h6 := ht.hi
  refine lc_map (g := en) _ en (by simp) (fun q hq => ⟨?_, fun _ => by simp⟩) (by simp) (by omega)
  by_cases h1 : q.1 = p.1
  · simp [-q_ixT, en_0, en_1, pr_0, pr_1, eq_ch, in_tx, h1]
  · simp [-q_ixT, en_0, en_1, pr_0, pr_1, eq_ch, in_tx, h1]
theorem wrong_spec {t : List (Nat × List Nat)} (ht : Tab t) {ps : List (Nat × Nat)} (hs : Sn ps) {a0 a1 a3 a4 a5 a6 a7 a8 a9 a11 a12 a13 : Sl} :
    (mLc (mItems (mVar 10)) [14] (uNm 14) (mBl (mOp dEq (mLst (mLc (mItems (mVar 2)) [15] (uNm 15) (mAnd (mBl (mOp dEq (mOp dIx (mVar 15) (mRet (.int 0))) (mOp dIx (mVar 14) (mRet (.int 0))))) (mBl (mOp dIn (mOp dIx (mVar 14) (mRet (.int 1))) (mOp dIx (mVar 15) (mRet (.int 1)))))) (mVar 15))) (mLst (mFit (mRet []))))) (mVar 14)) [a0, a1, .shr (.tup (t.map en)), a3, a4, a5, a6, a7, a8, a9, .shr (.tup (ps.map pq)), a11, a12, a13, .no, .no] = .ok ((ps.filter fun p => !fit t p).map pq) [a0, a1, .shr (.tup (t.map en)), a3, a4, a5, a6, a7, a8, a9, .shr (.tup (ps.map pq)), a11, a12, a13, .no, .no] := by
  have hhi := hs.hi
  refine lc_map (g := pq) _ pq (by simp) (fun p hp => ⟨?_, fun _ => by simp⟩) (by simp) (by omega)
  have e := Flat.eqOk (Flat.lst (n := 1) (ds := (t.filter fun q => decide (q.1 = p.1) && decide (p.2 ∈ q.2)).map en) (by
    intro d hd
    obtain ⟨q, hq, rfl⟩ := List.mem_map.mp hd
    exact ht.flat _ (List.mem_map_of_mem (List.mem_filter.mp hq).1))) (by omega)
  have e2 := dEq_nilL e
  rw [isEmpty_filter] at e2
  have I := inner_spec ht (p := p) (a0 := a0) (a1 := a1) (a3 := a3) (a4 := a4) (a5 := a5) (a6 := a6) (a7 := a7) (a8 := a8) (a9 := a9) (a10 := .shr (.tup (ps.map pq))) (a11 := a11) (a12 := a12) (a13 := a13)
  simp only [List.set_cons_succ, List.set_cons_zero]
  simp only [q_bl, q_op, q_lst, I, q_ok, q_bind, q_ret, q_fit, q_fits, e2, q_opt, q_dBl, List.length_nil, Nat.zero_le, if_true]
  rfl
theorem near_spec {t : List (Nat × List Nat)} (ht : Tab t) {qs : List (Nat × Nat)} (hq : ∀ q ∈ qs, ∃ r ∈ t, ∃ r' ∈ t, r.1 = q.1 ∧ r'.1 = q.2 ∧ ∃ f, f ∈ r.2 ∧ f ∈ r'.2) (hl : qs.length ≤ 1000) {a0 a1 a2 a4 a5 a6 a7 a8 a9 a10 a11 a12 : Sl} :
    (mLc (mItems (mVar 13)) [14] (uNm 14) (mNot (mBl (mCallN 3 (runP 3 m_mixed) (mCons (mVar 3) (mCons (mOp dIx (mVar 14) (mRet (.int 0))) (mCons (mOp dIx (mVar 14) (mRet (.int 1))) (mRet []))))))) (mVar 14)) [a0, a1, a2, .shr (ln t), a4, a5, a6, a7, a8, a9, a10, a11, a12, .shr (.tup (qs.map pq)), .no, .no] = .ok [] [a0, a1, a2, .shr (ln t), a4, a5, a6, a7, a8, a9, a10, a11, a12, .shr (.tup (qs.map pq)), .no, .no] := by
  have := lc_map (g := pq) (it := mItems (mVar 13)) (j := 14) (t := (mNot (mBl (mCallN 3 (runP 3 m_mixed) (mCons (mVar 3) (mCons (mOp dIx (mVar 14) (mRet (.int 0))) (mCons (mOp dIx (mVar 14) (mRet (.int 1))) (mRet [])))))))) (f := mVar 14) (ρ := [a0, a1, a2, .shr (ln t), a4, a5, a6, a7, a8, a9, a10, a11, a12, .shr (.tup (qs.map pq)), .no, .no]) (xs := qs) (fun _ => false) pq (by simp) (fun q hm => ⟨by
    obtain ⟨r, hr, r', hr', h1, h2, f, h3, h4⟩ := hq q hm
    have e := mixed2_spec ht hr hr'
    rw [h1, h2] at e
    have e2 : (r.2.any fun c => decide (c ∈ r'.2)) = true := List.any_eq_true.mpr ⟨f, h3, by simpa using h4⟩
    rw [e2] at e
    simp [-q_ixT, pr_0, pr_1, e], fun h => by cases h⟩) (by simp) (by omega)
  rw [this]
  simp
def B2 : MS := (mSeq (mSet 10 (mCallI 0 1 (runI 7 m__law_pairs_for) (mCons (mVar 2) (mRet [])))) (mSeq (mSet 11 (mLst (mLc (mItems (mVar 10)) [14] (uNm 14) (mBl (mOp dEq (mLst (mLc (mItems (mVar 2)) [15] (uNm 15) (mAnd (mBl (mOp dEq (mOp dIx (mVar 15) (mRet (.int 0))) (mOp dIx (mVar 14) (mRet (.int 0))))) (mBl (mOp dIn (mOp dIx (mVar 14) (mRet (.int 1))) (mOp dIx (mVar 15) (mRet (.int 1)))))) (mVar 15))) (mLst (mFit (mRet []))))) (mVar 14)))) (mSeq (mSet 12 (mOp dEq (mVar 11) (mLst (mFit (mRet []))))) (mSeq (mIfS (mBl (mOp dNe (mUn dRepr (mLst (mFit (mCons (mCallN 2 (runP 3 m_fits) (mCons (mVar 3) (mCons (mVar 10) (mRet [])))) (mCons (mCallN 2 (runP 3 m_fits) (mBind (mCons (mVar 10) (mCons (mVar 3) (mRet []))) fun ds => mRet (permD [1, 0] ds))) (mRet [])))))) (mUn dRepr (mLst (mFit (mCons (mVar 12) (mCons (mVar 12) (mRet [])))))))) (mSeq (mRt (mRet (.bl false))) mNext) mNext) (mSeq (mIfS (mAnd (mBl (mVar 12)) (mNot (mBl (mCallN 2 (runP 3 m_fits) (mCons (mVar 4) (mCons (mVar 10) (mRet []))))))) (mSeq (mRt (mRet (.bl false))) mNext) mNext) (mSeq (mSet 13 (mIf (mBl (mVar 12)) (mCallN 1 (runP 6 m_surely_mixed) (mCons (mVar 10) (mRet []))) (mTup (mRet [])))) (mSeq (mIfS (mBl (mOp dNe (mLst (mLc (mItems (mVar 13)) [14] (uNm 14) (mNot (mBl (mCallN 3 (runP 3 m_mixed) (mCons (mVar 3) (mCons (mOp dIx (mVar 14) (mRet (.int 0))) (mCons (mOp dIx (mVar 14) (mRet (.int 1))) (mRet []))))))) (mVar 14))) (mLst (mFit (mRet []))))) (mSeq (mRt (mRet (.bl false))) mNext) mNext) mNext)))))))
theorem again_spec {k : Nat} {s : D} {t t' : List (Nat × List Nat)} (h : Spr k s) (hk : k ≤ 600000) (ht : Tab t) (ht' : Tab t') (up : ∀ p, fit t p = true → fit t' p = true) {a1 a5 a6 a7 a8 a9 a10 a11 a12 a13 : Sl} :
    ∃ s' b10 b11 b12 b13, B2 [.own s, a1, .shr (.tup (t.map en)), .shr (ln t), .shr (ln t'), a5, a6, a7, a8, a9, a10, a11, a12, a13, .no, .no] = .nx [.own s', a1, .shr (.tup (t.map en)), .shr (ln t), .shr (ln t'), a5, a6, a7, a8, a9, b10, b11, b12, b13, .no, .no] ∧ Spr (k + 200) s' := by
  obtain ⟨ps, s', e1, hs, h1⟩ := pairs_spec h (by omega) ht
  have fl : (D.lst ((ps.filter fun p => !fit t p).map pq)).eqOk = true := Flat.eqOk (Flat.lst (n := 1) (by
    intro d hd
    obtain ⟨p, hp, rfl⟩ := List.mem_map.mp hd
    have := hs.lt p (List.mem_filter.mp hp).1
    exact Flat.pq this.1 this.2)) (by omega)
  have e2 := dEq_nilL fl
  rw [isEmpty_filter_not] at e2
  have e3 := fits_spec ht hs
  have e4 := fits_spec ht' hs
  obtain ⟨r, e5⟩ := repr_two (ps.all (fit t))
  have e6 : permD [1, 0] [.tup (ps.map pq), ln t] = [ln t, .tup (ps.map pq)] := rfl
  have e7 : dNe (.str r) (.str r) = some (.bl false) := by simp
  have e8 : dNe (.lst []) (.lst []) = some (.bl false) := dNe_nilL (Flat.eqOk (Flat.lst (n := 0) (by simp)) (by omega))
  have W := wrong_spec ht hs (a0 := .own s') (a1 := a1) (a3 := .shr (ln t)) (a4 := .shr (ln t')) (a5 := a5) (a6 := a6) (a7 := a7) (a8 := a8) (a9 := a9) (a11 := a11) (a12 := a12) (a13 := a13)
  unfold B2
  by_cases hb : ps.all (fit t) = true
  · have hb' : ps.all (fit t') = true := List.all_eq_true.mpr fun p hp => up p (List.all_eq_true.mp hb p hp)
    obtain ⟨qs, e9, h2, h3⟩ := surely_spec hs
    rw [hb] at e2 e3 e5
    rw [hb'] at e4
    have N := near_spec ht (qs := qs) (fun q hq => by
      obtain ⟨x1, x2, f, x3, x4⟩ := h2 q hq
      have y1 := List.all_eq_true.mp hb _ x3
      have y2 := List.all_eq_true.mp hb _ x4
      unfold fit at y1 y2
      obtain ⟨r1, m1, z1⟩ := List.any_eq_true.mp y1
      obtain ⟨r2, m2, z2⟩ := List.any_eq_true.mp y2
      simp only [Bool.and_eq_true, decide_eq_true_eq] at z1 z2
      exact ⟨r1, m1, r2, m2, z1.1, z2.1, f, z1.2, z2.2⟩) h3 (a0 := .own s') (a1 := a1) (a2 := .shr (.tup (t.map en))) (a4 := .shr (ln t')) (a5 := a5) (a6 := a6) (a7 := a7) (a8 := a8) (a9 := a9) (a10 := .shr (.tup (ps.map pq))) (a11 := .shr (.lst ((ps.filter fun p => !fit t p).map pq))) (a12 := .shr (.bl true))
    exact ⟨s', .shr (.tup (ps.map pq)), .shr (.lst ((ps.filter fun p => !fit t p).map pq)), .shr (.bl true), .shr (.tup (qs.map pq)), by simp [-q_neS, e1, W, e2, e3, e4, e5, e6, e7, e8, e9, N], h1⟩
  · have hb0 := Bool.eq_false_iff.mpr hb
    rw [hb0] at e2 e3 e5
    have N := near_spec ht (qs := []) (by simp) (by simp) (a0 := .own s') (a1 := a1) (a2 := .shr (.tup (t.map en))) (a4 := .shr (ln t')) (a5 := a5) (a6 := a6) (a7 := a7) (a8 := a8) (a9 := a9) (a10 := .shr (.tup (ps.map pq))) (a11 := .shr (.lst ((ps.filter fun p => !fit t p).map pq))) (a12 := .shr (.bl false))
    simp only [List.map_nil] at N
    exact ⟨s', .shr (.tup (ps.map pq)), .shr (.lst ((ps.filter fun p => !fit t p).map pq)), .shr (.bl false), .shr (.tup []), by simp [-q_neS, e1, W, e2, e3, e5, e6, e7, e8, N], h1⟩
end Nv

namespace Nv
open PySem PySem.Spec PyProof.Rows L2
/-- a wider line -/
theorem widen {t : List (Nat × List Nat)} (ht : Tab t) {i : Nat} (hi : i < t.length) {f : Nat} (hf : f ∈ figs) {w : List Nat} (h1 : w.Pairwise (· < ·)) (h2 : ∀ c, c ∈ w ↔ c ∈ t[i].2 ++ [f]) :
    Tab (t.set i (t[i].1, w)) ∧ ∀ p, fit t p = true → fit (t.set i (t[i].1, w)) p = true := by
  have hm : (t.set i (t[i].1, w)).map (·.1) = t.map (·.1) := by
    rw [List.map_set]
    apply List.ext_getElem?
    intro n
    by_cases e : i = n
    · subst e
      rw [List.getElem?_set_self (by simpa using hi)]
      simp [hi]
    · rw [List.getElem?_set_ne e]
  have hk := ht.lk _ (List.getElem_mem hi)
  have lw : Lk w := ⟨fun e => by
      subst e
      exact absurd ((h2 f).mpr (by simp)) (by simp), h1, fun c hc => by
      rcases List.mem_append.mp ((h2 c).mp hc) with h | h
      · exact hk.fig c h
      · rw [List.mem_singleton.mp h]; exact hf⟩
  refine ⟨⟨by rw [List.length_set]; exact ht.lo, by rw [List.length_set]; exact ht.hi, by rw [hm]; exact ht.nd, ?_, ?_⟩, ?_⟩
  · intro p hp
    rcases List.mem_or_eq_of_mem_set hp with h | rfl
    · exact ht.ltr p h
    · exact ht.ltr t[i] (List.getElem_mem hi)
  · intro p hp
    rcases List.mem_or_eq_of_mem_set hp with h | rfl
    · exact ht.lk p h
    · exact lw
  · intro p hp
    unfold fit at hp ⊢
    obtain ⟨q, hq, hq2⟩ := List.any_eq_true.mp hp
    simp only [Bool.and_eq_true, decide_eq_true_eq] at hq2
    obtain ⟨n, hn, rfl⟩ := List.mem_iff_getElem.mp hq
    by_cases e : i = n
    · subst e
      refine List.any_eq_true.mpr ⟨(t[i].1, w), List.mem_set hi _, ?_⟩
      simp only [Bool.and_eq_true, decide_eq_true_eq]
      exact ⟨hq2.1, (h2 _).mpr (List.mem_append_left _ hq2.2)⟩
    · refine List.any_eq_true.mpr ⟨t[n], ?_, by simpa using hq2⟩
      have : (t.set i (t[i].1, w))[n]'(by simpa using hn) = t[n] := by rw [List.getElem_set_ne e]
      rw [← this]
      exact List.getElem_mem _
def B1 : MS := (mSeq (mSet 2 (mCallI 0 0 (runI 3 m__law_told) (mRet []))) (mSeq (mSet 3 (mMake 0 1 (runI 2 m_Line_init) (mCons (mVar 2) (mRet [])))) (mSeq (mParVV 6 7 (mCallI 0 1 (runI 4 m__law_drop) (mCons (mUn dLen (mVar 2)) (mRet []))) (mCallI 0 1 (runI 2 m__law_choice) (mCons (mRet (.str "01234567")) (mRet [])))) (mSeq (sBind (mOp dIx (mVar 2) (mVar 6)) fun d => onlyNx ((gTp 2 (gCons' (gNm 8) (gCons' (gNm 9) gNil'))) d)) (mSeq (mSet 4 (mMake 0 1 (runI 2 m_Line_init) (mCons (mOp dAdd (mOp dAdd (mSl (mVar 2) (mRet none) (mPart (mVar 6))) (mTup (mCons (mTup (mCons (mVar 8) (mCons (mStr dJoin (mRet (.str "")) (mLst (mUnF dSrtSet (mOp dAdd (mVar 9) (mVar 7))))) (mRet [])))) (mRet [])))) (mSl (mVar 2) (mPart (mOp dAdd (mVar 6) (mRet (.int 1)))) (mRet none))) (mRet [])))) (mSeq (mFor (mBind (mCons (mRet (.int 6)) (mRet [])) fun ds => mOpt (dRg1 ds)) (gNm 5) (mSeq (mSet 10 (mCallI 0 1 (runI 7 m__law_pairs_for) (mCons (mVar 2) (mRet [])))) (mSeq (mSet 11 (mLst (mLc (mItems (mVar 10)) [14] (uNm 14) (mBl (mOp dEq (mLst (mLc (mItems (mVar 2)) [15] (uNm 15) (mAnd (mBl (mOp dEq (mOp dIx (mVar 15) (mRet (.int 0))) (mOp dIx (mVar 14) (mRet (.int 0))))) (mBl (mOp dIn (mOp dIx (mVar 14) (mRet (.int 1))) (mOp dIx (mVar 15) (mRet (.int 1)))))) (mVar 15))) (mLst (mFit (mRet []))))) (mVar 14)))) (mSeq (mSet 12 (mOp dEq (mVar 11) (mLst (mFit (mRet []))))) (mSeq (mIfS (mBl (mOp dNe (mUn dRepr (mLst (mFit (mCons (mCallN 2 (runP 3 m_fits) (mCons (mVar 3) (mCons (mVar 10) (mRet [])))) (mCons (mCallN 2 (runP 3 m_fits) (mBind (mCons (mVar 10) (mCons (mVar 3) (mRet []))) fun ds => mRet (permD [1, 0] ds))) (mRet [])))))) (mUn dRepr (mLst (mFit (mCons (mVar 12) (mCons (mVar 12) (mRet [])))))))) (mSeq (mRt (mRet (.bl false))) mNext) mNext) (mSeq (mIfS (mAnd (mBl (mVar 12)) (mNot (mBl (mCallN 2 (runP 3 m_fits) (mCons (mVar 4) (mCons (mVar 10) (mRet []))))))) (mSeq (mRt (mRet (.bl false))) mNext) mNext) (mSeq (mSet 13 (mIf (mBl (mVar 12)) (mCallN 1 (runP 6 m_surely_mixed) (mCons (mVar 10) (mRet []))) (mTup (mRet [])))) (mSeq (mIfS (mBl (mOp dNe (mLst (mLc (mItems (mVar 13)) [14] (uNm 14) (mNot (mBl (mCallN 3 (runP 3 m_mixed) (mCons (mVar 3) (mCons (mOp dIx (mVar 14) (mRet (.int 0))) (mCons (mOp dIx (mVar 14) (mRet (.int 1))) (mRet []))))))) (mVar 14))) (mLst (mFit (mRet []))))) (mSeq (mRt (mRet (.bl false))) mNext) mNext) mNext)))))))) mNext))))))
theorem turn1_spec {k : Nat} {s : D} (h : Spr k s) (hk : k ≤ 500000) {a1 a2 a3 a4 a5 a6 a7 a8 a9 a10 a11 a12 a13 : Sl} :
    ∃ s' b2 b3 b4 b5 b6 b7 b8 b9 b10 b11 b12 b13, B1 [.own s, a1, a2, a3, a4, a5, a6, a7, a8, a9, a10, a11, a12, a13, .no, .no] = .nx [.own s', a1, b2, b3, b4, b5, b6, b7, b8, b9, b10, b11, b12, b13, .no, .no] ∧ Spr (k + 2000) s' := by
  obtain ⟨t, s1, e1, ht, h1⟩ := told_spec h (by omega)
  have hlo := ht.lo
  have hhi := ht.hi
  obtain ⟨i', s2, e2, h2, h3, h4⟩ := drop_spec (n := t.length) h1 (by omega) (by omega) (by omega)
  obtain ⟨i, rfl⟩ := Int.eq_ofNat_of_zero_le h2
  have hi : i < t.length := by omega
  obtain ⟨f, s3, e3, hf, h5⟩ := choiceX (w := figs) h4 (by omega) (by decide) (by decide)
  have hp := ht.lk _ (List.getElem_mem hi)
  have hp8 := hp.len
  obtain ⟨w, e4, h6, h7⟩ := dSrtSet_tx (cs := t[i].2 ++ [f]) (by simp; omega)
  obtain ⟨ht', up⟩ := widen ht hi hf h6 h7
  have hw := ht'.lk (t[i].1, w) (List.mem_set hi _)
  have hw8 : w.length ≤ 8 := hw.len
  have e5 := dJoin_ch (cs := w) (by omega)
  have e6 : dAdd (tx t[i].2) (ch f) = some (tx (t[i].2 ++ [f])) := add_tx (b := [f]) (by simp; omega)
  have c1 := cut_take (t.map en) i
  have c2 := cut_drop (t.map en) (i + 1)
  simp only [Int.natCast_add, Int.natCast_one] at c2
  have e7 : (t.map en).take i ++ [en (t[i].1, w)] ++ (t.map en).drop (i + 1) = (t.set i (t[i].1, w)).map en := by
    rw [List.map_set, List.set_eq_take_append_cons_drop, if_pos (by simpa using hi)]
    simp
  have e8 : en (t[i].1, w) = .tup [ch t[i].1, tx w] := rfl
  have e9 : dIx (.tup (t.map en)) (.int i) = some (.tup [ch t[i].1, tx t[i].2]) := by
    rw [q_ixT, atI_nat, List.getElem?_map, List.getElem?_eq_getElem hi]; rfl
  have e2' : runI 4 m__law_drop s1 [.int t.length] = .ok (.int i) s2 := e2
  have a1' : dAdd (.tup ((t.map en).take i)) (.tup [.tup [ch t[i].1, tx w]]) = some (.tup ((t.map en).take i ++ [.tup [ch t[i].1, tx w]])) := by
    rw [q_addT, if_pos (by simp; omega)]
  have a2' : dAdd (.tup ((t.map en).take i ++ [.tup [ch t[i].1, tx w]])) (.tup ((t.map en).drop (i + 1))) = some (.tup ((t.set i (t[i].1, w)).map en)) := by
    rw [q_addT, if_pos (by simp; omega), ← e7, e8]
  have i1 := init_spec ht
  have i2 := init_spec ht'
  have L := for_all (t := gNm 5) (body := B2) (ds := rgs 0 6) (ρ := [.own s3, a1, .shr (.tup (t.map en)), .shr (ln t), .shr (ln (t.set i (t[i].1, w))), a5, .shr (.int (i : Nat)), .shr (ch f), .shr (ch t[i].1), .shr (tx t[i].2), a10, a11, a12, a13, .no, .no])
    (fun j ρ => ∃ s' b5 b10 b11 b12 b13, ρ = [.own s', a1, .shr (.tup (t.map en)), .shr (ln t), .shr (ln (t.set i (t[i].1, w))), b5, .shr (.int (i : Nat)), .shr (ch f), .shr (ch t[i].1), .shr (tx t[i].2), b10, b11, b12, b13, .no, .no] ∧ Spr (k + 300 + 200 * j) s')
    ⟨s3, _, _, _, _, _, rfl, h5.mono (by omega)⟩ fun j d ρ hj ⟨s', b5, b10, b11, b12, b13, e, h8⟩ => by
      obtain ⟨hj1, rfl⟩ := rgs_get hj
      subst e
      obtain ⟨s4, c10, c11, c12, c13, g1, g2⟩ := again_spec h8 (by omega) ht ht' up (a1 := a1) (a5 := .shr (.int (0 + (j : Nat)))) (a6 := .shr (.int (i : Nat))) (a7 := .shr (ch f)) (a8 := .shr (ch t[i].1)) (a9 := .shr (tx t[i].2)) (a10 := b10) (a11 := b11) (a12 := b12) (a13 := b13)
      exact ⟨_, _, rfl, g1, s4, _, _, _, _, _, rfl, g2.mono (by omega)⟩
  obtain ⟨ρ', q1, s4, b5, b10, b11, b12, b13, rfl, q2⟩ := L
  refine ⟨s4, .shr (.tup (t.map en)), .shr (ln t), .shr (ln (t.set i (t[i].1, w))), b5, .shr (.int (i : Nat)), .shr (ch f), .shr (ch t[i].1), .shr (tx t[i].2), b10, b11, b12, b13, ?_, q2.mono (by simp [rgs_len])⟩
  have il : ∀ t, ln t = .ins 1 [.tup (t.map en)] := fun _ => rfl
  unfold B2 at q1
  unfold B1
  simp [-q_addT, -q_addL, -q_addS, -List.map_set, -q_ixT, -q_joinL, s_figs, e1, i1, i2, e2', e3, e9, c1, c2, e6, e4, e5, a1', a2', q1]
theorem right_spec {s : D} (h : Spr 0 s) : ∃ s', runI 16 m__law_right s [] = .ok (.bl true) s' := by
  have L := for_all (t := gNm 1) (body := B1) (ds := rgs 0 2) (ρ := [.own s, .no, .no, .no, .no, .no, .no, .no, .no, .no, .no, .no, .no, .no, .no, .no])
    (fun j ρ => ∃ s' b1 b2 b3 b4 b5 b6 b7 b8 b9 b10 b11 b12 b13, ρ = [.own s', b1, b2, b3, b4, b5, b6, b7, b8, b9, b10, b11, b12, b13, .no, .no] ∧ Spr (2000 * j) s')
    ⟨s, _, _, _, _, _, _, _, _, _, _, _, _, _, rfl, h⟩ fun j d ρ hj ⟨s', b1, b2, b3, b4, b5, b6, b7, b8, b9, b10, b11, b12, b13, e, h8⟩ => by
      obtain ⟨hj1, rfl⟩ := rgs_get hj
      subst e
      obtain ⟨s4, c2, c3, c4, c5, c6, c7, c8, c9, c10, c11, c12, c13, g1, g2⟩ := turn1_spec h8 (by omega) (a1 := .shr (.int (0 + (j : Nat)))) (a2 := b2) (a3 := b3) (a4 := b4) (a5 := b5) (a6 := b6) (a7 := b7) (a8 := b8) (a9 := b9) (a10 := b10) (a11 := b11) (a12 := b12) (a13 := b13)
      exact ⟨_, _, rfl, g1, s4, _, _, _, _, _, _, _, _, _, _, _, _, _, rfl, g2.mono (by omega)⟩
  obtain ⟨ρ', q1, s4, b1, b2, b3, b4, b5, b6, b7, b8, b9, b10, b11, b12, b13, rfl, q2⟩ := L
  refine ⟨s4, ?_⟩
  unfold B1 at q1
  rw [runI_def 16 m__law_right]
  simp [fiOf, own0, st1, m__law_right, q1]
/-! the spring's first state -/
theorem mulFits_log {i j : Int} (hi : i.natAbs.log2 ≤ 20000000) (hj : j.natAbs.log2 ≤ 20000000) : mulFits i j = true := decide_eq_true (by omega)
theorem log_of {i : Int} (h : Builtin.Int.intBits i ≤ 1048576) : i.natAbs.log2 ≤ 20000000 := by
  unfold Builtin.Int.intBits at h
  split at h
  · rename_i e
    have : i = 0 := by simpa using e
    subst this
    decide
  · omega
theorem log_small {i : Int} (h : i.natAbs < 18446744073709551616) : i.natAbs.log2 ≤ 20000000 := by
  by_cases z : i.natAbs = 0
  · rw [z]; decide
  · have := (Nat.log2_lt z (k := 64)).mpr h
    omega
theorem brook_spec {ns : List Int} (hs : ScrOk 63 ns) {j : Nat} (hj : j ≤ 5) : ∃ a b : Int, runF 5 m__law_brook [.scr ns, .int j] = some [.int a, .int b, .int 0] ∧ 0 ≤ a ∧ 0 ≤ b ∧ b < 2147483648 := by
  obtain ⟨hl, hb⟩ := hs
  obtain ⟨own, ho, hob⟩ : ∃ own : Int, mIf (mBl (mOp dLt (mVar 1) (mUn dLen (mVar 0)))) (mOp dIx (mVar 0) (mVar 1)) (mRet (.int 0)) [.shr (.scr ns), .shr (.int j), .no, .no, .no] = .ok (.int own) [.shr (.scr ns), .shr (.int j), .no, .no, .no] ∧ own.natAbs.log2 ≤ 20000000 := by
    by_cases h : j < ns.length
    · refine ⟨ns[j], ?_, log_of (hb _ (List.getElem_mem h))⟩
      have h2 : (j : Int) < ns.length := by omega
      simp [h, atI_nat]
    · refine ⟨0, ?_, by decide⟩
      have h2 : ¬ (j : Int) < ns.length := by omega
      simp [h]
  have L := for_all (t := gNm 4) (body := (mSeq (mSet 3 (mOp dMod (mUn dToInt (mOp dAdd (mOp dAdd (mOp dMul (mVar 3) (mRet (.int 31393))) (mOp dMul (mVar 4) (mRet (.int 19)))) (mRet (.int 37)))) (mRet (.int 2147483549)))) mNext))
    (ds := (ns.take 5).map .int) (ρ := [.shr (.scr ns), .shr (.int j), .shr (.int own), .shr (.int (30011 + 7919 * j)), .no])
    (fun i ρ => ∃ (st : Int) (z : Sl), ρ = [.shr (.scr ns), .shr (.int j), .shr (.int own), .shr (.int st), z] ∧ 0 ≤ st ∧ st < 2147483648) ⟨_, _, rfl, by omega, by omega⟩ fun i d ρ hi ⟨st, z, e, h1, h2⟩ => by
      obtain ⟨hi1, rfl⟩ := get_map hi
      subst e
      have hc := log_of (hb _ (List.mem_of_mem_take (List.getElem_mem hi1)))
      generalize (ns.take 5)[i] = c at hc
      have m1 : mulFits st 31393 = true := mulFits_log (log_small (by omega)) (by decide)
      have m2 : mulFits c 19 = true := mulFits_log hc (by decide)
      refine ⟨[.shr (.scr ns), .shr (.int j), .shr (.int own), .shr (.int st), .shr (.int c)], [.shr (.scr ns), .shr (.int j), .shr (.int own), .shr (.int ((st * 31393 + c * 19 + 37) % 2147483549)), .shr (.int c)], rfl, by simp [m1, m2], _, _, rfl, Int.emod_nonneg _ (by omega), ?_⟩
      have := Int.emod_lt_of_pos (st * 31393 + c * 19 + 37) (show (0 : Int) < 2147483549 by omega)
      omega
  obtain ⟨ρ', q1, st, z, rfl, h1, h2⟩ := L
  have m1 : mulFits st 83 = true := mulFits_log (log_small (by omega)) (by decide)
  have m2 : mulFits own own = true := mulFits_log hob hob
  have m3 : mulFits 41 j = true := mulFits_log (by decide) (log_small (by omega))
  have m4 : mulFits 7919 j = true := mulFits_log (by decide) (log_small (by omega))
  have c5 : cutL ns none (some 5) = ns.take 5 := cut_take ns 5
  rw [runF_def 5 m__law_brook]
  have fin : ∀ a : Int, 0 ≤ a → mIf (mOr (mBl (mOp dLt (mVar 2) (mRet (.int 0)))) (mBl (mOp dGe (mVar 2) (mOp dPow (mRet (.int 10)) (mRet (.int 18)))))) (mUn dAbs (mVar 2)) (mRet (.int 0)) [.shr (.scr ns), .shr (.int j), .shr (.int own), .shr (.int st), z] = .ok (.int a) [.shr (.scr ns), .shr (.int j), .shr (.int own), .shr (.int st), z] →
      ∃ a b : Int, ffOf (m__law_brook (st0 5 [.scr ns, .int j])) = some [.int a, .int b, .int 0] ∧ 0 ≤ a ∧ 0 ≤ b ∧ b < 2147483648 := fun a ha e => by
    refine ⟨a, (st * 83 + own * own + 41 * j) % 2147483549, ?_, ha, Int.emod_nonneg _ (by omega), ?_⟩
    · simp only [st0, List.map_cons, List.map_nil, List.length_cons, List.length_nil, m__law_brook]
      simp [-q_if, -List.map_take, ffOf, ho, m4, c5, q1, e, m1, m2, m3]
    · have := Int.emod_lt_of_pos (st * 83 + own * own + 41 * j) (show (0 : Int) < 2147483549 by omega)
      omega
  by_cases g1 : own < 0
  · exact fin (-own) (by omega) (by simp [g1])
  · by_cases g2 : (10 : Int) ^ 18 ≤ own
    · exact fin own (by omega) (by
        have g2' : (1000000000000000000 : Int) ≤ own := g2
        simp [g1, g2'])
    · exact fin 0 (by omega) (by
        have g2' : ¬ (1000000000000000000 : Int) ≤ own := g2
        simp [g1, g2'])
theorem law_true (ns : List Int) (hs : ScrOk 63 ns) : runP 2 m_law [.scr ns] = .ok (.bl true) := by
  obtain ⟨n, hn, hn5⟩ : ∃ n : Nat, mBind (mCons (mOp dMax (mRet (.int 2)) (mOp dMin (mUn dLen (mVar 0)) (mRet (.int 5)))) (mRet [])) (fun ds => mOpt (dRg1 ds)) [.shr (.scr ns), .no] = .ok (rgs 0 n) [.shr (.scr ns), .no] ∧ n ≤ 5 := by
    have hl := hs.1
    by_cases g1 : (5 : Int) < ns.length
    · exact ⟨5, by simp [g1], by omega⟩
    · by_cases g2 : (2 : Int) < ns.length
      · refine ⟨ns.length, ?_, by omega⟩
        have g3 : (ns.length : Int) ≤ 1000000 := by omega
        have g4 : -1000000 ≤ (ns.length : Int) := by omega
        simp [g1, g2, g3, g4]
      · exact ⟨2, by simp [g1, g2], by omega⟩
  have A : mLc (mBind (mCons (mOp dMax (mRet (.int 2)) (mOp dMin (mUn dLen (mVar 0)) (mRet (.int 5)))) (mRet [])) fun ds => mOpt (dRg1 ds)) [1] (uNm 1) (mRet true) (mCallFI (runI 16 m__law_right) (mCallF 2 (runF 5 m__law_brook) (mCons (mVar 0) (mCons (mVar 1) (mRet []))))) [.shr (.scr ns), .no] = .ok ((List.range n).map fun _ => .bl true) [.shr (.scr ns), .no] :=
    lc_mapT (g := fun k : Nat => .int (0 + (k : Int))) _ hn (fun k hk => by
      rw [List.mem_range] at hk
      obtain ⟨a, b, e1, h1, h2, h3⟩ := brook_spec hs (j := k) (by omega)
      obtain ⟨s', e2⟩ := right_spec (s := .lst [.int a, .int b, .int 0]) ⟨a, b, 0, rfl, h1, h2, h3, by omega, by omega⟩
      simp [e1, e2]) (by simp) (by simp; omega)
  rw [runP_def 2 m_law]
  simp [frOf, st0, m_law, A, dAll_map]
end Nv

namespace Nv
open PySem PySem.Spec PyProof.Rows L2
theorem sc_Line_letters : FnScope N_Line_letters ["self"] (defScope s_Line_letters) := ⟨rfl, rfl, rfl, by decide +kernel, rfl, by decide +kernel, by decide +kernel⟩
def D_Line_letters : He.DefD := ⟨("Line", some "letters"), "letters", "Line.letters", defArgs s_Line_letters, defBody s_Line_letters, defScope s_Line_letters, [], []⟩
theorem sc_is_letter : FnScope N_is_letter ["value"] (defScope s_is_letter) := ⟨rfl, rfl, rfl, by decide +kernel, rfl, by decide +kernel, by decide +kernel⟩
def D_is_letter : He.DefD := ⟨("is_letter", none), "is_letter", "is_letter", defArgs s_is_letter, defBody s_is_letter, defScope s_is_letter, [], []⟩
theorem sc_Line_contains : FnScope N_Line_contains ["self", "value"] (defScope s_Line_contains) := ⟨rfl, rfl, rfl, by decide +kernel, rfl, by decide +kernel, by decide +kernel⟩
def D_Line_contains : He.DefD := ⟨("Line", some "__contains__"), "__contains__", "Line.__contains__", defArgs s_Line_contains, defBody s_Line_contains, defScope s_Line_contains, [], []⟩
theorem sc_check_sign : FnScope N_check_sign ["line", "sign"] (defScope s_check_sign) := ⟨rfl, rfl, rfl, by decide +kernel, rfl, by decide +kernel, by decide +kernel⟩
def D_check_sign : He.DefD := ⟨("check_sign", none), "check_sign", "check_sign", defArgs s_check_sign, defBody s_check_sign, defScope s_check_sign, [], []⟩
theorem sc_Line_looks_of : FnScope N_Line_looks_of ["self", "sign"] (defScope s_Line_looks_of) := ⟨rfl, rfl, rfl, by decide +kernel, rfl, by decide +kernel, by decide +kernel⟩
def D_Line_looks_of : He.DefD := ⟨("Line", some "looks_of"), "looks_of", "Line.looks_of", defArgs s_Line_looks_of, defBody s_Line_looks_of, defScope s_Line_looks_of, [], []⟩
theorem sc_share_look : FnScope N_share_look ["line", "sign", "other"] (defScope s_share_look) := ⟨rfl, rfl, rfl, by decide +kernel, rfl, by decide +kernel, by decide +kernel⟩
def D_share_look : He.DefD := ⟨("share_look", none), "share_look", "share_look", defArgs s_share_look, defBody s_share_look, defScope s_share_look, [], []⟩
theorem sc_check_line : FnScope N_check_line ["value"] (defScope s_check_line) := ⟨rfl, rfl, rfl, by decide +kernel, rfl, by decide +kernel, by decide +kernel⟩
def D_check_line : He.DefD := ⟨("check_line", none), "check_line", "check_line", defArgs s_check_line, defBody s_check_line, defScope s_check_line, [], []⟩
theorem sc_mixed : FnScope N_mixed ["line", "sign", "other_sign"] (defScope s_mixed) := ⟨rfl, rfl, rfl, by decide +kernel, rfl, by decide +kernel, by decide +kernel⟩
def D_mixed : He.DefD := ⟨("mixed", none), "mixed", "mixed", defArgs s_mixed, defBody s_mixed, defScope s_mixed, [], []⟩
theorem sc_looks_seen : FnScope N_looks_seen ["seen", "sign"] (defScope s_looks_seen) := ⟨rfl, rfl, rfl, by decide +kernel, rfl, by decide +kernel, by decide +kernel⟩
def D_looks_seen : He.DefD := ⟨("looks_seen", none), "looks_seen", "looks_seen", defArgs s_looks_seen, defBody s_looks_seen, defScope s_looks_seen, [], []⟩
theorem sc_letters_seen : FnScope N_letters_seen ["seen"] (defScope s_letters_seen) := ⟨rfl, rfl, rfl, by decide +kernel, rfl, by decide +kernel, by decide +kernel⟩
def D_letters_seen : He.DefD := ⟨("letters_seen", none), "letters_seen", "letters_seen", defArgs s_letters_seen, defBody s_letters_seen, defScope s_letters_seen, [], []⟩
theorem sc_is_look : FnScope N_is_look ["value"] (defScope s_is_look) := ⟨rfl, rfl, rfl, by decide +kernel, rfl, by decide +kernel, by decide +kernel⟩
def D_is_look : He.DefD := ⟨("is_look", none), "is_look", "is_look", defArgs s_is_look, defBody s_is_look, defScope s_is_look, [], []⟩
theorem sc_is_seen_pair : FnScope N_is_seen_pair ["value"] (defScope s_is_seen_pair) := ⟨rfl, rfl, rfl, by decide +kernel, rfl, by decide +kernel, by decide +kernel⟩
def D_is_seen_pair : He.DefD := ⟨("is_seen_pair", none), "is_seen_pair", "is_seen_pair", defArgs s_is_seen_pair, defBody s_is_seen_pair, defScope s_is_seen_pair, [], []⟩
theorem sc_check_seen : FnScope N_check_seen ["value"] (defScope s_check_seen) := ⟨rfl, rfl, rfl, by decide +kernel, rfl, by decide +kernel, by decide +kernel⟩
def D_check_seen : He.DefD := ⟨("check_seen", none), "check_seen", "check_seen", defArgs s_check_seen, defBody s_check_seen, defScope s_check_seen, [], []⟩
theorem sc_surely_mixed : FnScope N_surely_mixed ["seen"] (defScope s_surely_mixed) := ⟨rfl, rfl, rfl, by decide +kernel, rfl, by decide +kernel, by decide +kernel⟩
def D_surely_mixed : He.DefD := ⟨("surely_mixed", none), "surely_mixed", "surely_mixed", defArgs s_surely_mixed, defBody s_surely_mixed, defScope s_surely_mixed, [], []⟩
theorem sc_fits : FnScope N_fits ["line", "seen"] (defScope s_fits) := ⟨rfl, rfl, rfl, by decide +kernel, rfl, by decide +kernel, by decide +kernel⟩
def D_fits : He.DefD := ⟨("fits", none), "fits", "fits", defArgs s_fits, defBody s_fits, defScope s_fits, [], []⟩
theorem sc__law_drop : FnScope N__law_drop ["spring", "size"] (defScope s__law_drop) := ⟨rfl, rfl, rfl, by decide +kernel, rfl, by decide +kernel, by decide +kernel⟩
def D__law_drop : He.DefD := ⟨("_law_drop", none), "_law_drop", "_law_drop", defArgs s__law_drop, defBody s__law_drop, defScope s__law_drop, [], []⟩
theorem sc__law_choice : FnScope N__law_choice ["spring", "menu"] (defScope s__law_choice) := ⟨rfl, rfl, rfl, by decide +kernel, rfl, by decide +kernel, by decide +kernel⟩
def D__law_choice : He.DefD := ⟨("_law_choice", none), "_law_choice", "_law_choice", defArgs s__law_choice, defBody s__law_choice, defScope s__law_choice, [], []⟩
theorem sc__law_pairs_for : FnScope N__law_pairs_for ["spring", "told"] (defScope s__law_pairs_for) := ⟨rfl, rfl, rfl, by decide +kernel, rfl, by decide +kernel, by decide +kernel⟩
def D__law_pairs_for : He.DefD := ⟨("_law_pairs_for", none), "_law_pairs_for", "_law_pairs_for", defArgs s__law_pairs_for, defBody s__law_pairs_for, defScope s__law_pairs_for, [], []⟩
theorem sc_are_looks : FnScope N_are_looks ["value"] (defScope s_are_looks) := ⟨rfl, rfl, rfl, by decide +kernel, rfl, by decide +kernel, by decide +kernel⟩
def D_are_looks : He.DefD := ⟨("are_looks", none), "are_looks", "are_looks", defArgs s_are_looks, defBody s_are_looks, defScope s_are_looks, [], []⟩
theorem sc_is_pair : FnScope N_is_pair ["value"] (defScope s_is_pair) := ⟨rfl, rfl, rfl, by decide +kernel, rfl, by decide +kernel, by decide +kernel⟩
def D_is_pair : He.DefD := ⟨("is_pair", none), "is_pair", "is_pair", defArgs s_is_pair, defBody s_is_pair, defScope s_is_pair, [], []⟩
theorem sc_check_signs : FnScope N_check_signs ["signs"] (defScope s_check_signs) := ⟨rfl, rfl, rfl, by decide +kernel, rfl, by decide +kernel, by decide +kernel⟩
def D_check_signs : He.DefD := ⟨("check_signs", none), "check_signs", "check_signs", defArgs s_check_signs, defBody s_check_signs, defScope s_check_signs, [], []⟩
theorem sc_Line_init : FnScope N_Line_init ["self", "signs"] (defScope s_Line_init) := ⟨rfl, rfl, rfl, by decide +kernel, rfl, by decide +kernel, by decide +kernel⟩
def D_Line_init : He.DefD := ⟨("Line", some "__init__"), "__init__", "Line.__init__", defArgs s_Line_init, defBody s_Line_init, defScope s_Line_init, [], []⟩
theorem sc__law_names : FnScope N__law_names ["spring", "size"] (defScope s__law_names) := ⟨rfl, rfl, rfl, by decide +kernel, rfl, by decide +kernel, by decide +kernel⟩
def D__law_names : He.DefD := ⟨("_law_names", none), "_law_names", "_law_names", defArgs s__law_names, defBody s__law_names, defScope s__law_names, [], []⟩
theorem sc__law_mixed_up : FnScope N__law_mixed_up ["spring", "things_here"] (defScope s__law_mixed_up) := ⟨rfl, rfl, rfl, by decide +kernel, rfl, by decide +kernel, by decide +kernel⟩
def D__law_mixed_up : He.DefD := ⟨("_law_mixed_up", none), "_law_mixed_up", "_law_mixed_up", defArgs s__law_mixed_up, defBody s__law_mixed_up, defScope s__law_mixed_up, [], []⟩
theorem sc__law_some_looks : FnScope N__law_some_looks ["spring", "menu"] (defScope s__law_some_looks) := ⟨rfl, rfl, rfl, by decide +kernel, rfl, by decide +kernel, by decide +kernel⟩
def D__law_some_looks : He.DefD := ⟨("_law_some_looks", none), "_law_some_looks", "_law_some_looks", defArgs s__law_some_looks, defBody s__law_some_looks, defScope s__law_some_looks, [], []⟩
theorem sc__law_ring_lots : FnScope N__law_ring_lots ["spring", "size"] (defScope s__law_ring_lots) := ⟨rfl, rfl, rfl, by decide +kernel, rfl, by decide +kernel, by decide +kernel⟩
def D__law_ring_lots : He.DefD := ⟨("_law_ring_lots", none), "_law_ring_lots", "_law_ring_lots", defArgs s__law_ring_lots, defBody s__law_ring_lots, defScope s__law_ring_lots, [], []⟩
theorem sc__law_any_lots : FnScope N__law_any_lots ["spring", "size"] (defScope s__law_any_lots) := ⟨rfl, rfl, rfl, by decide +kernel, rfl, by decide +kernel, by decide +kernel⟩
def D__law_any_lots : He.DefD := ⟨("_law_any_lots", none), "_law_any_lots", "_law_any_lots", defArgs s__law_any_lots, defBody s__law_any_lots, defScope s__law_any_lots, [], []⟩
theorem sc__law_told : FnScope N__law_told ["spring"] (defScope s__law_told) := ⟨rfl, rfl, rfl, by decide +kernel, rfl, by decide +kernel, by decide +kernel⟩
def D__law_told : He.DefD := ⟨("_law_told", none), "_law_told", "_law_told", defArgs s__law_told, defBody s__law_told, defScope s__law_told, [], []⟩
theorem sc__law_right : FnScope N__law_right ["spring"] (defScope s__law_right) := ⟨rfl, rfl, rfl, by decide +kernel, rfl, by decide +kernel, by decide +kernel⟩
def D__law_right : He.DefD := ⟨("_law_right", none), "_law_right", "_law_right", defArgs s__law_right, defBody s__law_right, defScope s__law_right, [], []⟩
theorem sc__law_brook : FnScope N__law_brook ["script", "turn"] (defScope s__law_brook) := ⟨rfl, rfl, rfl, by decide +kernel, rfl, by decide +kernel, by decide +kernel⟩
def D__law_brook : He.DefD := ⟨("_law_brook", none), "_law_brook", "_law_brook", defArgs s__law_brook, defBody s__law_brook, defScope s__law_brook, [], []⟩
theorem sc_law : FnScope N_law ["script"] (defScope s_law) := ⟨rfl, rfl, rfl, by decide +kernel, rfl, by decide +kernel, by decide +kernel⟩
def D_law : He.DefD := ⟨("law", none), "law", "law", defArgs s_law, defBody s_law, defScope s_law, [], []⟩
def fn : List He.DefD := [D_is_letter, D_Line_contains, D_check_sign, D_Line_looks_of, D_share_look, D_check_line, D_mixed, D_looks_seen, D_letters_seen, D_is_look, D_is_seen_pair, D_check_seen, D_surely_mixed, D_fits, D__law_drop, D__law_choice, D__law_pairs_for, D_are_looks, D_is_pair, D_check_signs, D_Line_init, D__law_names, D__law_mixed_up, D__law_some_looks, D__law_ring_lots, D__law_any_lots, D__law_told, D__law_right, D__law_brook, D_law]
def pr : List He.DefD := [D_Line_letters]
def fa : List He.Fa := [.glo "is_letter", .meth "Line" "__contains__", .glo "check_sign", .meth "Line" "looks_of", .glo "share_look", .glo "check_line", .glo "mixed", .glo "looks_seen", .glo "letters_seen", .glo "is_look", .glo "is_seen_pair", .glo "check_seen", .glo "surely_mixed", .glo "fits", .glo "_law_drop", .glo "_law_choice", .glo "_law_pairs_for", .glo "are_looks", .glo "is_pair", .glo "check_signs", .glo "_law_names", .glo "_law_mixed_up", .glo "_law_some_looks", .glo "_law_ring_lots", .glo "_law_any_lots", .glo "_law_told", .glo "_law_right", .glo "_law_brook", .glo "law", .glo "Line", .cls "Line", .mkr "Line", .noat "Line" "lot", .free "isinstance", .free "str", .free "len", .free "any", .free "sorted", .free "set", .free "tuple", .free "range", .free "all", .free "int", .free "divmod", .free "list", .free "zip", .free "repr", .free "abs", .free "max", .free "min", .str "LETTERS" "abcdefghijklmnopqrstuvwxyz", .str "FIGURES" "01234567", .int "MOST_SEEN" 40, .int "LEAST_SIGNS" 2, .int "MOST_SIGNS" 6]
def loose0 : List PySem.Str := [("_wall" : PySem.Str), ("WrongValue" : PySem.Str), ("InvalidText" : PySem.Str), ("NotALine" : PySem.Str), ("InvalidSigns" : PySem.Str), ("InvalidSeen" : PySem.Str), ("WrongName" : PySem.Str), ("UnknownSign" : PySem.Str), ("MOST_SIGNS" : PySem.Str), ("MOST_SEEN" : PySem.Str), ("LETTERS" : PySem.Str), ("FIGURES" : PySem.Str)]
def loose1 : List PySem.Str := [("LEAST_SIGNS" : PySem.Str), ("is_letter" : PySem.Str), ("is_look" : PySem.Str), ("are_looks" : PySem.Str), ("is_pair" : PySem.Str), ("check_signs" : PySem.Str), ("line_told" : PySem.Str), ("Line" : PySem.Str), ("check_sign" : PySem.Str), ("check_line" : PySem.Str), ("is_seen_pair" : PySem.Str), ("check_seen" : PySem.Str)]
def loose2 : List PySem.Str := [("looks_seen" : PySem.Str), ("letters_seen" : PySem.Str), ("fits" : PySem.Str), ("surely_mixed" : PySem.Str), ("share_look" : PySem.Str), ("mixed" : PySem.Str), ("_law_brook" : PySem.Str), ("_law_drop" : PySem.Str), ("_law_choice" : PySem.Str), ("_law_mixed_up" : PySem.Str), ("_law_names" : PySem.Str), ("_law_some_looks" : PySem.Str)]
def loose3 : List PySem.Str := [("_law_any_lots" : PySem.Str), ("_law_ring_lots" : PySem.Str), ("_law_told" : PySem.Str), ("_law_pairs_for" : PySem.Str), ("_law_right" : PySem.Str)]
def loose : List PySem.Str := loose0 ++ loose1 ++ loose2 ++ loose3
abbrev R : PySem.W.OpenRow := PySem.W.OpenLaw.row PySem.Challenge.rw_nevermixed_k61_whole_lines_that_fit_what
abbrev hk : PySem.W.Hook := hookN 6 fa fn pr ["Line"]
def ob (s : PySem.W.SharedT) : hk.α := obsNG 6 fa fn pr ["Line"] (HandSHeadRun.getT s)
theorem ob_eq (s : PySem.W.SharedT) : ob s = hk.obs s.abs := obsNG_eq (HandSHeadRun.getT_eq s)
theorem run (w : World) : HandSHeadRun.RunEq R (PySem.W.view R.prog [46]) hk ob 8000 loose w := by
  intro os
  kernel_rfl
theorem all_ok {w : World} {K : PySem.W.Frag} {h : Heap} {mg : Str → Option Value} {f : Addr} (X : K.In h) (G : h.Ns mainGlobals mg) (hfa : mg ("law" : Str) = some (.ref f)) (c : SaysN fa fn pr ["Line"] K) :
    ∃ fd : FuncData, (∀ (s : Shared) (v : Value), BindsTo s fd ⟨[v], []⟩ [("script", v)]) ∧ ∀ base : Heap, K.In base → base.Ns mainGlobals mg → Fn Pg w K mg base (L2.CX Pg w) 9 f fd ["script"] (spP (GL (He.ga K "Line") ["lot"]) K 1 (runP 2 m_law)) := by
  obtain ⟨fd_is_letter, F_is_letter⟩ := c.d.def_ 0 (d := D_is_letter) rfl
  obtain ⟨fd_Line_contains, F_Line_contains⟩ := c.d.def_ 1 (d := D_Line_contains) rfl
  obtain ⟨fd_check_sign, F_check_sign⟩ := c.d.def_ 2 (d := D_check_sign) rfl
  obtain ⟨fd_Line_looks_of, F_Line_looks_of⟩ := c.d.def_ 3 (d := D_Line_looks_of) rfl
  obtain ⟨fd_share_look, F_share_look⟩ := c.d.def_ 4 (d := D_share_look) rfl
  obtain ⟨fd_check_line, F_check_line⟩ := c.d.def_ 5 (d := D_check_line) rfl
  obtain ⟨fd_mixed, F_mixed⟩ := c.d.def_ 6 (d := D_mixed) rfl
  obtain ⟨fd_looks_seen, F_looks_seen⟩ := c.d.def_ 7 (d := D_looks_seen) rfl
  obtain ⟨fd_letters_seen, F_letters_seen⟩ := c.d.def_ 8 (d := D_letters_seen) rfl
  obtain ⟨fd_is_look, F_is_look⟩ := c.d.def_ 9 (d := D_is_look) rfl
  obtain ⟨fd_is_seen_pair, F_is_seen_pair⟩ := c.d.def_ 10 (d := D_is_seen_pair) rfl
  obtain ⟨fd_check_seen, F_check_seen⟩ := c.d.def_ 11 (d := D_check_seen) rfl
  obtain ⟨fd_surely_mixed, F_surely_mixed⟩ := c.d.def_ 12 (d := D_surely_mixed) rfl
  obtain ⟨fd_fits, F_fits⟩ := c.d.def_ 13 (d := D_fits) rfl
  obtain ⟨fd__law_drop, F__law_drop⟩ := c.d.def_ 14 (d := D__law_drop) rfl
  obtain ⟨fd__law_choice, F__law_choice⟩ := c.d.def_ 15 (d := D__law_choice) rfl
  obtain ⟨fd__law_pairs_for, F__law_pairs_for⟩ := c.d.def_ 16 (d := D__law_pairs_for) rfl
  obtain ⟨fd_are_looks, F_are_looks⟩ := c.d.def_ 17 (d := D_are_looks) rfl
  obtain ⟨fd_is_pair, F_is_pair⟩ := c.d.def_ 18 (d := D_is_pair) rfl
  obtain ⟨fd_check_signs, F_check_signs⟩ := c.d.def_ 19 (d := D_check_signs) rfl
  obtain ⟨fd_Line_init, F_Line_init⟩ := c.d.def_ 20 (d := D_Line_init) rfl
  obtain ⟨fd__law_names, F__law_names⟩ := c.d.def_ 21 (d := D__law_names) rfl
  obtain ⟨fd__law_mixed_up, F__law_mixed_up⟩ := c.d.def_ 22 (d := D__law_mixed_up) rfl
  obtain ⟨fd__law_some_looks, F__law_some_looks⟩ := c.d.def_ 23 (d := D__law_some_looks) rfl
  obtain ⟨fd__law_ring_lots, F__law_ring_lots⟩ := c.d.def_ 24 (d := D__law_ring_lots) rfl
  obtain ⟨fd__law_any_lots, F__law_any_lots⟩ := c.d.def_ 25 (d := D__law_any_lots) rfl
  obtain ⟨fd__law_told, F__law_told⟩ := c.d.def_ 26 (d := D__law_told) rfl
  obtain ⟨fd__law_right, F__law_right⟩ := c.d.def_ 27 (d := D__law_right) rfl
  obtain ⟨fd__law_brook, F__law_brook⟩ := c.d.def_ 28 (d := D__law_brook) rfl
  obtain ⟨fd_law, F_law⟩ := c.d.def_ 29 (d := D_law) rfl
  obtain ⟨P_Line_letters, fd_Line_letters, F_Line_letters⟩ := c.prop 0 (d := D_Line_letters) rfl
  have e := hfa.symm.trans (He.glo_ok X G (c.d.fact 28 (f := .glo "law") rfl))
  cases e
  have bl := FunD.bindsA (ps := ["script"]) F_law fun _ _ _ _ _ _ us hl => match us, hl with | [_], _ => rfl
  have b_isinstance : mg "isinstance" = none := He.free_ok X G (c.d.fact 33 (f := .free "isinstance") rfl)
  have b_str : mg "str" = none := He.free_ok X G (c.d.fact 34 (f := .free "str") rfl)
  have b_len : mg "len" = none := He.free_ok X G (c.d.fact 35 (f := .free "len") rfl)
  have b_any : mg "any" = none := He.free_ok X G (c.d.fact 36 (f := .free "any") rfl)
  have b_sorted : mg "sorted" = none := He.free_ok X G (c.d.fact 37 (f := .free "sorted") rfl)
  have b_set : mg "set" = none := He.free_ok X G (c.d.fact 38 (f := .free "set") rfl)
  have b_tuple : mg "tuple" = none := He.free_ok X G (c.d.fact 39 (f := .free "tuple") rfl)
  have b_range : mg "range" = none := He.free_ok X G (c.d.fact 40 (f := .free "range") rfl)
  have b_all : mg "all" = none := He.free_ok X G (c.d.fact 41 (f := .free "all") rfl)
  have b_int : mg "int" = none := He.free_ok X G (c.d.fact 42 (f := .free "int") rfl)
  have b_divmod : mg "divmod" = none := He.free_ok X G (c.d.fact 43 (f := .free "divmod") rfl)
  have b_list : mg "list" = none := He.free_ok X G (c.d.fact 44 (f := .free "list") rfl)
  have b_zip : mg "zip" = none := He.free_ok X G (c.d.fact 45 (f := .free "zip") rfl)
  have b_repr : mg "repr" = none := He.free_ok X G (c.d.fact 46 (f := .free "repr") rfl)
  have b_abs : mg "abs" = none := He.free_ok X G (c.d.fact 47 (f := .free "abs") rfl)
  have b_max : mg "max" = none := He.free_ok X G (c.d.fact 48 (f := .free "max") rfl)
  have b_min : mg "min" = none := He.free_ok X G (c.d.fact 49 (f := .free "min") rfl)
  have c_LETTERS := He.str_ok X G (c.d.fact 50 (f := .str "LETTERS" "abcdefghijklmnopqrstuvwxyz") rfl)
  have c_FIGURES := He.str_ok X G (c.d.fact 51 (f := .str "FIGURES" "01234567") rfl)
  have c_MOST_SEEN := He.int_ok X G (c.d.fact 52 (f := .int "MOST_SEEN" 40) rfl)
  have c_LEAST_SIGNS := He.int_ok X G (c.d.fact 53 (f := .int "LEAST_SIGNS" 2) rfl)
  have c_MOST_SIGNS := He.int_ok X G (c.d.fact 54 (f := .int "MOST_SIGNS" 6) rfl)
  have L_cl : Cls K (He.ga K "Line") := He.cls_ok (c.d.fact 30 (f := .cls "Line") rfl)
  have L_g : mg "Line" = some (.ref (He.ga K "Line")) := He.glo_ok X G (c.d.fact 29 (f := .glo "Line") rfl)
  have L_is : InsTy K (He.ga K "Line") := c.isi (x := "Line") (by simp) L_cl
  have L_mk := He.mkr_ok (c.d.fact 31 (f := .mkr "Line") rfl)
  have L_na_lot : NoAttr K (He.ga K "Line") "lot" := He.noat_ok (c.d.fact 32 (f := .noat "Line" "lot") rfl)
  refine ⟨fd_law, fun s v => bl s [v] rfl, fun base _ _ => ?_⟩
  have p_Line_letters : Prp Pg w K mg base (He.ga K "Line") "letters" 1 _ _ fd_Line_letters ["self"] (spP (GL (He.ga K "Line") ["lot"]) K 1 (runP 2 m_Line_letters)) := ⟨fn_pure F_Line_letters sc_Line_letters rfl (b_Line_letters (L_cl := L_cl) (L_g := L_g) (L_is := L_is) (L_na_lot := L_na_lot)), prB_ok P_Line_letters, F_Line_letters.bindsN fun _ _ _ _ _ _ us hl => match us, hl with | [_], _ => rfl⟩
  have d_is_letter : Cal Pg w K mg base "is_letter" 1 (He.ga K "is_letter") fd_is_letter ["value"] (spP (GL (He.ga K "Line") ["lot"]) K 1 (runP 1 m_is_letter)) := ⟨fn_pure F_is_letter sc_is_letter rfl (b_is_letter (b_isinstance := b_isinstance) (b_str := b_str) (b_len := b_len) (c_LETTERS := c_LETTERS)), He.glo_ok X G (c.d.fact 0 (f := .glo "is_letter") rfl), F_is_letter.kp, F_is_letter.bindsN fun _ _ _ _ _ _ us hl => match us, hl with | [_], _ => rfl⟩
  have M_Line_contains := He.meth_ok (c.d.fact 1 (f := .meth "Line" "__contains__") rfl)
  have q_Line_contains : Met Pg w K mg base (He.ga K "Line") "__contains__" 3 (He.ma K (He.ga K "Line") "__contains__") fd_Line_contains ["self", "value"] (spP (GL (He.ga K "Line") ["lot"]) K 2 (runP 2 m_Line_contains)) := ⟨fn_pure F_Line_contains sc_Line_contains rfl (b_Line_contains (d_is_letter := d_is_letter) (L_cl := L_cl) (L_g := L_g) (L_is := L_is) (p_Line_letters := p_Line_letters)), M_Line_contains, F_Line_contains.bindsN fun _ _ _ _ _ _ us hl => match us, hl with | [_, _], _ => rfl, beq_iff_eq.mp M_Line_contains.fn⟩
  have d_check_sign : Cal Pg w K mg base "check_sign" 4 (He.ga K "check_sign") fd_check_sign ["line", "sign"] (spP (GL (He.ga K "Line") ["lot"]) K 2 (runP 2 m_check_sign)) := ⟨fn_pure F_check_sign sc_check_sign rfl (b_check_sign (L_cl := L_cl) (L_g := L_g) (L_is := L_is) (q_Line_contains := q_Line_contains)), He.glo_ok X G (c.d.fact 2 (f := .glo "check_sign") rfl), F_check_sign.kp, F_check_sign.bindsN fun _ _ _ _ _ _ us hl => match us, hl with | [_, _], _ => rfl⟩
  have M_Line_looks_of := He.meth_ok (c.d.fact 3 (f := .meth "Line" "looks_of") rfl)
  have q_Line_looks_of : Met Pg w K mg base (He.ga K "Line") "looks_of" 5 (He.ma K (He.ga K "Line") "looks_of") fd_Line_looks_of ["self", "sign"] (spP (GL (He.ga K "Line") ["lot"]) K 2 (runP 2 m_Line_looks_of)) := ⟨fn_pure F_Line_looks_of sc_Line_looks_of rfl (b_Line_looks_of (L_cl := L_cl) (L_g := L_g) (L_is := L_is) (p_Line_letters := p_Line_letters) (L_na_lot := L_na_lot) (d_check_sign := d_check_sign)), M_Line_looks_of, F_Line_looks_of.bindsN fun _ _ _ _ _ _ us hl => match us, hl with | [_, _], _ => rfl, beq_iff_eq.mp M_Line_looks_of.fn⟩
  have d_share_look : Cal Pg w K mg base "share_look" 6 (He.ga K "share_look") fd_share_look ["line", "sign", "other"] (spP (GL (He.ga K "Line") ["lot"]) K 3 (runP 4 m_share_look)) := ⟨fn_pure F_share_look sc_share_look rfl (b_share_look (b_any := b_any) (L_cl := L_cl) (L_g := L_g) (L_is := L_is) (q_Line_looks_of := q_Line_looks_of)), He.glo_ok X G (c.d.fact 4 (f := .glo "share_look") rfl), F_share_look.kp, F_share_look.bindsN fun _ _ _ _ _ _ us hl => match us, hl with | [_, _, _], _ => rfl⟩
  have d_check_line : Cal Pg w K mg base "check_line" 1 (He.ga K "check_line") fd_check_line ["value"] (spP (GL (He.ga K "Line") ["lot"]) K 1 (runP 1 m_check_line)) := ⟨fn_pure F_check_line sc_check_line rfl (b_check_line (b_isinstance := b_isinstance) (L_cl := L_cl) (L_g := L_g) (L_is := L_is)), He.glo_ok X G (c.d.fact 5 (f := .glo "check_line") rfl), F_check_line.kp, F_check_line.bindsN fun _ _ _ _ _ _ us hl => match us, hl with | [_], _ => rfl⟩
  have d_mixed : Cal Pg w K mg base "mixed" 7 (He.ga K "mixed") fd_mixed ["line", "sign", "other_sign"] (spP (GL (He.ga K "Line") ["lot"]) K 3 (runP 3 m_mixed)) := ⟨fn_pure F_mixed sc_mixed rfl (b_mixed (d_share_look := d_share_look) (d_check_sign := d_check_sign) (d_check_line := d_check_line)), He.glo_ok X G (c.d.fact 6 (f := .glo "mixed") rfl), F_mixed.kp, F_mixed.bindsN fun _ _ _ _ _ _ us hl => match us, hl with | [_, _, _], _ => rfl⟩
  have d_looks_seen : Cal Pg w K mg base "looks_seen" 1 (He.ga K "looks_seen") fd_looks_seen ["seen", "sign"] (spP (GL (He.ga K "Line") ["lot"]) K 2 (runP 3 m_looks_seen)) := ⟨fn_pure F_looks_seen sc_looks_seen rfl (b_looks_seen (c_FIGURES := c_FIGURES)), He.glo_ok X G (c.d.fact 7 (f := .glo "looks_seen") rfl), F_looks_seen.kp, F_looks_seen.bindsN fun _ _ _ _ _ _ us hl => match us, hl with | [_, _], _ => rfl⟩
  have d_letters_seen : Cal Pg w K mg base "letters_seen" 1 (He.ga K "letters_seen") fd_letters_seen ["seen"] (spP (GL (He.ga K "Line") ["lot"]) K 1 (runP 2 m_letters_seen)) := ⟨fn_pure F_letters_seen sc_letters_seen rfl (b_letters_seen (b_sorted := b_sorted) (b_set := b_set)), He.glo_ok X G (c.d.fact 8 (f := .glo "letters_seen") rfl), F_letters_seen.kp, F_letters_seen.bindsN fun _ _ _ _ _ _ us hl => match us, hl with | [_], _ => rfl⟩
  have d_is_look : Cal Pg w K mg base "is_look" 1 (He.ga K "is_look") fd_is_look ["value"] (spP (GL (He.ga K "Line") ["lot"]) K 1 (runP 1 m_is_look)) := ⟨fn_pure F_is_look sc_is_look rfl (b_is_look (b_isinstance := b_isinstance) (b_str := b_str) (b_len := b_len) (c_FIGURES := c_FIGURES)), He.glo_ok X G (c.d.fact 9 (f := .glo "is_look") rfl), F_is_look.kp, F_is_look.bindsN fun _ _ _ _ _ _ us hl => match us, hl with | [_], _ => rfl⟩
  have d_is_seen_pair : Cal Pg w K mg base "is_seen_pair" 2 (He.ga K "is_seen_pair") fd_is_seen_pair ["value"] (spP (GL (He.ga K "Line") ["lot"]) K 1 (runP 1 m_is_seen_pair)) := ⟨fn_pure F_is_seen_pair sc_is_seen_pair rfl (b_is_seen_pair (b_isinstance := b_isinstance) (b_tuple := b_tuple) (b_len := b_len) (d_is_letter := d_is_letter) (d_is_look := d_is_look)), He.glo_ok X G (c.d.fact 10 (f := .glo "is_seen_pair") rfl), F_is_seen_pair.kp, F_is_seen_pair.bindsN fun _ _ _ _ _ _ us hl => match us, hl with | [_], _ => rfl⟩
  have d_check_seen : Cal Pg w K mg base "check_seen" 3 (He.ga K "check_seen") fd_check_seen ["value"] (spP (GL (He.ga K "Line") ["lot"]) K 1 (runP 2 m_check_seen)) := ⟨fn_pure F_check_seen sc_check_seen rfl (b_check_seen (b_range := b_range) (b_len := b_len) (c_MOST_SEEN := c_MOST_SEEN) (d_is_seen_pair := d_is_seen_pair) (b_isinstance := b_isinstance) (b_tuple := b_tuple)), He.glo_ok X G (c.d.fact 11 (f := .glo "check_seen") rfl), F_check_seen.kp, F_check_seen.bindsN fun _ _ _ _ _ _ us hl => match us, hl with | [_], _ => rfl⟩
  have d_surely_mixed : Cal Pg w K mg base "surely_mixed" 4 (He.ga K "surely_mixed") fd_surely_mixed ["seen"] (spP (GL (He.ga K "Line") ["lot"]) K 1 (runP 6 m_surely_mixed)) := ⟨fn_pure F_surely_mixed sc_surely_mixed rfl (b_surely_mixed (b_tuple := b_tuple) (b_range := b_range) (b_len := b_len) (b_any := b_any) (d_looks_seen := d_looks_seen) (d_letters_seen := d_letters_seen) (d_check_seen := d_check_seen)), He.glo_ok X G (c.d.fact 12 (f := .glo "surely_mixed") rfl), F_surely_mixed.kp, F_surely_mixed.bindsN fun _ _ _ _ _ _ us hl => match us, hl with | [_], _ => rfl⟩
  have d_fits : Cal Pg w K mg base "fits" 6 (He.ga K "fits") fd_fits ["line", "seen"] (spP (GL (He.ga K "Line") ["lot"]) K 2 (runP 3 m_fits)) := ⟨fn_pure F_fits sc_fits rfl (b_fits (b_all := b_all) (L_cl := L_cl) (L_g := L_g) (L_is := L_is) (q_Line_contains := q_Line_contains) (q_Line_looks_of := q_Line_looks_of) (d_check_seen := d_check_seen) (d_check_line := d_check_line)), He.glo_ok X G (c.d.fact 13 (f := .glo "fits") rfl), F_fits.kp, F_fits.bindsN fun _ _ _ _ _ _ us hl => match us, hl with | [_, _], _ => rfl⟩
  have kw_fits : ∀ (s : Shared) (ws : List Value), K.In s.heap → ([1, 0].filterMap (ws[·]?)).length = 2 → BindsTo s fd_fits ⟨[], [("seen" : Str), ("line" : Str)].zip ws⟩ ([("line" : Str), ("seen" : Str)].zip ([1, 0].filterMap (ws[·]?))) := fun s ws _ hl => match ws, hl with | _ :: _ :: _, _ => kwA F_fits (fun _ _ _ _ _ _ => rfl) s | [], hl => absurd hl (by simp) | [_], hl => absurd hl (by simp)
  have d__law_drop : Cal Pg w K mg base "_law_drop" 1 (He.ga K "_law_drop") fd__law_drop ["spring", "size"] (spI (GL (He.ga K "Line") ["lot"]) K 1 (runI 4 m__law_drop)) := ⟨fn_io F__law_drop sc__law_drop rfl (b__law_drop (b_int := b_int) (b_divmod := b_divmod)), He.glo_ok X G (c.d.fact 14 (f := .glo "_law_drop") rfl), F__law_drop.kp, F__law_drop.bindsN fun _ _ _ _ _ _ us hl => match us, hl with | [_, _], _ => rfl⟩
  have d__law_choice : Cal Pg w K mg base "_law_choice" 2 (He.ga K "_law_choice") fd__law_choice ["spring", "menu"] (spI (GL (He.ga K "Line") ["lot"]) K 1 (runI 2 m__law_choice)) := ⟨fn_io F__law_choice sc__law_choice rfl (b__law_choice (d__law_drop := d__law_drop) (b_len := b_len)), He.glo_ok X G (c.d.fact 15 (f := .glo "_law_choice") rfl), F__law_choice.kp, F__law_choice.bindsN fun _ _ _ _ _ _ us hl => match us, hl with | [_, _], _ => rfl⟩
  have d__law_pairs_for : Cal Pg w K mg base "_law_pairs_for" 3 (He.ga K "_law_pairs_for") fd__law_pairs_for ["spring", "told"] (spI (GL (He.ga K "Line") ["lot"]) K 1 (runI 7 m__law_pairs_for)) := ⟨fn_io F__law_pairs_for sc__law_pairs_for rfl (b__law_pairs_for (b_tuple := b_tuple) (b_range := b_range) (d__law_drop := d__law_drop) (d__law_choice := d__law_choice) (b_list := b_list)), He.glo_ok X G (c.d.fact 16 (f := .glo "_law_pairs_for") rfl), F__law_pairs_for.kp, F__law_pairs_for.bindsN fun _ _ _ _ _ _ us hl => match us, hl with | [_, _], _ => rfl⟩
  have d_are_looks : Cal Pg w K mg base "are_looks" 1 (He.ga K "are_looks") fd_are_looks ["value"] (spP (GL (He.ga K "Line") ["lot"]) K 1 (runP 3 m_are_looks)) := ⟨fn_pure F_are_looks sc_are_looks rfl (b_are_looks (b_all := b_all) (b_range := b_range) (b_len := b_len) (b_isinstance := b_isinstance) (b_str := b_str) (c_FIGURES := c_FIGURES)), He.glo_ok X G (c.d.fact 17 (f := .glo "are_looks") rfl), F_are_looks.kp, F_are_looks.bindsN fun _ _ _ _ _ _ us hl => match us, hl with | [_], _ => rfl⟩
  have d_is_pair : Cal Pg w K mg base "is_pair" 2 (He.ga K "is_pair") fd_is_pair ["value"] (spP (GL (He.ga K "Line") ["lot"]) K 1 (runP 1 m_is_pair)) := ⟨fn_pure F_is_pair sc_is_pair rfl (b_is_pair (b_isinstance := b_isinstance) (b_tuple := b_tuple) (b_len := b_len) (d_is_letter := d_is_letter) (d_are_looks := d_are_looks)), He.glo_ok X G (c.d.fact 18 (f := .glo "is_pair") rfl), F_is_pair.kp, F_is_pair.bindsN fun _ _ _ _ _ _ us hl => match us, hl with | [_], _ => rfl⟩
  have d_check_signs : Cal Pg w K mg base "check_signs" 3 (He.ga K "check_signs") fd_check_signs ["signs"] (spP (GL (He.ga K "Line") ["lot"]) K 1 (runP 4 m_check_signs)) := ⟨fn_pure F_check_signs sc_check_signs rfl (b_check_signs (b_len := b_len) (c_LEAST_SIGNS := c_LEAST_SIGNS) (b_range := b_range) (c_MOST_SIGNS := c_MOST_SIGNS) (d_is_pair := d_is_pair) (b_isinstance := b_isinstance) (b_tuple := b_tuple)), He.glo_ok X G (c.d.fact 19 (f := .glo "check_signs") rfl), F_check_signs.kp, F_check_signs.bindsN fun _ _ _ _ _ _ us hl => match us, hl with | [_], _ => rfl⟩
  have q_Line_init : Ini Pg w K mg base (He.ga K "Line") 4 (He.ma K (He.ga K "Line") "__init__") fd_Line_init ["self", "signs"] (spI (GL (He.ga K "Line") ["lot"]) K 1 (runI 2 m_Line_init)) := ⟨fn_io F_Line_init sc_Line_init rfl (b_Line_init (L_cl := L_cl) (L_g := L_g) (L_is := L_is) (L_na_lot := L_na_lot) (d_check_signs := d_check_signs)), L_mk, F_Line_init.bindsN fun _ _ _ _ _ _ us hl => match us, hl with | [_, _], _ => rfl⟩
  have d__law_names : Cal Pg w K mg base "_law_names" 2 (He.ga K "_law_names") fd__law_names ["spring", "size"] (spI (GL (He.ga K "Line") ["lot"]) K 1 (runI 5 m__law_names)) := ⟨fn_io F__law_names sc__law_names rfl (b__law_names (b_range := b_range) (d__law_drop := d__law_drop) (b_len := b_len) (b_list := b_list)), He.glo_ok X G (c.d.fact 20 (f := .glo "_law_names") rfl), F__law_names.kp, F__law_names.bindsN fun _ _ _ _ _ _ us hl => match us, hl with | [_, _], _ => rfl⟩
  have d__law_mixed_up : Cal Pg w K mg base "_law_mixed_up" 2 (He.ga K "_law_mixed_up") fd__law_mixed_up ["spring", "things_here"] (spI (GL (He.ga K "Line") ["lot"]) K 1 (runI 5 m__law_mixed_up)) := ⟨fn_io F__law_mixed_up sc__law_mixed_up rfl (b__law_mixed_up (b_range := b_range) (b_len := b_len) (d__law_drop := d__law_drop) (b_list := b_list)), He.glo_ok X G (c.d.fact 21 (f := .glo "_law_mixed_up") rfl), F__law_mixed_up.kp, F__law_mixed_up.bindsN fun _ _ _ _ _ _ us hl => match us, hl with | [_, _], _ => rfl⟩
  have d__law_some_looks : Cal Pg w K mg base "_law_some_looks" 3 (He.ga K "_law_some_looks") fd__law_some_looks ["spring", "menu"] (spI (GL (He.ga K "Line") ["lot"]) K 1 (runI 4 m__law_some_looks)) := ⟨fn_io F__law_some_looks sc__law_some_looks rfl (b__law_some_looks (b_sorted := b_sorted) (d__law_choice := d__law_choice) (d__law_drop := d__law_drop)), He.glo_ok X G (c.d.fact 22 (f := .glo "_law_some_looks") rfl), F__law_some_looks.kp, F__law_some_looks.bindsN fun _ _ _ _ _ _ us hl => match us, hl with | [_, _], _ => rfl⟩
  have d__law_ring_lots : Cal Pg w K mg base "_law_ring_lots" 4 (He.ga K "_law_ring_lots") fd__law_ring_lots ["spring", "size"] (spI (GL (He.ga K "Line") ["lot"]) K 1 (runI 6 m__law_ring_lots)) := ⟨fn_io F__law_ring_lots sc__law_ring_lots rfl (b__law_ring_lots (d__law_some_looks := d__law_some_looks) (d__law_choice := d__law_choice) (d__law_drop := d__law_drop) (b_sorted := b_sorted) (b_list := b_list) (b_range := b_range) (b_int := b_int) (d__law_mixed_up := d__law_mixed_up)), He.glo_ok X G (c.d.fact 23 (f := .glo "_law_ring_lots") rfl), F__law_ring_lots.kp, F__law_ring_lots.bindsN fun _ _ _ _ _ _ us hl => match us, hl with | [_, _], _ => rfl⟩
  have d__law_any_lots : Cal Pg w K mg base "_law_any_lots" 4 (He.ga K "_law_any_lots") fd__law_any_lots ["spring", "size"] (spI (GL (He.ga K "Line") ["lot"]) K 1 (runI 4 m__law_any_lots)) := ⟨fn_io F__law_any_lots sc__law_any_lots rfl (b__law_any_lots (b_range := b_range) (d__law_some_looks := d__law_some_looks) (d__law_choice := d__law_choice)), He.glo_ok X G (c.d.fact 24 (f := .glo "_law_any_lots") rfl), F__law_any_lots.kp, F__law_any_lots.bindsN fun _ _ _ _ _ _ us hl => match us, hl with | [_, _], _ => rfl⟩
  have d__law_told : Cal Pg w K mg base "_law_told" 5 (He.ga K "_law_told") fd__law_told ["spring"] (spI (GL (He.ga K "Line") ["lot"]) K 0 (runI 3 m__law_told)) := ⟨fn_io F__law_told sc__law_told rfl (b__law_told (b_tuple := b_tuple) (d__law_names := d__law_names) (d__law_mixed_up := d__law_mixed_up) (b_list := b_list) (b_zip := b_zip) (d__law_drop := d__law_drop) (d__law_ring_lots := d__law_ring_lots) (d__law_any_lots := d__law_any_lots)), He.glo_ok X G (c.d.fact 25 (f := .glo "_law_told") rfl), F__law_told.kp, F__law_told.bindsN fun _ _ _ _ _ _ us hl => match us, hl with | [_], _ => rfl⟩
  have d__law_right : Cal Pg w K mg base "_law_right" 8 (He.ga K "_law_right") fd__law_right ["spring"] (spI (GL (He.ga K "Line") ["lot"]) K 0 (runI 16 m__law_right)) := ⟨fn_io F__law_right sc__law_right rfl (b__law_right (b_range := b_range) (d_mixed := d_mixed) (d_surely_mixed := d_surely_mixed) (d_fits := d_fits) (b_repr := b_repr) (kw_fits := kw_fits) (d__law_pairs_for := d__law_pairs_for) (L_cl := L_cl) (L_g := L_g) (L_is := L_is) (q_Line_init := q_Line_init) (b_sorted := b_sorted) (b_set := b_set) (d__law_drop := d__law_drop) (b_len := b_len) (d__law_choice := d__law_choice) (d__law_told := d__law_told)), He.glo_ok X G (c.d.fact 26 (f := .glo "_law_right") rfl), F__law_right.kp, F__law_right.bindsN fun _ _ _ _ _ _ us hl => match us, hl with | [_], _ => rfl⟩
  have d__law_brook : Cal Pg w K mg base "_law_brook" 1 (He.ga K "_law_brook") fd__law_brook ["script", "turn"] (spF (GL (He.ga K "Line") ["lot"]) K 2 (runF 5 m__law_brook)) := ⟨fn_fresh F__law_brook sc__law_brook rfl (b__law_brook (b_int := b_int) (b_abs := b_abs) (b_len := b_len)), He.glo_ok X G (c.d.fact 27 (f := .glo "_law_brook") rfl), F__law_brook.kp, F__law_brook.bindsN fun _ _ _ _ _ _ us hl => match us, hl with | [_, _], _ => rfl⟩
  exact fn_pure F_law sc_law rfl (b_law (b_all := b_all) (b_range := b_range) (b_max := b_max) (b_min := b_min) (b_len := b_len) (d__law_right := d__law_right) (d__law_brook := d__law_brook))
end Nv

open PySem PySem.W PySem.Calls PyProof.Rows in
theorem PySem.Challenge.cw_nevermixed_k61_whole_lines_that_fit_what_holds : PySem.Challenge.rw_nevermixed_k61_whole_lines_that_fit_what.Holds := by
  w_on; o_law
  refine HandSHeadRun.head_any (r := OpenLaw.row PySem.Challenge.rw_nevermixed_k61_whole_lines_that_fit_what) (q := view (OpenLaw.row PySem.Challenge.rw_nevermixed_k61_whole_lines_that_fit_what).prog [46]) (H := Nv.hk) (ob := Nv.ob) (M := 8000) (loose := Nv.loose) (d := HandSHeadRun.topDef (OpenLaw.row PySem.Challenge.rw_nevermixed_k61_whole_lines_that_fit_what).prog 46) (kwd := []) Nv.ob_eq
    (by kernel_rfl) (fun s => by kernel_rfl) Nv.run (by kernel_rfl) (by kernel_rfl) (by kernel_rfl) (by rfl) (by first | assumption | decide +kernel) (by decide +kernel) ⟨rfl, rfl, rfl, rfl, rfl, by decide +kernel⟩ ?hw ?hc
  case hw => w_witness2
  case hc =>
    refine Nv.walk_end (l := PySem.Challenge.rw_nevermixed_k61_whole_lines_that_fit_what) (n := 63) (k := 9) (x := "script") (m := Nv.runP 2 Nv.m_law) rfl (by decide) (by kernel_rfl) ⟨rfl, by decide, by decide⟩ ?F Nv.law_true
    intro w mg fa h Y G hmg0
    obtain ⟨K, KX, c⟩ := Y
    have hmg : mg ("law" : PySem.Str) = some (.ref fa) := by
      have e : (HandSHeadRun.topDef (OpenLaw.row PySem.Challenge.rw_nevermixed_k61_whole_lines_that_fit_what).prog 46).name = ("law" : PySem.Str) := by kernel_rfl
      rw [← e]
      exact hmg0
    obtain ⟨fd, hb, hF⟩ := Nv.all_ok (w := w) KX G hmg c
    exact ⟨K, fd, _, KX, hb, hF⟩


