import PyProof.Rows.All
import Wide.All
import OpenK.AllK
import Wide.FinOn
import HandS.ForMost
import HandS.Flow
import HandS.IsInst
import HandS.TupAny
import HandS.Comp
import HandS.ForExc
import HandS.Exc
import HandS.CallSlots
import HandS.Defaults
import HandS.Style
import HandS.SortInts
import HandS.SortOrd
import HandS.SetFor
import HandS.SetKeys
import HandS.Iter
import HandS.Rev
import KE.GoesMore
import KE.GoesEnum
import HandS.TryMany
import HandS.Head0
import HandS.Head1
import HandS.Head2
import HandS.HeadEnd
import HandS.HeadHook1
import HandS.HeadHook2
import PySem.Challenge.RW_behindwebs_k02_tables_of_voters
set_option Elab.async false
set_option linter.all false
set_option maxRecDepth 100000
set_option maxHeartbeats 4000000
namespace Bw
open PySem PySem.Spec PyProof.Rows L2

/-- data: what a value is, read to its ground -/
inductive D where
  | non | bl (b : Bool) | int (i : Int) | str (x : Str)
  | tup (ds : List D) | lst (ds : List D)
  | dic (kvs : List (Key × D)) | dit (kvs : List (List Key × D))
  | ins (c : Str) (fs : List (Str × D))
  deriving Inhabited

/-- owned trees: lists (and instances) that one place alone holds; a leaf is data that nobody changes -/
inductive T where
  | d (x : D) | lst (ts : List T) | dic (kvs : List (Key × D)) | dit (kvs : List (List Key × D)) | ins (c : Str) (fs : List (Str × T))
  deriving Inhabited

mutual
def imm : D → Bool
  | .lst _ => false
  | .dic _ => false
  | .dit _ => false
  | .ins _ _ => false
  | .tup ds => imms ds
  | .non => true
  | .bl _ => true
  | .int _ => true
  | .str _ => true
def imms : List D → Bool
  | [] => true
  | d :: r => imm d && imms r
end
mutual
def fz : T → D
  | .d x => x
  | .lst ts => .lst (fzs ts)
  | .dic kvs => .dic kvs
  | .dit kvs => .dit kvs
  | .ins c fs => .ins c (fzf fs)
def fzs : List T → List D
  | [] => []
  | t :: r => fz t :: fzs r
def fzf : List (Str × T) → List (Str × D)
  | [] => []
  | (f, t) :: r => (f, fz t) :: fzf r
end

/-- what stays from state to state: the written part, where the classes stand -/
structure Gx where
  K : PySem.W.Frag
  cls : Str → Option Addr

/-- a list that is read: at an address of P, or known, or written -/
def LsAt (K : PySem.W.Frag) (P : Addr → Prop) (H : Hp) (a : Addr) (vs : List V) : Prop :=
  (P a ∧ H a = some (.lst vs)) ∨ (∃ o, H a = some (.frz o (.lst vs))) ∨ SqL K (fun _ => none) a vs
def TpAt (K : PySem.W.Frag) (H : Hp) (a : Addr) (vs : List V) : Prop :=
  (∃ o : Obj, o.dict = none ∧ H a = some (.frz o (.tup vs))) ∨ (SqT K (fun _ => none) a vs ∧ ∃ o, K.lookup a = some o ∧ o.dict = none)
theorem LsAt.sq {K : PySem.W.Frag} {P : Addr → Prop} {H : Hp} {a : Addr} {vs : List V} (h : LsAt K P H a vs) : SqL K H a vs := by
  rcases h with ⟨_, h⟩ | h | h
  · exact .inl (.inl h)
  · exact .inl (.inr h)
  · rcases h with (h | ⟨o, h⟩) | h
    · cases h
    · cases h
    · exact .inr h
theorem TpAt.sq {K : PySem.W.Frag} {H : Hp} {a : Addr} {vs : List V} (h : TpAt K H a vs) : SqT K H a vs := by
  rcases h with ⟨o, _, h⟩ | ⟨h, _⟩
  · exact .inl (.inr ⟨o, h⟩)
  · rcases h with (h | ⟨o, h⟩) | h
    · cases h
    · cases h
    · exact .inr h

mutual
inductive RD (G : Gx) (P : Addr → Prop) (H : Hp) : D → V → Prop
  | non : RD G P H .non .non
  | bl (b : Bool) : RD G P H (.bl b) (.bl b)
  | int (i : Int) : RD G P H (.int i) (.int i)
  | str (x : Str) : RD G P H (.str x) (.str x)
  | tup {a : Addr} {ds : List D} {vs : List V} (h : TpAt G.K H a vs) (r : RDs G P H ds vs) : RD G P H (.tup ds) (.ref a)
  | lst {a : Addr} {ds : List D} {vs : List V} (h : LsAt G.K P H a vs) (r : RDs G P H ds vs) : RD G P H (.lst ds) (.ref a)
  | dic {a : Addr} {kvs : List (Key × D)} {ws : List (Key × V)} (p : P a) (h : H a = some (.dK ws)) (e : kvs.map (·.1) = ws.map (·.1)) (r : RDs G P H (kvs.map (·.2)) (ws.map (·.2))) : RD G P H (.dic kvs) (.ref a)
  | dit {a : Addr} {kvs : List (List Key × D)} {ws : List (List Key × V)} (p : P a) (h : H a = some (.dT ws)) (e : kvs.map (·.1) = ws.map (·.1)) (r : RDs G P H (kvs.map (·.2)) (ws.map (·.2))) : RD G P H (.dit kvs) (.ref a)
  | ins {a C dx : Addr} {c : Str} {fs : List (Str × D)} {ws : List (Str × V)} (p : P a) (h : H a = some (.ins C dx ws)) (hc : G.cls c = some C) (e : fs.map (·.1) = ws.map (·.1)) (r : RDs G P H (fs.map (·.2)) (ws.map (·.2))) : RD G P H (.ins c fs) (.ref a)
inductive RDs (G : Gx) (P : Addr → Prop) (H : Hp) : List D → List V → Prop
  | nil : RDs G P H [] []
  | cons {d : D} {v : V} {ds : List D} {vs : List V} (h : RD G P H d v) (r : RDs G P H ds vs) : RDs G P H (d :: ds) (v :: vs)
end

/-- what is read stays -/
structure Sub (P : Addr → Prop) (H : Hp) (P' : Addr → Prop) (H' : Hp) : Prop where
  p : ∀ a o, P a → H a = some o → P' a ∧ H' a = some o
  t : ∀ a xs, H a = some (.tup xs) → H' a = some (.tup xs)
  f : ∀ a o u, H a = some (.frz o u) → H' a = some (.frz o u)
variable {G : Gx} {P P' Z Z' Z1 Z2 : Addr → Prop} {H H' H1 H2 : Hp}
theorem TpAt.mono {K : PySem.W.Frag} (S : Sub P H P' H') {a : Addr} {vs : List V} (h : TpAt K H a vs) : TpAt K H' a vs := h.imp (fun ⟨o, d, e⟩ => ⟨o, d, S.f _ _ _ e⟩) id
theorem LsAt.mono {K : PySem.W.Frag} (S : Sub P H P' H') {a : Addr} {vs : List V} (h : LsAt K P H a vs) : LsAt K P' H' a vs := by
  rcases h with ⟨p, h⟩ | ⟨o, h⟩ | h
  · exact .inl (S.p _ _ p h)
  · exact .inr (.inl ⟨o, S.f _ _ _ h⟩)
  · exact .inr (.inr h)
mutual
theorem RD.mono (S : Sub P H P' H') : ∀ {d : D} {v : V}, RD G P H d v → RD G P' H' d v
  | _, _, .non => .non
  | _, _, .bl b => .bl b
  | _, _, .int i => .int i
  | _, _, .str x => .str x
  | _, _, .tup h r => .tup (h.mono S) (RDs.mono S r)
  | _, _, .lst h r => .lst (h.mono S) (RDs.mono S r)
  | _, _, .dic p h e r => .dic (S.p _ _ p h).1 (S.p _ _ p h).2 e (RDs.mono S r)
  | _, _, .dit p h e r => .dit (S.p _ _ p h).1 (S.p _ _ p h).2 e (RDs.mono S r)
  | _, _, .ins p h c e r => .ins (S.p _ _ p h).1 (S.p _ _ p h).2 c e (RDs.mono S r)
theorem RDs.mono (S : Sub P H P' H') : ∀ {ds : List D} {vs : List V}, RDs G P H ds vs → RDs G P' H' ds vs
  | _, _, .nil => .nil
  | _, _, .cons h r => .cons (RD.mono S h) (RDs.mono S r)
end
/-- immutable data reads on, whatever changes -/
structure SubT (H H' : Hp) : Prop where
  f : ∀ a o u, H a = some (.frz o u) → H' a = some (.frz o u)
theorem TpAt.monoT {K : PySem.W.Frag} (S : SubT H H') {a : Addr} {vs : List V} (h : TpAt K H a vs) : TpAt K H' a vs := h.imp (fun ⟨o, d, e⟩ => ⟨o, d, S.f _ _ _ e⟩) id
mutual
theorem RD.imm (S : SubT H H') : ∀ {d : D} {v : V}, RD G P H d v → imm d = true → RD G P' H' d v
  | _, _, .non, _ => .non
  | _, _, .bl b, _ => .bl b
  | _, _, .int i, _ => .int i
  | _, _, .str x, _ => .str x
  | _, _, .tup h r, e => .tup (h.monoT S) (RDs.imm S r (by simpa [Bw.imm] using e))
  | _, _, .lst h r, e => by simp [Bw.imm] at e
  | _, _, .dic p h e r, e' => by simp [Bw.imm] at e'
  | _, _, .dit p h e r, e' => by simp [Bw.imm] at e'
  | _, _, .ins p h c e r, e' => by simp [Bw.imm] at e'
theorem RDs.imm (S : SubT H H') : ∀ {ds : List D} {vs : List V}, RDs G P H ds vs → imms ds = true → RDs G P' H' ds vs
  | _, _, .nil, _ => .nil
  | _, _, .cons h r, e => by
    rw [imms, Bool.and_eq_true] at e
    exact .cons (RD.imm S h e.1) (RDs.imm S r e.2)
end
theorem RDs.length : ∀ {ds : List D} {vs : List V}, RDs G P H ds vs → ds.length = vs.length
  | _, _, .nil => rfl
  | _, _, .cons _ r => by rw [List.length_cons, List.length_cons, RDs.length r]
theorem RDs.get : ∀ {ds : List D} {vs : List V} {i : Nat} {d : D}, RDs G P H ds vs → ds[i]? = some d → ∃ v, vs[i]? = some v ∧ RD G P H d v
  | _, _, _, _, .nil, e => by simp at e
  | _, _, 0, _, .cons h _, e => by
    simp at e
    subst e
    exact ⟨_, rfl, h⟩
  | _, _, i + 1, d, .cons _ r, e => by
    obtain ⟨v, h1, h2⟩ := RDs.get (i := i) (d := d) r (by simpa using e)
    exact ⟨v, by simpa using h1, h2⟩
theorem RDs.append : ∀ {ds es : List D} {vs ws : List V}, RDs G P H ds vs → RDs G P H es ws → RDs G P H (ds ++ es) (vs ++ ws)
  | _, _, _, _, .nil, s => s
  | _, _, _, _, .cons h r, s => .cons h (RDs.append r s)
theorem RDs.take : ∀ {ds : List D} {vs : List V} (n : Nat), RDs G P H ds vs → RDs G P H (ds.take n) (vs.take n)
  | _, _, 0, _ => .nil
  | _, _, _ + 1, .nil => .nil
  | _, _, n + 1, .cons h r => .cons h (RDs.take n r)
theorem RDs.drop : ∀ {ds : List D} {vs : List V} (n : Nat), RDs G P H ds vs → RDs G P H (ds.drop n) (vs.drop n)
  | _, _, 0, r => r
  | _, _, _ + 1, .nil => .nil
  | _, _, n + 1, .cons _ r => RDs.drop n r
theorem RDs.reverse {ds : List D} {vs : List V} (r : RDs G P H ds vs) : RDs G P H ds.reverse vs.reverse := by
  induction ds generalizing vs with
  | nil => cases r; exact .nil
  | cons d ds ih =>
    cases r with
    | cons h r =>
      rw [List.reverse_cons, List.reverse_cons]
      exact (ih r).append (.cons h .nil)
theorem RDs.dropLast : ∀ {ds : List D} {vs : List V}, RDs G P H ds vs → RDs G P H ds.dropLast vs.dropLast
  | _, _, .nil => .nil
  | _, _, .cons _ .nil => .nil
  | _, _, .cons h (.cons h2 r) => .cons h (RDs.dropLast (.cons h2 r))

/-! ### owned trees in the heap; g: the addresses that the tree owns -/
mutual
inductive RT (G : Gx) (Z : Addr → Prop) (H : Hp) : T → V → List Addr → Prop
  | d {x : D} {v : V} (h : RD G Z H x v) : RT G Z H (.d x) v []
  | lst {a : Addr} {ts : List T} {vs : List V} {g : List Addr} (h : H a = some (.lst vs)) (r : RTs G Z H ts vs g) : RT G Z H (.lst ts) (.ref a) (a :: g)
  | dic {a : Addr} {kvs : List (Key × D)} {ws : List (Key × V)} (h : H a = some (.dK ws)) (e : kvs.map (·.1) = ws.map (·.1)) (r : RDs G Z H (kvs.map (·.2)) (ws.map (·.2))) : RT G Z H (.dic kvs) (.ref a) [a]
  | dit {a : Addr} {kvs : List (List Key × D)} {ws : List (List Key × V)} (h : H a = some (.dT ws)) (e : kvs.map (·.1) = ws.map (·.1)) (r : RDs G Z H (kvs.map (·.2)) (ws.map (·.2))) : RT G Z H (.dit kvs) (.ref a) [a]
  | ins {a C dx : Addr} {c : Str} {fs : List (Str × T)} {ws : List (Str × V)} {g : List Addr} (h : H a = some (.ins C dx ws)) (hc : G.cls c = some C) (e : fs.map (·.1) = ws.map (·.1)) (r : RTs G Z H (fs.map (·.2)) (ws.map (·.2)) g) : RT G Z H (.ins c fs) (.ref a) (a :: g)
inductive RTs (G : Gx) (Z : Addr → Prop) (H : Hp) : List T → List V → List Addr → Prop
  | nil : RTs G Z H [] [] []
  | cons {t : T} {v : V} {ts : List T} {vs : List V} {g g' : List Addr} (h : RT G Z H t v g) (r : RTs G Z H ts vs g') : RTs G Z H (t :: ts) (v :: vs) (g ++ g')
end
/-- the heap at Z and g stays -/
structure SubG (Z : Addr → Prop) (H : Hp) (g : List Addr) (Z' : Addr → Prop) (H' : Hp) : Prop where
  s : Sub Z H Z' H'
  g : ∀ a o, a ∈ g → H a = some o → H' a = some o
theorem SubG.left {g g' : List Addr} (S : SubG Z H (g ++ g') Z' H') : SubG Z H g Z' H' := ⟨S.s, fun a o h => S.g a o (List.mem_append_left _ h)⟩
theorem SubG.right {g g' : List Addr} (S : SubG Z H (g ++ g') Z' H') : SubG Z H g' Z' H' := ⟨S.s, fun a o h => S.g a o (List.mem_append_right _ h)⟩
theorem SubG.tail {g : List Addr} {a : Addr} (S : SubG Z H (a :: g) Z' H') : SubG Z H g Z' H' := ⟨S.s, fun b o h => S.g b o (List.mem_cons_of_mem _ h)⟩
mutual
theorem RT.mono : ∀ {t : T} {v : V} {g : List Addr}, RT G Z H t v g → SubG Z H g Z' H' → RT G Z' H' t v g
  | _, _, _, .d h, S => .d (h.mono S.s)
  | _, _, _, .lst h r, S => .lst (S.g _ _ (List.mem_cons_self) h) (RTs.mono r S.tail)
  | _, _, _, .dic h e r, S => .dic (S.g _ _ (List.mem_cons_self) h) e (r.mono S.s)
  | _, _, _, .dit h e r, S => .dit (S.g _ _ (List.mem_cons_self) h) e (r.mono S.s)
  | _, _, _, .ins h c e r, S => .ins (S.g _ _ (List.mem_cons_self) h) c e (RTs.mono r S.tail)
theorem RTs.mono : ∀ {ts : List T} {vs : List V} {g : List Addr}, RTs G Z H ts vs g → SubG Z H g Z' H' → RTs G Z' H' ts vs g
  | _, _, _, .nil, _ => .nil
  | _, _, _, .cons h r, S => .cons (RT.mono h S.left) (RTs.mono r S.right)
end
theorem fzf_fst : ∀ fs : List (Str × T), (fzf fs).map (·.1) = fs.map (·.1)
  | [] => rfl
  | (f, t) :: r => by rw [fzf, List.map_cons, List.map_cons, fzf_fst r]
theorem fzf_snd : ∀ fs : List (Str × T), (fzf fs).map (·.2) = fzs (fs.map (·.2))
  | [] => rfl
  | (f, t) :: r => by rw [fzf, List.map_cons, List.map_cons, fzf_snd r, fzs]
theorem fzs_length : ∀ ts : List T, (fzs ts).length = ts.length
  | [] => rfl
  | t :: r => by rw [fzs, List.length_cons, List.length_cons, fzs_length r]
theorem sub_or {Q : Addr → Prop} (h : ∀ a, P a → Q a) : Sub P H Q H := ⟨fun a o p e => ⟨h a p, e⟩, fun _ _ e => e, fun _ _ _ e => e⟩
mutual
/-- an owned tree as data: its own addresses are read, too -/
theorem RT.fz : ∀ {t : T} {v : V} {g : List Addr}, RT G Z H t v g → RD G (fun a => Z a ∨ a ∈ g) H (fz t) v
  | _, _, _, .d h => h.mono (sub_or fun a p => .inl p)
  | _, _, _, .lst h r => by
    rw [Bw.fz]
    exact .lst (.inl ⟨.inr List.mem_cons_self, h⟩) ((RTs.fz r).mono (sub_or fun a p => p.imp id (List.mem_cons_of_mem _)))
  | _, _, _, .dic h e r => by
    rw [Bw.fz]
    exact .dic (.inr List.mem_cons_self) h e (r.mono (sub_or fun a p => .inl p))
  | _, _, _, .dit h e r => by
    rw [Bw.fz]
    exact .dit (.inr List.mem_cons_self) h e (r.mono (sub_or fun a p => .inl p))
  | _, _, _, .ins h c e r => by
    rw [Bw.fz]
    refine .ins (.inr List.mem_cons_self) h c (by rw [fzf_fst]; exact e) ?_
    rw [fzf_snd]
    exact (RTs.fz r).mono (sub_or fun a p => p.imp id (List.mem_cons_of_mem _))
theorem RTs.fz : ∀ {ts : List T} {vs : List V} {g : List Addr}, RTs G Z H ts vs g → RDs G (fun a => Z a ∨ a ∈ g) H (fzs ts) vs
  | _, _, _, .nil => .nil
  | _, _, _, .cons h r => by
    rw [fzs]
    exact .cons ((RT.fz h).mono (sub_or fun a p => p.imp id (List.mem_append_left _))) ((RTs.fz r).mono (sub_or fun a p => p.imp id (List.mem_append_right _)))
end
mutual
theorem RT.there : ∀ {t : T} {v : V} {g : List Addr}, RT G Z H t v g → ∀ a ∈ g, ∃ o, H a = some o ∧ Mut (some o)
  | _, _, _, .d h, a, m => by cases m
  | _, _, _, .lst h r, a, m => by
    rcases List.mem_cons.mp m with e | m
    · subst e
      exact ⟨_, h, True.intro⟩
    · exact RTs.there r a m
  | _, _, _, .dic h e r, a, m => by
    rcases List.mem_cons.mp m with e | m
    · subst e
      exact ⟨_, h, True.intro⟩
    · cases m
  | _, _, _, .dit h e r, a, m => by
    rcases List.mem_cons.mp m with e | m
    · subst e
      exact ⟨_, h, True.intro⟩
    · cases m
  | _, _, _, .ins h c e r, a, m => by
    rcases List.mem_cons.mp m with e | m
    · subst e
      exact ⟨_, h, True.intro⟩
    · exact RTs.there r a m
theorem RTs.there : ∀ {ts : List T} {vs : List V} {g : List Addr}, RTs G Z H ts vs g → ∀ a ∈ g, ∃ o, H a = some o ∧ Mut (some o)
  | _, _, _, .nil, a, m => by cases m
  | _, _, _, .cons h r, a, m => by
    rcases List.mem_append.mp m with m | m
    · exact RT.there h a m
    · exact RTs.there r a m
end
theorem RTs.length : ∀ {ts : List T} {vs : List V} {g : List Addr}, RTs G Z H ts vs g → ts.length = vs.length
  | _, _, _, .nil => rfl
  | _, _, _, .cons _ r => by rw [List.length_cons, List.length_cons, RTs.length r]
end Bw

set_option maxHeartbeats 4000000
namespace Bw
open PySem PySem.Spec PyProof.Rows L2

abbrev Fr := List (Option T)
/-- the frame's slots hold the trees; ph i: what the i-th slot owns; Z: what nobody changes any more -/
structure FrOk (G : Gx) (Z : Addr → Prop) (H : Hp) (σ : L2.St) (fr : Fr) (ph : Nat → List Addr) : Prop where
  len : fr.length = σ.length
  at_ : ∀ (i : Nat) t, fr[i]? = some (some t) → ∃ v, σ[i]? = some (some v) ∧ RT G Z H t v (ph i)
  emp : ∀ (i : Nat), (∀ t, fr[i]? ≠ some (some t)) → ph i = []
  nd : ∀ i, (ph i).Nodup
  dj : ∀ i j a, a ∈ ph i → a ∈ ph j → i = j
  dz : ∀ i a, a ∈ ph i → ¬ Z a
  zt : ∀ a, Z a → ∃ o, H a = some o
/-- from state to state -/
structure Stp (Z : Addr → Prop) (H : Hp) (ph : Nat → List Addr) (Z' : Addr → Prop) (H' : Hp) (ph' : Nat → List Addr) (g : List Addr) : Prop where
  z : ∀ a, Z a → Z' a
  keep : ∀ a o, H a = some o → (∀ i, a ∉ ph i) → H' a = some o
  there : ∀ a o, H a = some o → ∃ o', H' a = some o'
  t : ∀ a xs, H a = some (.tup xs) → H' a = some (.tup xs)
  f : ∀ a o u, H a = some (.frz o u) → H' a = some (.frz o u)
  new : ∀ i a, a ∈ ph' i → (∃ j, a ∈ ph j) ∨ H a = none
  newg : ∀ a, a ∈ g → (∃ j, a ∈ ph j) ∨ H a = none
  zn : ∀ a, Z' a → Z a ∨ (∃ j, a ∈ ph j) ∨ H a = none
/-- a value that is held beside the frame -/
structure Val (G : Gx) (Z : Addr → Prop) (H : Hp) (ph : Nat → List Addr) (t : T) (v : V) (g : List Addr) : Prop where
  rt : RT G Z H t v g
  nd : g.Nodup
  dz : ∀ a, a ∈ g → ¬ Z a
  dp : ∀ a, a ∈ g → ∀ i, a ∉ ph i

variable {G : Gx} {Z Z' Z1 Z2 : Addr → Prop} {H H' H1 H2 : Hp} {σ : L2.St} {fr fr' : Fr} {ph ph' ph1 ph2 : Nat → List Addr} {g g1 g2 : List Addr} {t t1 t2 : T} {v v1 v2 : V}

theorem Stp.refl : Stp Z H ph Z H ph [] :=
  ⟨fun _ h => h, fun _ _ h _ => h, fun _ _ h => ⟨_, h⟩, fun _ _ h => h, fun _ _ _ h => h, fun i _ h => .inl ⟨i, h⟩, (fun _ h => nomatch h), fun _ h => .inl h⟩
theorem Stp.none_of (s : Stp Z H ph Z1 H1 ph1 g1) {a : Addr} (h : H1 a = none) : H a = none := by
  cases e : H a with
  | none => rfl
  | some o =>
    obtain ⟨o', e'⟩ := s.there a o e
    rw [h] at e'
    cases e'
theorem Stp.trans (s : Stp Z H ph Z1 H1 ph1 g1) (u : Stp Z1 H1 ph1 Z2 H2 ph2 g2) : Stp Z H ph Z2 H2 ph2 g2 where
  z := fun a h => u.z a (s.z a h)
  keep := fun a o h n => u.keep a o (s.keep a o h n) fun i m => by
    rcases s.new i a m with ⟨j, e⟩ | e
    · exact n j e
    · rw [h] at e; cases e
  there := fun a o h => by
    obtain ⟨o', h'⟩ := s.there a o h
    exact u.there a o' h'
  t := fun a xs h => u.t a xs (s.t a xs h)
  f := fun a o w h => u.f a o w (s.f a o w h)
  new := fun i a m => by
    rcases u.new i a m with ⟨j, e⟩ | e
    · exact s.new j a e
    · exact .inr (s.none_of e)
  newg := fun a m => by
    rcases u.newg a m with ⟨j, e⟩ | e
    · exact s.new j a e
    · exact .inr (s.none_of e)
  zn := fun a h => by
    rcases u.zn a h with e | ⟨j, e⟩ | e
    · exact s.zn a e
    · exact .inr (s.new j a e)
    · exact .inr (.inr (s.none_of e))
theorem Stp.subT (s : Stp Z H ph Z1 H1 ph1 g1) : SubT H H1 := ⟨s.f⟩
theorem Stp.sub (s : Stp Z H ph Z1 H1 ph1 g1) (F : FrOk G Z H σ fr ph) : Sub Z H Z1 H1 :=
  ⟨fun a o p e => ⟨s.z a p, s.keep a o e fun i m => F.dz i a m p⟩, s.t, s.f⟩
/-- frozen data reads on -/
theorem Stp.rd (s : Stp Z H ph Z1 H1 ph1 g1) (F : FrOk G Z H σ fr ph) {x : D} (r : RD G Z H x v) : RD G Z1 H1 x v := r.mono (s.sub F)
theorem Stp.rds (s : Stp Z H ph Z1 H1 ph1 g1) (F : FrOk G Z H σ fr ph) {xs : List D} {vs : List V} (r : RDs G Z H xs vs) : RDs G Z1 H1 xs vs := r.mono (s.sub F)
/-- a held value stays -/
theorem Val.step (h : Val G Z H ph t v g) (F : FrOk G Z H σ fr ph) (s : Stp Z H ph Z1 H1 ph1 g1) : Val G Z1 H1 ph1 t v g where
  rt := h.rt.mono ⟨s.sub F, fun a o m e => s.keep a o e (h.dp a m)⟩
  nd := h.nd
  dz := fun a m z => by
    obtain ⟨o, e, _⟩ := h.rt.there a m
    rcases s.zn a z with q | ⟨j, q⟩ | q
    · exact h.dz a m q
    · exact h.dp a m j q
    · rw [e] at q; cases q
  dp := fun a m i q => by
    obtain ⟨o, e, _⟩ := h.rt.there a m
    rcases s.new i a q with ⟨j, q⟩ | q
    · exact h.dp a m j q
    · rw [e] at q; cases q
/-- .. and is apart from what is new -/
theorem Val.apart (h : Val G Z H ph t v g) (s : Stp Z H ph Z1 H1 ph1 g1) : ∀ a, a ∈ g → a ∉ g1 := fun a m q => by
  obtain ⟨o, e, _⟩ := h.rt.there a m
  rcases s.newg a q with ⟨j, q⟩ | q
  · exact h.dp a m j q
  · rw [e] at q; cases q

/-! ### freezing -/
/-- a held value becomes data that nobody changes -/
theorem Val.freeze (h : Val G Z H ph t v g) (F : FrOk G Z H σ fr ph) :
    FrOk G (fun a => Z a ∨ a ∈ g) H σ fr ph ∧ RD G (fun a => Z a ∨ a ∈ g) H (fz t) v := by
  refine ⟨⟨F.len, fun i t e => ?_, F.emp, F.nd, F.dj, fun i a m z => ?_, fun a z => ?_⟩, h.rt.fz⟩
  · obtain ⟨v, e1, r⟩ := F.at_ i t e
    exact ⟨v, e1, r.mono ⟨sub_or fun a p => .inl p, fun _ _ _ e => e⟩⟩
  · rcases z with z | z
    · exact F.dz i a m z
    · exact h.dp a z i m
  · rcases z with z | z
    · exact F.zt a z
    · obtain ⟨o, e, _⟩ := h.rt.there a z
      exact ⟨o, e⟩
theorem Stp.freeze (s : Stp Z H ph Z1 H1 ph1 g) : Stp Z H ph (fun a => Z1 a ∨ a ∈ g) H1 ph1 [] :=
  ⟨fun a h => .inl (s.z a h), s.keep, s.there, s.t, s.f, s.new, (fun _ m => nomatch m), fun a h => by
    rcases h with h | h
    · exact s.zn a h
    · exact .inr (s.newg a h)⟩
theorem stp_freeze : Stp Z H ph (fun a => Z a ∨ a ∈ g) H ph [] → True := fun _ => trivial
/-- data as a held value -/
theorem Val.of_rd {x : D} (r : RD G Z H x v) : Val G Z H ph (.d x) v [] := ⟨.d r, List.nodup_nil, (fun _ m => nomatch m), (fun _ m => nomatch m)⟩
theorem Stp.drop (s : Stp Z H ph Z1 H1 ph1 g) : Stp Z H ph Z1 H1 ph1 [] :=
  ⟨s.z, s.keep, s.there, s.t, s.f, s.new, (fun _ m => nomatch m), s.zn⟩

/-! ### the heap grows -/
theorem FrOk.grow (F : FrOk G Z H σ fr ph) (k : ∀ a o, H a = some o → H' a = some o) : FrOk G Z H' σ fr ph where
  len := F.len
  at_ := fun i t e => by
    obtain ⟨v, e1, r⟩ := F.at_ i t e
    exact ⟨v, e1, r.mono ⟨⟨fun a o p e => ⟨p, k a o e⟩, fun a xs e => k a _ e, fun a o u e => k a _ e⟩, fun a o _ e => k a o e⟩⟩
  emp := F.emp
  nd := F.nd
  dj := F.dj
  dz := F.dz
  zt := fun a z => by
    obtain ⟨o, e⟩ := F.zt a z
    exact ⟨o, k a o e⟩
theorem Stp.grow (k : ∀ a o, H a = some o → H' a = some o) (n : ∀ a, a ∈ g → H a = none) : Stp Z H ph Z H' ph g :=
  ⟨fun _ h => h, fun a o h _ => k a o h, fun a o h => ⟨o, k a o h⟩, fun a _ h => k a _ h, fun a _ _ h => k a _ h, fun i a h => .inl ⟨i, h⟩, fun a m => .inr (n a m), fun _ h => .inl h⟩
theorem keep_upd {a : Addr} {o : HO} (h : H a = none) : ∀ b u, H b = some u → (upd H a o) b = some u := fun b u e => by
  rw [upd_ne (ne_of_none e h)]
  exact e
theorem FrOk.not_own (F : FrOk G Z H σ fr ph) {a : Addr} (h : H a = none) : ∀ i, a ∉ ph i := fun i m => by
  cases e : fr[i]? with
  | none =>
    rw [F.emp i (fun t q => by rw [e] at q; cases q)] at m
    cases m
  | some o =>
    cases o with
    | none =>
      rw [F.emp i (fun t q => by rw [e] at q; cases q)] at m
      cases m
    | some t =>
      obtain ⟨v, _, r⟩ := F.at_ i t e
      obtain ⟨o', e', _⟩ := r.there a m
      rw [h] at e'
      cases e'
theorem FrOk.there (F : FrOk G Z H σ fr ph) {a : Addr} {i : Nat} (m : a ∈ ph i) : ∃ o, H a = some o ∧ Mut (some o) := by
  cases e : fr[i]? with
  | none =>
    rw [F.emp i (fun t q => by rw [e] at q; cases q)] at m
    cases m
  | some o =>
    cases o with
    | none =>
      rw [F.emp i (fun t q => by rw [e] at q; cases q)] at m
      cases m
    | some t =>
      obtain ⟨v, _, r⟩ := F.at_ i t e
      exact r.there a m
/-- a new list of held values -/
theorem val_lst {ts : List T} {vs : List V} (F : FrOk G Z H σ fr ph) (r : RTs G Z H ts vs g) (nd : g.Nodup) (dz : ∀ a, a ∈ g → ¬ Z a) (dp : ∀ a, a ∈ g → ∀ i, a ∉ ph i) {p : Addr} (hp : H p = none) :
    FrOk G Z (upd H p (.lst vs)) σ fr ph ∧ Val G Z (upd H p (.lst vs)) ph (.lst ts) (.ref p) (p :: g) := by
  have k := keep_upd (o := .lst vs) hp
  refine ⟨F.grow k, .lst upd_same (r.mono ⟨⟨fun a o p e => ⟨p, k a o e⟩, fun a xs e => k a _ e, fun a o u e => k a _ e⟩, fun a o _ e => k a o e⟩), ?_, ?_, ?_⟩
  · refine List.nodup_cons.mpr ⟨fun m => ?_, nd⟩
    obtain ⟨o, e, _⟩ := r.there p m
    rw [hp] at e; cases e
  · intro a m z
    rcases List.mem_cons.mp m with e | m
    · subst e
      obtain ⟨o, e⟩ := F.zt _ z
      rw [hp] at e; cases e
    · exact dz a m z
  · intro a m i q
    rcases List.mem_cons.mp m with e | m
    · subst e
      exact F.not_own hp i q
    · exact dp a m i q
/-- a new tuple of data -/
theorem rd_tup {ds : List D} {vs : List V} (r : RDs G Z H ds vs) {p : Addr} {o : Obj} (hp : H p = none) (ho : o.dict = none) : RD G Z (upd H p (.frz o (.tup vs))) (.tup ds) (.ref p) := by
  have k := keep_upd (o := .frz o (.tup vs)) hp
  exact .tup (.inl ⟨o, ho, upd_same⟩) (r.mono ⟨fun a o p e => ⟨p, k a o e⟩, fun a xs e => k a _ e, fun a o u e => k a _ e⟩)

/-! ### a slot is stored -/
def setP (ph : Nat → List Addr) (i : Nat) (g : List Addr) : Nat → List Addr := fun j => if j = i then g else ph j
theorem setP_same {i : Nat} : setP ph i g i = g := by unfold setP; rw [if_pos rfl]
theorem setP_ne {i j : Nat} (h : j ≠ i) : setP ph i g j = ph j := by unfold setP; rw [if_neg h]
theorem FrOk.set (F : FrOk G Z H σ fr ph) (h : Val G Z H ph t v g) {i : Nat} (hi : i < fr.length) : FrOk G Z H (σ.set i (some v)) (fr.set i (some t)) (setP ph i g) where
  len := by rw [List.length_set, List.length_set, F.len]
  at_ := fun j t' e => by
    by_cases q : j = i
    · subst q
      rw [List.getElem?_set_self hi] at e
      cases e
      rw [setP_same]
      exact ⟨v, List.getElem?_set_self (by rw [← F.len]; exact hi), h.rt⟩
    · rw [List.getElem?_set_ne (Ne.symm q)] at e
      rw [setP_ne q, List.getElem?_set_ne (Ne.symm q)]
      exact F.at_ j t' e
  emp := fun j e => by
    by_cases q : j = i
    · subst q
      exact absurd (List.getElem?_set_self hi) (e t)
    · rw [setP_ne q]
      exact F.emp j fun t' e' => e t' (by rw [List.getElem?_set_ne (Ne.symm q)]; exact e')
  nd := fun j => by
    by_cases q : j = i
    · subst q; rw [setP_same]; exact h.nd
    · rw [setP_ne q]; exact F.nd j
  dj := fun j k a m1 m2 => by
    by_cases q : j = i
    · subst q
      rw [setP_same] at m1
      by_cases q2 : k = j
      · exact q2.symm
      · rw [setP_ne q2] at m2
        exact absurd m2 (h.dp a m1 k)
    · rw [setP_ne q] at m1
      by_cases q2 : k = i
      · subst q2
        rw [setP_same] at m2
        exact absurd m1 (h.dp a m2 j)
      · rw [setP_ne q2] at m2
        exact F.dj j k a m1 m2
  dz := fun j a m => by
    by_cases q : j = i
    · subst q; rw [setP_same] at m; exact h.dz a m
    · rw [setP_ne q] at m; exact F.dz j a m
  zt := F.zt
theorem Stp.setP {i : Nat} (s : Stp Z H ph Z1 H1 ph1 g) : Stp Z H ph Z1 H1 (setP ph1 i g) [] :=
  ⟨s.z, s.keep, s.there, s.t, s.f, fun j a m => by
    by_cases q : j = i
    · subst q; rw [setP_same] at m; exact s.newg a m
    · rw [setP_ne q] at m; exact s.new j a m, (fun _ m => nomatch m), s.zn⟩
/-- a slot is forgotten -/
theorem FrOk.unset (F : FrOk G Z H σ fr ph) (o : Option V) (i : Nat) : FrOk G Z H (σ.set i o) (fr.set i none) (setP ph i []) where
  len := by rw [List.length_set, List.length_set, F.len]
  at_ := fun j t' e => by
    by_cases q : j = i
    · subst q
      by_cases hi : j < fr.length
      · rw [List.getElem?_set_self hi] at e
        cases e
      · rw [List.getElem?_eq_none (by rw [List.length_set]; omega)] at e
        cases e
    · rw [List.getElem?_set_ne (Ne.symm q)] at e
      rw [setP_ne q, List.getElem?_set_ne (Ne.symm q)]
      exact F.at_ j t' e
  emp := fun j e => by
    by_cases q : j = i
    · subst q
      exact setP_same
    · rw [setP_ne q]
      exact F.emp j fun t' e' => e t' (by rw [List.getElem?_set_ne (Ne.symm q)]; exact e')
  nd := fun j => by
    by_cases q : j = i
    · subst q; rw [setP_same]; exact List.nodup_nil
    · rw [setP_ne q]; exact F.nd j
  dj := fun j k a m1 m2 => by
    by_cases q : j = i
    · subst q
      rw [setP_same] at m1
      cases m1
    · rw [setP_ne q] at m1
      by_cases q2 : k = i
      · subst q2
        rw [setP_same] at m2
        cases m2
      · rw [setP_ne q2] at m2
        exact F.dj j k a m1 m2
  dz := fun j a m => by
    by_cases q : j = i
    · subst q; rw [setP_same] at m; cases m
    · rw [setP_ne q] at m; exact F.dz j a m
  zt := F.zt
end Bw

set_option maxHeartbeats 4000000
namespace Bw
open PySem PySem.Spec PyProof.Rows L2

/-- an operand: its content; whether it may still be changed through the frame -/
abbrev Opd := D × Bool
structure Exn where
  cls : Str
  fs : List (Str × D)
inductive Res (α : Type) where
  | ok (a : α) (fr : Fr)
  | exn (x : Exn) (fr : Fr)
  | stuck
abbrev M (α : Type) := Fr → Res α
def M.bind {α β : Type} (m : M α) (f : α → M β) : M β := fun fr => match m fr with
  | .ok a fr' => f a fr'
  | .exn x fr' => .exn x fr'
  | .stuck => .stuck
def M.pure {α : Type} (a : α) : M α := fun fr => .ok a fr
def M.ofO {α : Type} (o : Option α) : M α := fun fr => match o with
  | some a => .ok a fr
  | none => .stuck
def M.lift {α : Type} (f : Fr → Option α) : M α := fun fr => match f fr with
  | some a => .ok a fr
  | none => .stuck

/-! ### operations on data -/
def lineB (n : Nat) : Bool := Nat.ble n 16777216
def intOp : Operator → Int → Int → Option Int
  | .Add, i, j => some (i + j)
  | .Sub, i, j => some (i - j)
  | .Mult, i, j => if (-(2 ^ 64) < i ∧ i < 2 ^ 64) ∨ (-(2 ^ 64) < j ∧ j < 2 ^ 64) then some (i * j) else none
  | .FloorDiv, i, j => if 0 < j ∧ j < 1073741824 then some (i / j) else none
  | .Mod, i, j => if 0 < j then some (i % j) else none
  | .Pow, i, j => if 0 ≤ j ∧ j ≤ 1000000 ∧ i.natAbs < 2 ^ 64 then some (i ^ j.toNat) else none
  | .LShift, i, j => if 0 ≤ j ∧ j ≤ 1000000 ∧ i.natAbs < 2 ^ 64 then some (i * 2 ^ j.toNat) else none
  | .RShift, i, j => if 0 ≤ j then some (i / 2 ^ j.toNat) else none
  | .BitAnd, i, j => some (Builtin.bitAnd i j)
  | .BitOr, i, j => some (Builtin.bitOr i j)
  | .BitXor, i, j => some (Builtin.bitXor i j)
  | _, _, _ => none
def binD (op : Operator) (x y : Opd) : Option T := match x.1, y.1 with
  | .int i, .int j => (intOp op i j).map fun k => .d (.int k)
  | .str a, .str b => match op with
    | .Add => if lineB (a.length + b.length) then some (.d (.str (a ++ b))) else none
    | _ => none
  | .lst as, .lst bs => match op with
    | .Add => if (!x.2 || imms as) && (!y.2 || imms bs) && lineB (as.length + bs.length) then some (.lst ((as ++ bs).map .d)) else none
    | _ => none
  | _, _ => none
mutual
def pyd : D → Option PyData
  | .non => some .none
  | .bl b => some (.bool b)
  | .int i => some (.int i)
  | .str x => some (.str x)
  | .tup ds => (pyds ds).map .tuple
  | .lst ds => (pyds ds).map .list
  | .dic _ => none
  | .dit _ => none
  | .ins _ _ => none
def pyds : List D → Option (List PyData)
  | [] => some []
  | d :: r => match pyd d, pyds r with
    | some p, some ps => some (p :: ps)
    | _, _ => none
end
def eqD (x y : D) : Option Bool := match pyd x, pyd y with
  | some p, some q => if SeqAt.shaped p && SeqAt.shaped q then some (PyData.eqv p q) else none
  | _, _ => none
/-- flat: no container -/
def flatD : D → Option V
  | .non => some .non
  | .bl b => some (.bl b)
  | .int i => some (.int i)
  | .str x => some (.str x)
  | _ => none
def flatDs : List D → Option (List V)
  | [] => some []
  | d :: r => match flatD d, flatDs r with
    | some v, some vs => some (v :: vs)
    | _, _ => none
def intsD : List D → Option (List Int)
  | [] => some []
  | .int i :: r => (intsD r).map (i :: ·)
  | _ :: _ => none
def blsD : List D → Option (List Bool)
  | [] => some []
  | .bl i :: r => (blsD r).map (i :: ·)
  | _ :: _ => none
def keyD : D → Option Key
  | .int i => some (.inl i)
  | .str x => some (.inr x)
  | _ => none
def seqD : D → Option (List D)
  | .lst ds => some ds
  | .tup ds => some ds
  | _ => none
def findK {κ : Type} [DecidableEq κ] (k : κ) : List (κ × D) → Option D
  | [] => none
  | (k', d) :: r => if k' = k then some d else findK k r
def inD (x y : D) : Option Bool := match y with
  | .lst ds => (match flatD x, flatDs ds with
    | some v, some vs => some (inV v vs)
    | _, _ => none)
  | .tup ds => (match flatD x, flatDs ds with
    | some v, some vs => some (inV v vs)
    | _, _ => none)
  | .dic kvs => (keyD x).map fun k => (findK k kvs).isSome
  | _ => none
def cmpD (op : CmpOp) (x y : D) : Option Bool := match op with
  | .Eq => eqD x y
  | .NotEq => (eqD x y).map not
  | .Lt => (match x, y with | .int i, .int j => some (decide (i < j)) | _, _ => none)
  | .LtE => (match x, y with | .int i, .int j => some (decide (i ≤ j)) | _, _ => none)
  | .Gt => (match x, y with | .int i, .int j => some (decide (j < i)) | _, _ => none)
  | .GtE => (match x, y with | .int i, .int j => some (decide (j ≤ i)) | _, _ => none)
  | .In => inD x y
  | .NotIn => (inD x y).map not
  | .Is => (match y with | .non => some (match x with | .non => true | _ => false) | _ => none)
  | .IsNot => (match y with | .non => some (match x with | .non => false | _ => true) | _ => none)
def truD : D → Option Bool
  | .non => some false
  | .bl b => some b
  | .int i => some (i != 0)
  | .str y => if lineB y.length then some ((y.length : Int) != 0) else none
  | .lst ds => some (!ds.isEmpty)
  | .tup ds => some (!ds.isEmpty)
  | .dic kvs => some (!kvs.isEmpty)
  | _ => none
def idxD (x k : D) : Option D := match x, k with
  | .lst ds, .int i => atI ds i
  | .tup ds, .int i => atI ds i
  | .str z, .int i => if lineB z.length then (atI z.cps.toList i).map fun c => .str ⟨#[c]⟩ else none
  | .dic kvs, k => (keyD k).bind fun k => findK k kvs
  | _, _ => none
def lenD : D → Option Nat
  | .lst ds => some ds.length
  | .tup ds => some ds.length
  | .str z => if lineB z.length then some z.length else none
  | .dic kvs => some kvs.length
  | _ => none
/-- the built-in type of data -/
def tyD : D → Option String
  | .non => some "NoneType"
  | .bl _ => some "bool"
  | .int _ => some "int"
  | .str _ => some "str"
  | .lst _ => some "list"
  | .tup _ => some "tuple"
  | .dic _ => some "dict"
  | .dit _ => some "dict"
  | .ins _ _ => none
/-- a built-in class by its name in the text -/
def bltTy (x : Str) : Option String :=
  if x = "int" then some "int" else if x = "bool" then some "bool" else if x = "str" then some "str" else if x = "list" then some "list" else if x = "tuple" then some "tuple" else none
def isTy (x : D) (c : Str) : Option Bool := match tyD x, bltTy c with
  | some a, some b => kitB a b
  | _, _ => none
def isTys (x : D) : List Str → Option Bool
  | [] => some false
  | c :: r => match isTy x c with
    | some true => some true
    | some false => isTys x r
    | none => none
def nameE : Expr → Option Str
  | .Name x _ => some x
  | _ => none
def namesE : List Expr → Option (List Str)
  | [] => some []
  | e :: r => match nameE e, namesE r with
    | some x, some xs => some (x :: xs)
    | _, _ => none
/-- the classes of isinstance's second argument -/
def clsE : Expr → Option (Sum Str (List Str))
  | .Name x _ => some (.inl x)
  | .Tuple es _ _ => (namesE es).map .inr
  | _ => none

/-! ### own defs, the context -/
inductive CRes where
  | ok (t : T) (ps : Fr)
  | exn (x : Exn) (ps : Fr)
  | stuck
/-- where a parameter's value comes from: the k-th value written (positional, then keywords), or a default -/
abbrev Shape := List (Sum Nat D)
structure Ev where
  N : List Str
  np : Nat
  cst : Str → Option D
  shape : Str → Nat → List Str → Option Shape
  /-- may the j-th parameter be handed over by name? -/
  byref : Str → Nat → Bool
  call : Str → List T → CRes
  /-- own exceptions of one field -/
  exs : Str → Option Str
  /-- built-in names that the module does not bind -/
  blt : Str → Bool
def kindOf (sc : Scope) (x : Str) : Option NameKind := sc.names.lookup x
def isSlot (sc : Scope) (x : Str) : Bool := match sc.names.lookup x with
  | some .local => true
  | some .cell => true
  | some .free => true
  | _ => false
def isGlob (sc : Scope) (x : Str) : Bool := match sc.names.lookup x with
  | some .globalImplicit => true
  | _ => false
def okName (x : Str) : Bool := decide (x ≠ "__debug__") && decide (x ≠ "__classdict__") && decide (x ≠ "__name__")
def slotOf (N : List Str) (x : Str) : Option Nat := if N[N.idxOf x]? = some x then some (N.idxOf x) else none
def getS (fr : Fr) (i : Nat) : Option T := match fr[i]? with
  | some (some t) => some t
  | _ => none
def opdT : T → Opd
  | .d x => (x, false)
  | t => (fz t, true)
def nameP (E : Ev) (sc : Scope) (fr : Fr) (x : Str) : Option Opd :=
  if !okName x then none else
  if isSlot sc x then (slotOf E.N x).bind fun i => (getS fr i).map opdT
  else if isGlob sc x then (E.cst x).map fun d => (d, false) else none
def constD : Const → Option D
  | .none => some .non
  | .bool b => some (.bl b)
  | .int i => some (.int i)
  | .str s => some (.str s)
  | _ => none
def isSlice : Expr → Bool
  | .Slice .. => true
  | _ => false
def isSet : Expr → Bool
  | .Set .. => true
  | _ => false
def isGl (E : Ev) (sc : Scope) (f : Expr) (x : Str) : Bool := match f with
  | .Name y _ => decide (y = x) && isGlob sc y && E.blt y
  | _ => false
/-- the data of operands that go into a tuple -/
def frzs : List Opd → Option (List D)
  | [] => some []
  | (d, p) :: r => if !p || imm d then (frzs r).map (d :: ·) else none
/-- a pure operand: nothing changes -/
def evP (E : Ev) (sc : Scope) (fr : Fr) : Nat → Expr → Option Opd
  | 0, _ => none
  | n + 1, .Constant c _ _ => (constD c).map fun d => (d, false)
  | n + 1, .Name x _ => nameP E sc fr x
  | n + 1, .Subscript o i _ => if isSlice i then none else (evP E sc fr n o).bind fun x => (evP E sc fr n i).bind fun k => (idxD x.1 k.1).map fun d => (d, x.2)
  | n + 1, .BinOp a op b _ => (evP E sc fr n a).bind fun x => (evP E sc fr n b).bind fun y => (binD op x y).bind fun t => match t with
    | .d z => some (z, false)
    | _ => none
  | n + 1, .UnaryOp op a _ => match op with
    | .USub => (evP E sc fr n a).bind fun x => match x.1 with | .int i => some (.int (-i), false) | _ => none
    | .Not => (evP E sc fr n a).bind fun x => (truD x.1).map fun b => (.bl (!b), false)
    | _ => none
  | n + 1, .Compare a ops bs _ => (evP E sc fr n a).bind fun x => match ops, bs with
    | [op], [b] => (evP E sc fr n b).bind fun y => (cmpD op x.1 y.1).map fun k => (.bl k, false)
    | [op, op'], [b, c] => if isSet c then none else (evP E sc fr n b).bind fun y => (cmpD op x.1 y.1).bind fun k => if k then (evP E sc fr n c).bind fun z => (cmpD op' y.1 z.1).map fun k' => (.bl k', false) else some (.bl false, false)
    | _, _ => none
  | n + 1, .BoolOp op es pos => match es with
    | [] => none
    | a :: r => match r with
      | [] => evP E sc fr n a
      | b :: r' => (evP E sc fr n a).bind fun x => (truD x.1).bind fun k => match op with
        | .And => if k then evP E sc fr n (.BoolOp .And (b :: r') pos) else some x
        | .Or => if k then some x else evP E sc fr n (.BoolOp .Or (b :: r') pos)
  | n + 1, .IfExp t a b _ => (evP E sc fr n t).bind fun x => (truD x.1).bind fun k => if k then evP E sc fr n a else evP E sc fr n b
  | n + 1, .Tuple es _ _ => (es.mapM (evP E sc fr n)).bind fun xs => (frzs xs).bind fun ds => if lineB ds.length then some (.tup ds, false) else none
  | n + 1, .Call f as [] _ => match as with
    | [a] => if isGl E sc f "len" then (evP E sc fr n a).bind fun x => (lenD x.1).map fun (k : Nat) => (D.int (k : Int), false) else none
    | [a, c] => if isGl E sc f "isinstance" then (evP E sc fr n a).bind fun x => match clsE c with
        | some (.inl y) => if isGlob sc y && E.blt y then (isTy x.1 y).map fun b => (.bl b, false) else none
        | some (.inr ys) => if ys.all (fun y => isGlob sc y && E.blt y) && ys.all (fun y => (bltTy y).isSome) && !ys.isEmpty && decide (ys.length ≤ 100) then (isTys x.1 ys).map fun b => (.bl b, false) else none
        | none => none
      else none
    | _ => none
  | _ + 1, _ => none
end Bw

set_option maxHeartbeats 4000000
namespace Bw
open PySem PySem.Spec PyProof.Rows L2

def ZP (Z : Addr → Prop) (ph : Nat → List Addr) : Addr → Prop := fun a => Z a ∨ ∃ i, a ∈ ph i
/-- an operand's content at a value -/
def RO (G : Gx) (Z : Addr → Prop) (ph : Nat → List Addr) (H : Hp) (o : Opd) (v : V) : Prop := if o.2 = true then RD G (ZP Z ph) H o.1 v else RD G Z H o.1 v
def Grow (H H' : Hp) : Prop := ∀ a o, H a = some o → H' a = some o
theorem Grow.refl {H : Hp} : Grow H H := fun _ _ h => h
theorem Grow.trans {H H1 H2 : Hp} (a : Grow H H1) (b : Grow H1 H2) : Grow H H2 := fun x o h => b x o (a x o h)
theorem Grow.sub {H H' : Hp} {P : Addr → Prop} (k : Grow H H') : Sub P H P H' := ⟨fun a o p e => ⟨p, k a o e⟩, fun a xs e => k a _ e, fun a o u e => k a _ e⟩
theorem Grow.none_of {H H' : Hp} (k : Grow H H') {a : Addr} (h : H' a = none) : H a = none := by
  cases e : H a with
  | none => rfl
  | some o =>
    have := k a o e
    rw [h] at this
    cases this
/-- the fixed ground of an evaluation -/
structure Lk (G : Gx) (E : Ev) (X : Cx) (sc : Scope) : Prop where
  K : X.K = G.K
  N : X.N = E.N
  nd : X.N.Nodup
  sc : X.env.scope = sc
  hu : X.A.units + 65 < cLine
  cst : ∀ x d, E.cst x = some d → ∃ u v, X.mg x = some u ∧ RelV v u ∧ ∀ H, RD G (fun _ => False) H d v
  blt : ∀ x, E.blt x = true → X.mg x = none

variable {G : Gx} {E : Ev} {X : Cx} {sc : Scope} {Z Z' : Addr → Prop} {H H' : Hp} {σ : L2.St} {fr : Fr} {ph : Nat → List Addr} {o : Opd} {v : V} {d : D}

theorem RO.grow (k : Grow H H') (h : RO G Z ph H o v) : RO G Z ph H' o v := by
  unfold RO at *
  split
  · rename_i e; rw [if_pos e] at h; exact h.mono k.sub
  · rename_i e; rw [if_neg e] at h; exact h.mono k.sub
theorem RO.any (h : RO G Z ph H o v) : RD G (ZP Z ph) H o.1 v := by
  unfold RO at h
  split at h
  · exact h
  · exact h.mono (sub_or fun a p => .inl p)
theorem RO.of (h : RD G Z H d v) : RO G Z ph H (d, false) v := by
  unfold RO
  rw [if_neg (by simp)]
  exact h
theorem RO.frz (h : RO G Z ph H o v) (e : (!o.2 || imm o.1) = true) : RD G Z H o.1 v := by
  unfold RO at h
  split at h
  · rename_i q
    rw [q] at e
    exact h.imm ⟨fun _ _ _ e => e⟩ (by simpa using e)
  · exact h
theorem RD.false (h : RD G (fun _ => False) H d v) : RD G Z H d v := h.mono ⟨fun _ _ p => p.elim, fun _ _ e => e, fun _ _ _ e => e⟩
theorem peI {e : Expr} {t t' : TE} (h : PE X e t) (i : ∀ σ H Q, t' σ H Q → t σ H Q) : PE X e t' := ⟨fun pins s σ H Q I q => h.run pins s σ H Q I (i σ H Q q)⟩
theorem ptI {e : Expr} {t t' : TT} (h : PT X e t) (i : ∀ σ H Q, t' σ H Q → t σ H Q) : PT X e t' := ⟨fun pins s σ H Q I q => h.run pins s σ H Q I (i σ H Q q)⟩

/-- the reading of a pure operand -/
def tP (G : Gx) (m : Fr → Option Opd) : TE := fun σ H Q => ∃ Z fr ph o, FrOk G Z H σ fr ph ∧ m fr = some o ∧ ∀ v H', Grow H H' → RO G Z ph H' o v → Q v H'
/-- .. of several -/
def tPs (G : Gx) (m : Fr → Option (List Opd)) : TA := fun σ H Q => ∃ Z fr ph os, FrOk G Z H σ fr ph ∧ m fr = some os ∧ ∀ vs H', Grow H H' → Paired (fun o v => RO G Z ph H' o v) os vs → Q vs H'
theorem pe_none {e : Expr} {t : TE} (h : ∀ σ H Q, ¬ t σ H Q) : PE X e t := ⟨fun _ _ σ H Q _ q => (h σ H Q q).elim⟩

/-- a tuple displayed: an object without a dict -/
def tTupZ (t : TA) : TE := fun σ H Q => t σ H fun xs H1 => xs.length ≤ sizeLine ∧ ∀ (p : Addr) (o : Obj), H1 p = none → o.dict = none → Q (.ref p) (upd H1 p (.frz o (.tup xs)))
theorem pe_tupZ {es : List Expr} {k : Nat} {pos : Pos} {t : TA} (h : PA X es t) : PE X (.Tuple es k pos) (tTupZ t) := by
  refine ⟨fun pins s σ H Q I hq => ?_⟩
  refine wpAny_Tuple_spliced (thn (h.run pos pins s σ H _ I hq) fun us s1 ⟨xs, H1, I1, r, z, q⟩ => ⟨by rw [← r.length]; exact z, ?_⟩)
  have hf : H1 s1.heap.objs.size = none := I1.hok.fresh (Nat.le_refl _)
  refine ⟨.ref s1.heap.objs.size, upd H1 s1.heap.objs.size (.frz _ (.tup xs)), I1.laid (t' := s1.toks) (fun b u e => Heap.get?_push_of_some _ e) (Nat.le_refl _) ⟨Heap.get?_push_size _ rfl, ?_⟩, rfl, q _ _ hf rfl⟩
  exact ⟨z, us, r, ⟨_, Heap.get?_push_size _ rfl, rfl, _, rfl⟩⟩
/-! ### by values -/
theorem flat_rd {P : Addr → Prop} : ∀ {d : D} {v w : V}, RD G P H d v → flatD d = some w → w = v ∧ flatV v = true
  | _, _, _, .non, e => by cases e; exact ⟨rfl, rfl⟩
  | _, _, _, .bl b, e => by cases e; exact ⟨rfl, rfl⟩
  | _, _, _, .int i, e => by cases e; exact ⟨rfl, rfl⟩
  | _, _, _, .str x, e => by cases e; exact ⟨rfl, rfl⟩
  | _, _, _, .tup _ _, e => by cases e
  | _, _, _, .lst _ _, e => by cases e
  | _, _, _, .dic _ _ _ _, e => by cases e
  | _, _, _, .dit _ _ _ _, e => by cases e
  | _, _, _, .ins _ _ _ _ _, e => by cases e
theorem flats_rd {P : Addr → Prop} : ∀ {ds : List D} {vs ws : List V}, RDs G P H ds vs → flatDs ds = some ws → ws = vs ∧ vs.all flatV = true
  | _, _, _, .nil, e => by cases e; exact ⟨rfl, rfl⟩
  | _, _, _, .cons (d := d) (ds := ds) h r, e => by
    rw [flatDs] at e
    split at e
    · rename_i v vs e1 e2
      cases e
      obtain ⟨q1, q2⟩ := flat_rd h e1
      obtain ⟨q3, q4⟩ := flats_rd r e2
      subst q1 q3
      exact ⟨rfl, by rw [List.all_cons, q2, q4]; rfl⟩
    · cases e
mutual
theorem pyd_dp {P : Addr → Prop} : ∀ {d : D} {v : V} {p : PyData}, RD G P H d v → pyd d = some p → Dp G.K H v p
  | _, _, _, .non, e => by cases e; exact .non
  | _, _, _, .bl b, e => by cases e; exact .bl b
  | _, _, _, .int i, e => by cases e; exact .int i
  | _, _, _, .str x, e => by cases e; exact .str x
  | _, _, _, .tup h r, e => by
    rw [pyd, Option.map_eq_some_iff] at e
    obtain ⟨ps, e, rfl⟩ := e
    exact .tup h.sq (pyds_dp r e)
  | _, _, _, .lst h r, e => by
    rw [pyd, Option.map_eq_some_iff] at e
    obtain ⟨ps, e, rfl⟩ := e
    exact .lst h.sq (pyds_dp r e)
  | _, _, _, .dic _ _ _ _, e => by rw [pyd] at e; cases e
  | _, _, _, .dit _ _ _ _, e => by rw [pyd] at e; cases e
  | _, _, _, .ins _ _ _ _ _, e => by rw [pyd] at e; cases e
theorem pyds_dp {P : Addr → Prop} : ∀ {ds : List D} {vs : List V} {ps : List PyData}, RDs G P H ds vs → pyds ds = some ps → DpAll G.K H vs ps
  | _, _, _, .nil, e => by cases e; exact .nil
  | _, _, _, .cons (d := d) (ds := ds) h r, e => by
    rw [pyds] at e
    split at e
    · rename_i p ps e1 e2
      cases e
      exact .cons (pyd_dp h e1) (pyds_dp r e2)
    · cases e
end
theorem lineB_le {n : Nat} (h : lineB n = true) : n ≤ sizeLine := by
  rw [sizeLine_eq]
  exact Nat.le_of_ble_eq_true h
/-- the answer of an operation: a new owned tree or data; the heap has grown -/
def Ans (G : Gx) (Z : Addr → Prop) (H : Hp) (t : T) (Q : VK) : Prop := ∀ v H' g, Grow H H' → RT G Z H' t v g → g.Nodup → (∀ a, a ∈ g → H a = none) → (∀ a, a ∈ g → ∃ o, H' a = some o) → Q v H'
theorem Ans.data {Q : VK} (h : Ans G Z H (.d d) Q) {v : V} (r : RD G Z H d v) : Q v H := h v H [] Grow.refl (.d r) List.nodup_nil (fun _ m => nomatch m) (fun _ m => nomatch m)
def rBin (G : Gx) (op : Operator) : R2 := fun x y H Q => ∃ Z ph o1 o2 t, RO G Z ph H o1 x ∧ RO G Z ph H o2 y ∧ binD op o1 o2 = some t ∧ Ans G Z H t Q
theorem rts_d {ds : List D} {vs : List V} (r : RDs G Z H ds vs) : RTs G Z H (ds.map .d) vs [] := by
  induction ds generalizing vs with
  | nil => cases r; exact .nil
  | cons d ds ih =>
    cases r with
    | cons h r =>
      have := RTs.cons (.d h) (ih r)
      exact this
theorem ans_lst {Q : VK} {ds : List D} {vs : List V} (h : Ans G Z H (.lst (ds.map .d)) Q) (r : RDs G Z H ds vs) {p : Addr} (hp : H p = none) : Q (.ref p) (upd H p (.lst vs)) :=
  h _ _ [p] (keep_upd hp) (.lst upd_same (rts_d (r.mono (Grow.sub (keep_upd hp))))) (by simp) (fun a m => by
    rw [List.mem_singleton] at m
    subst m
    exact hp) (fun a m => by
    rw [List.mem_singleton] at m
    subst m
    exact ⟨_, upd_same⟩)
theorem ans_tup {Q : VK} {ds : List D} {vs : List V} (h : Ans G Z H (.d (.tup ds)) Q) (r : RDs G Z H ds vs) {p : Addr} {o : Obj} (hp : H p = none) (ho : o.dict = none) : Q (.ref p) (upd H p (.frz o (.tup vs))) :=
  h _ _ [] (keep_upd hp) (.d (rd_tup r hp ho)) List.nodup_nil (fun _ m => nomatch m) (fun _ m => nomatch m)
theorem rds_frz {p : Bool} {ds : List D} {vs : List V} {P : Addr → Prop} (hp : p = false → P = Z) (r : RDs G P H ds vs) (e : (!p || imms ds) = true) : RDs G Z H ds vs := by
  cases p with
  | false => rw [hp rfl] at r; exact r
  | true => exact r.imm ⟨fun _ _ _ e => e⟩ (by simpa using e)
/-- list + list, whichever they are -/
theorem op_catS : OpR X (binaryOp .Add) (fun x y H Q => ∃ l b xs zs, x = .ref l ∧ y = .ref b ∧ SqL X.K H l xs ∧ SqL X.K H b zs ∧ xs.length + zs.length ≤ sizeLine ∧ ∀ p, H p = none → Q (.ref p) (upd H p (.lst (xs ++ zs)))) := by
  intro pins s σ H x y v u Q I rx ry h
  obtain ⟨l, b, xs, zs, rfl, rfl, hH, hB, hz, q⟩ := h
  cases rx
  cases ry
  obtain ⟨its, r, pl, _⟩ := I.list hH
  obtain ⟨its2, r2, pl2, _⟩ := I.list hB
  have hl := r.length
  have hl2 := r2.length
  obtain ⟨⟨cls, dd, data, sl⟩, ho, hc, n, hd⟩ := pl.isList
  obtain ⟨⟨cls2, dd2, data2, sl2⟩, ho2, hc2, n2, hd2⟩ := pl2.isList
  simp only at hc hd hc2 hd2
  subst hc hd hc2 hd2
  have e : its.toArray ++ its2.toArray = (its ++ its2).toArray := by simp
  refine concat_meets ⟨_, ho, rfl⟩ ⟨_, ho2, rfl⟩ noFill_list_add seq_list_add PySem.F.slot_list_add PySem.F.entry_list_add (PySem.F.args_list_add_2 _ _) (list_addW l b its.toArray its2.toArray n n2 dd dd2 sl sl2 (by rw [List.size_toArray, List.size_toArray]; omega)) ⟨ho, ho2, ?_⟩
  rw [e]
  exact ⟨.ref _, _, I.lnew (t' := s.toks) (r.append r2) (by rw [List.length_append]; omega), rfl, q _ I.fresh⟩
/-- all two-place operators -/
theorem op_bin {op : Operator} (hK : X.K = G.K) : OpR X (binaryOp op) (rBin G op) := by
  intro pins s σ H x y v u Q I rx ry h
  obtain ⟨Z, ph, ⟨d1, p1⟩, ⟨d2, p2⟩, t, r1, r2, e, q⟩ := h
  unfold binD at e
  have a1 := r1.any
  have a2 := r2.any
  cases d1 with
  | int i =>
    cases a1
    cases d2 with
    | int j =>
      cases a2
      simp only [Option.map_eq_some_iff] at e
      obtain ⟨k, e, rfl⟩ := e
      have q' : Q (.int k) H := q.data (.int k)
      cases op <;> simp only [intOp] at e
      · cases e; exact op_add pins s σ H _ _ v u Q I rx ry ⟨i, j, rfl, rfl, q'⟩
      · cases e; exact op_sub pins s σ H _ _ v u Q I rx ry ⟨i, j, rfl, rfl, q'⟩
      · split at e
        · rename_i c; cases e; exact op_mul pins s σ H _ _ v u Q I rx ry ⟨i, j, rfl, rfl, c, q'⟩
        · cases e
      · cases e
      · cases e
      · split at e
        · rename_i c; cases e; exact op_mod pins s σ H _ _ v u Q I rx ry ⟨i, j, rfl, rfl, c, q'⟩
        · cases e
      · split at e
        · rename_i c; cases e; exact op_pow pins s σ H _ _ v u Q I rx ry ⟨i, j, rfl, rfl, c, q'⟩
        · cases e
      · split at e
        · rename_i c; cases e; exact op_shl pins s σ H _ _ v u Q I rx ry ⟨i, j, rfl, rfl, c, q'⟩
        · cases e
      · split at e
        · rename_i c; cases e; exact op_shr pins s σ H _ _ v u Q I rx ry ⟨i, j, rfl, rfl, c, q'⟩
        · cases e
      · cases e; exact op_or pins s σ H _ _ v u Q I rx ry ⟨i, j, rfl, rfl, q'⟩
      · cases e; exact op_xor pins s σ H _ _ v u Q I rx ry ⟨i, j, rfl, rfl, q'⟩
      · cases e; exact op_and pins s σ H _ _ v u Q I rx ry ⟨i, j, rfl, rfl, q'⟩
      · split at e
        · rename_i c; cases e; exact op_fdiv pins s σ H _ _ v u Q I rx ry ⟨i, j, rfl, rfl, c, q'⟩
        · cases e
    | _ => cases e
  | str a =>
    cases a1
    cases d2 with
    | str b =>
      cases a2
      cases op <;> simp only at e <;> first
        | (cases e; done)
        | skip
      split at e
      · rename_i c
        cases e
        exact op_add_str pins s σ H _ _ v u Q I rx ry ⟨a, b, rfl, rfl, lineB_le c, q.data (.str _)⟩
      · cases e
    | _ => cases e
  | lst as =>
    cases a1 with
    | lst h1 s1 =>
    rename_i l vs
    cases d2 with
    | lst bs =>
      cases a2 with
      | lst h2 s2 =>
      rename_i b ws
      cases op <;> simp only at e <;> first
        | (cases e; done)
        | skip
      split at e
      · rename_i c
        cases e
        simp only [Bool.and_eq_true] at c
        have hl := lineB_le c.2
        have z1 : RDs G Z H as vs := by
          cases p1 with
          | false => cases (show RD G Z H (.lst as) (.ref l) from r1) with
            | lst h3 s3 =>
              have e3 := h1.sq
              have e4 := h3.sq
              rw [← hK] at e3 e4
              rw [I.list_inj e3 e4]
              exact s3
          | true => exact s1.imm ⟨fun _ _ _ e => e⟩ (by simpa using c.1.1)
        have z2 : RDs G Z H bs ws := by
          cases p2 with
          | false => cases (show RD G Z H (.lst bs) (.ref b) from r2) with
            | lst h3 s3 =>
              have e3 := h2.sq
              have e4 := h3.sq
              rw [← hK] at e3 e4
              rw [I.list_inj e3 e4]
              exact s3
          | true => exact s2.imm ⟨fun _ _ _ e => e⟩ (by simpa using c.1.2)
        refine op_catS pins s σ H _ _ v u Q I rx ry ⟨l, b, vs, ws, rfl, rfl, by rw [hK]; exact h1.sq, by rw [hK]; exact h2.sq, by rw [← s1.length, ← s2.length]; exact hl, fun p hp => ans_lst q (z1.append z2) hp⟩
      · cases e
    | int k =>
      cases a2
      cases e
    | _ => cases e
  | tup as =>
    cases a1 with
    | tup h1 s1 =>
    rename_i l vs
    cases d2 with
    | tup bs =>
      cases a2 with
      | tup h2 s2 =>
      cases e
    | _ => cases e
  | _ => cases e
end Bw

set_option maxHeartbeats 4000000
namespace Bw
open PySem PySem.Spec PyProof.Rows L2
variable {G : Gx} {E : Ev} {X : Cx} {sc : Scope} {Z Z' : Addr → Prop} {H H' : Hp} {σ : L2.St} {fr : Fr} {ph : Nat → List Addr} {o : Opd} {v : V} {d : D}

/-- the content at a value, by whatever addresses -/
def RA (G : Gx) (H : Hp) (d : D) (v : V) : Prop := ∃ P, RD G P H d v
theorem RO.ra (h : RO G Z ph H o v) : RA G H o.1 v := ⟨_, h.any⟩
theorem RA.grow (k : Grow H H') (h : RA G H d v) : RA G H' d v := let ⟨P, h⟩ := h; ⟨P, h.mono k.sub⟩

theorem find_kv {P : Addr → Prop} (k : Key) : ∀ {kvs : List (Key × D)} {ws : List (Key × V)}, kvs.map (·.1) = ws.map (·.1) → RDs G P H (kvs.map (·.2)) (ws.map (·.2)) →
    (findK k kvs = none ∧ valV ws k = none) ∨ ∃ d v, findK k kvs = some d ∧ valV ws k = some v ∧ RD G P H d v
  | [], [], _, _ => .inl ⟨rfl, rfl⟩
  | [], _ :: _, e, _ => by cases e
  | _ :: _, [], e, _ => by cases e
  | (k1, d1) :: kvs, (k2, v2) :: ws, e, r => by
    simp only [List.map_cons] at e r
    injection e with e1 e2
    subst e1
    cases r with
    | cons h r =>
      by_cases q : k1 = k
      · refine .inr ⟨d1, v2, ?_, ?_, h⟩
        · rw [findK, if_pos q]
        · simp [valV, q]
      · rcases find_kv k e2 r with ⟨a, b⟩ | ⟨d, v, a, b, c⟩
        · refine .inl ⟨?_, ?_⟩
          · rw [findK, if_neg q]; exact a
          · simpa [valV, q] using b
        · refine .inr ⟨d, v, ?_, ?_, c⟩
          · rw [findK, if_neg q]; exact a
          · simpa [valV, q] using b
theorem key_rd {P : Addr → Prop} : ∀ {d : D} {v : V} {k : Key}, RD G P H d v → keyD d = some k → v = kV k
  | _, _, _, .non, e => by cases e
  | _, _, _, .bl b, e => by cases e
  | _, _, _, .int i, e => by cases e; rfl
  | _, _, _, .str x, e => by cases e; rfl
  | _, _, _, .tup _ _, e => by cases e
  | _, _, _, .lst _ _, e => by cases e
  | _, _, _, .dic _ _ _ _, e => by cases e
  | _, _, _, .dit _ _ _ _, e => by cases e
  | _, _, _, .ins _ _ _ _ _, e => by cases e

def rCmp (G : Gx) (op : CmpOp) : R2 := fun x y H Q => ∃ d e k, RA G H d x ∧ RA G H e y ∧ cmpD op d e = some k ∧ Q (.bl k) H
def rIn' (G : Gx) (neg : Bool) : R2 := fun x y H Q => ∃ d e k, RA G H d x ∧ RA G H e y ∧ inD d e = some k ∧ Q (.bl (if neg = true then !k else k)) H
theorem op_inG (hK : X.K = G.K) (hu : X.A.units + 65 < cLine) : OpR X (compareOp .In) (rIn' G false) := by
  intro pins s σ H x y v u Q I rx ry h
  obtain ⟨d, e, k, ⟨P, h1⟩, ⟨P2, h2⟩, hk, q⟩ := h
  have q : Q (.bl k) H := q
  cases h2 with
  | lst hl r =>
    rw [inD] at hk
    split at hk
    · rename_i w ws e1 e2
      cases hk
      obtain ⟨f1, f2⟩ := flat_rd h1 e1
      obtain ⟨f3, f4⟩ := flats_rd r e2
      subst f1 f3
      exact op_in_seq pins s σ H _ _ v u Q I rx ry ⟨_, _, rfl, .inl (by rw [hK]; exact hl.sq), f2, f4, q⟩
    · cases hk
  | tup hl r =>
    rw [inD] at hk
    split at hk
    · rename_i w ws e1 e2
      cases hk
      obtain ⟨f1, f2⟩ := flat_rd h1 e1
      obtain ⟨f3, f4⟩ := flats_rd r e2
      subst f1 f3
      exact op_in_seq pins s σ H _ _ v u Q I rx ry ⟨_, _, rfl, .inr (by rw [hK]; exact hl.sq), f2, f4, q⟩
    · cases hk
  | @dic a kvs ws p hd e r =>
    rw [inD, Option.map_eq_some_iff] at hk
    obtain ⟨k', e1, hk⟩ := hk
    have ev := key_rd h1 e1
    subst ev
    cases (show u = Value.ref _ from ry)
    refine d_in (by omega) I (DGet.k hd) rx fun s' I' => ⟨.bl k, H, I', ?_, q⟩
    rcases find_kv k' e r with ⟨f1, f2⟩ | ⟨d', v', f1, f2, _⟩
    · rw [f1] at hk; rw [f2]; subst hk; rfl
    · rw [f1] at hk; rw [f2]; subst hk; rfl
  | _ => cases hk
theorem op_notInG (hK : X.K = G.K) (hu : X.A.units + 65 < cLine) : OpR X (compareOp .NotIn) (rIn' G true) := by
  intro pins s σ H x y v u Q I rx ry h
  obtain ⟨d, e, k, ⟨P, h1⟩, ⟨P2, h2⟩, hk, q⟩ := h
  have q : Q (.bl (!k)) H := q
  cases h2 with
  | lst hl r =>
    rw [inD] at hk
    split at hk
    · rename_i w ws e1 e2
      cases hk
      obtain ⟨f1, f2⟩ := flat_rd h1 e1
      obtain ⟨f3, f4⟩ := flats_rd r e2
      subst f1 f3
      exact op_notIn_seq pins s σ H _ _ v u Q I rx ry ⟨_, _, rfl, .inl (by rw [hK]; exact hl.sq), f2, f4, q⟩
    · cases hk
  | tup hl r =>
    rw [inD] at hk
    split at hk
    · rename_i w ws e1 e2
      cases hk
      obtain ⟨f1, f2⟩ := flat_rd h1 e1
      obtain ⟨f3, f4⟩ := flats_rd r e2
      subst f1 f3
      exact op_notIn_seq pins s σ H _ _ v u Q I rx ry ⟨_, _, rfl, .inr (by rw [hK]; exact hl.sq), f2, f4, q⟩
    · cases hk
  | @dic a kvs ws p hd e r =>
    rw [inD, Option.map_eq_some_iff] at hk
    obtain ⟨k', e1, hk⟩ := hk
    have ev := key_rd h1 e1
    subst ev
    cases (show u = Value.ref _ from ry)
    refine d_notIn (by omega) I (DGet.k hd) rx fun s' I' => ⟨.bl (!k), H, I', ?_, q⟩
    rcases find_kv k' e r with ⟨f1, f2⟩ | ⟨d', v', f1, f2, _⟩
    · rw [f1] at hk; rw [f2]; subst hk; rfl
    · rw [f1] at hk; rw [f2]; subst hk; rfl
  | _ => cases hk
theorem op_cmp {op : CmpOp} (hK : X.K = G.K) (hu : X.A.units + 65 < cLine) : OpR X (compareOp op) (rCmp G op) := by
  intro pins s σ H x y v u Q I rx ry h
  obtain ⟨d, e, k, ⟨P, h1⟩, ⟨P2, h2⟩, hk, q⟩ := h
  cases op with
  | Eq =>
    simp only [cmpD, eqD] at hk
    split at hk
    · rename_i p p' e1 e2
      split at hk
      · rename_i c
        rw [Bool.and_eq_true] at c
        cases hk
        exact op_eqD (by omega) pins s σ H _ _ v u Q I rx ry ⟨p, p', by rw [hK]; exact pyd_dp h1 e1, by rw [hK]; exact pyd_dp h2 e2, c.1, c.2, q⟩
      · cases hk
    · cases hk
  | NotEq =>
    simp only [cmpD, eqD, Option.map_eq_some_iff] at hk
    obtain ⟨k', hk, ek⟩ := hk
    split at hk
    · rename_i p p' e1 e2
      split at hk
      · rename_i c
        rw [Bool.and_eq_true] at c
        cases hk
        subst ek
        exact op_neD (by omega) pins s σ H _ _ v u Q I rx ry ⟨p, p', by rw [hK]; exact pyd_dp h1 e1, by rw [hK]; exact pyd_dp h2 e2, c.1, c.2, q⟩
      · cases hk
    · cases hk
  | Lt =>
    simp only [cmpD] at hk
    split at hk
    · cases h1; cases h2; cases hk
      exact op_lt pins s σ H _ _ v u Q I rx ry ⟨_, _, rfl, rfl, q⟩
    · cases hk
  | LtE =>
    simp only [cmpD] at hk
    split at hk
    · cases h1; cases h2; cases hk
      exact op_le pins s σ H _ _ v u Q I rx ry ⟨_, _, rfl, rfl, q⟩
    · cases hk
  | Gt =>
    simp only [cmpD] at hk
    split at hk
    · cases h1; cases h2; cases hk
      exact op_gt pins s σ H _ _ v u Q I rx ry ⟨_, _, rfl, rfl, q⟩
    · cases hk
  | GtE =>
    simp only [cmpD] at hk
    split at hk
    · cases h1; cases h2; cases hk
      exact op_ge pins s σ H _ _ v u Q I rx ry ⟨_, _, rfl, rfl, q⟩
    · cases hk
  | In => exact op_inG hK hu pins s σ H _ _ v u Q I rx ry ⟨d, e, k, ⟨P, h1⟩, ⟨P2, h2⟩, hk, q⟩
  | NotIn =>
    simp only [cmpD, Option.map_eq_some_iff] at hk
    obtain ⟨k', hk, ek⟩ := hk
    subst ek
    exact op_notInG hK hu pins s σ H _ _ v u Q I rx ry ⟨d, e, k', ⟨P, h1⟩, ⟨P2, h2⟩, hk, q⟩
  | Is =>
    simp only [cmpD] at hk
    split at hk
    · cases h2
      cases hk
      refine op_isN pins s σ H _ _ v u Q I rx ry ⟨rfl, ?_⟩
      cases h1 <;> exact q
    · cases hk
  | IsNot =>
    simp only [cmpD] at hk
    split at hk
    · cases h2
      cases hk
      refine op_notN pins s σ H _ _ v u Q I rx ry ⟨rfl, ?_⟩
      cases h1 <;> exact q
    · cases hk
/-- the item of a list, a tuple, a text, a dict -/
def rIxG (G : Gx) : R2 := fun x y H Q => ∃ P d e r, RD G P H d x ∧ RA G H e y ∧ idxD d e = some r ∧ ∀ v, RD G P H r v → Q v H
theorem atI_rd {P : Addr → Prop} {ds : List D} {vs : List V} {i : Int} {r : D} (h : RDs G P H ds vs) (e : atI ds i = some r) : ∃ v, atI vs i = some v ∧ RD G P H r v := by
  unfold atI at *
  rw [Option.bind_eq_some_iff] at e
  obtain ⟨j, e1, e2⟩ := e
  obtain ⟨v, e3, hv⟩ := h.get e2
  rw [h.length] at e1
  exact ⟨v, by rw [e1]; exact e3, hv⟩
theorem ix_G (hK : X.K = G.K) (hu : X.A.units + 65 < cLine) : IxR X (rIxG G) := by
  intro value slice pins s σ H x y v u Q I rx ry h hs
  obtain ⟨P, d, e, r, h1, ⟨P2, h2⟩, hk, q⟩ := h
  cases h1 with
  | lst hl rs =>
    cases h2 with
    | int i =>
      obtain ⟨w, e1, rw'⟩ := atI_rd rs hk
      exact ix_list value slice pins s σ H _ _ v u Q I rx ry ⟨_, _, i, w, rfl, rfl, by rw [hK]; exact hl.sq, e1, q w rw'⟩ hs
    | _ => cases hk
  | tup hl rs =>
    cases h2 with
    | int i =>
      obtain ⟨w, e1, rw'⟩ := atI_rd rs hk
      exact ix_tup value slice pins s σ H _ _ v u Q I rx ry ⟨_, _, i, w, rfl, rfl, by rw [hK]; exact hl.sq, e1, q w rw'⟩ hs
    | _ => cases hk
  | str z =>
    cases h2 with
    | int i =>
      simp only [idxD] at hk
      split at hk
      · rename_i c
        rw [Option.map_eq_some_iff] at hk
        obtain ⟨c', e1, e2⟩ := hk
        subst e2
        exact ix_str value slice pins s σ H _ _ v u Q I rx ry ⟨z, i, c', rfl, rfl, lineB_le c, e1, q _ (.str _)⟩ hs
      · cases hk
    | _ => cases hk
  | @dic a kvs ws p hd e1 rs =>
    have hk : (keyD e).bind (fun k => findK k kvs) = some r := by
      cases h2 <;> exact hk
    rw [Option.bind_eq_some_iff] at hk
    obtain ⟨k', e2, e3⟩ := hk
    have ev := key_rd h2 e2
    subst ev
    cases (show v = Value.ref _ from rx)
    rcases find_kv k' e1 rs with ⟨f1, f2⟩ | ⟨d', v', f1, f2, f3⟩
    · rw [f1] at e3; cases e3
    · rw [f1] at e3
      cases e3
      have g : DGet H a (kV k') (some v') := by rw [← f2]; exact DGet.k hd
      exact tail_any (dict_typeIs I g) PySem.F.slot_dict_getitem.lookup (d_getItem (by omega) I g ry fun w' s3 I3 rw' => ⟨v', H, I3, rw', q _ f3⟩) hs
  | _ => cases h2 <;> cases hk
theorem tru_rd {P : Addr → Prop} {d : D} {v : V} {k : Bool} (h : RD G P H d v) (e : truD d = some k) : TruV G.K v H k := by
  cases h with
  | non => cases e; rfl
  | bl b => cases e; rfl
  | int i => cases e; rfl
  | str x =>
    rw [truD] at e
    split at e
    · rename_i c; cases e; exact ⟨lineB_le c, rfl⟩
    · cases e
  | tup hl r =>
    cases e
    refine .inr (.inl ⟨_, hl.sq, ?_⟩)
    cases r <;> rfl
  | lst hl r =>
    cases e
    refine .inl ⟨_, hl.sq, ?_⟩
    cases r <;> rfl
  | @dic a kvs ws p hd e1 rs =>
    cases e
    refine .inr (.inr ⟨ws, hd, ?_⟩)
    cases kvs <;> cases ws <;> first | rfl | cases e1
  | dit _ _ _ _ => cases e
  | ins _ _ _ _ _ => cases e
theorem len_rd {P : Addr → Prop} {d : D} {v : V} {n : Nat} (h : RD G P H d v) (e : lenD d = some n) (hd : ∀ kvs, d ≠ .dic kvs) : LenV G.K v H n := by
  cases h with
  | str x =>
    rw [lenD] at e
    split at e
    · rename_i c; cases e; exact ⟨lineB_le c, rfl⟩
    · cases e
  | tup hl r => cases e; exact .inr ⟨_, hl.sq, r.length⟩
  | lst hl r => cases e; exact .inl ⟨_, hl.sq, r.length⟩
  | dic _ _ _ _ => exact absurd rfl (hd _)
  | _ => cases e
/-- len -/
theorem call_lenG (hK : X.K = G.K) : CallR X (.builtin "len") (fun xs H Q => ∃ d x n, xs = [x] ∧ RA G H d x ∧ lenD d = some n ∧ Q (.int n) H) := by
  intro pins s σ H xs us Q I r h
  obtain ⟨d, x, n, rfl, ⟨P, h⟩, e, q⟩ := h
  by_cases hd : ∃ kvs, d = .dic kvs
  · obtain ⟨kvs, rfl⟩ := hd
    cases h with
    | @dic a _ ws p hd e1 rs =>
      cases e
      have hl : kvs.length = ws.length := by
        have := congrArg List.length e1
        simpa using this
      rw [hl] at q
      exact call_lenD pins s σ H _ us Q I r ⟨a, ws, rfl, hd, q⟩
  · exact call_len pins s σ H _ us Q I r ⟨x, n, rfl, by rw [hK]; exact len_rd h e (fun kvs z => hd ⟨kvs, z⟩), q⟩
theorem ty_rd {P : Addr → Prop} {d : D} {v : V} {t : String} (h : RD G P H d v) (e : tyD d = some t) : TyX G.K H v (.type t) := by
  cases h with
  | non => cases e; exact .base .non
  | bl b => cases e; exact .base (.bl b)
  | int i => cases e; exact .base (.int i)
  | str x => cases e; exact .base (.str x)
  | tup hl r =>
    cases e
    rcases hl with ⟨o, _, hl⟩ | ⟨hl, _⟩
    · exact .fTuple hl
    · rcases hl with (hl | ⟨_, hl⟩) | ⟨o, its, n, hk, hc, _⟩
      · cases hl
      · cases hl
      · exact .kTuple hk hc
  | lst hl r =>
    cases e
    rcases hl with ⟨_, hl⟩ | ⟨o, hl⟩ | hl
    · exact .base (.lst hl)
    · exact .base (.frz hl)
    · rcases hl with (hl | ⟨_, hl⟩) | ⟨o, its, n, hk, hc, _⟩
      · cases hl
      · cases hl
      · exact .kList hk hc
  | dic _ hd _ _ => cases e; exact .base (.dK hd)
  | dit _ hd _ _ => cases e; exact .base (.dT hd)
  | ins _ _ _ _ _ => cases e
end Bw

set_option maxHeartbeats 4000000
namespace Bw
open PySem PySem.Spec PyProof.Rows L2
variable {G : Gx} {E : Ev} {X : Cx} {sc : Scope} {Z Z' : Addr → Prop} {H H' : Hp} {σ : L2.St} {fr : Fr} {ph : Nat → List Addr} {o : Opd} {v : V} {d : D}

theorem star_cons (e : Expr) (es : List Expr) (env : Env) : (∃ x p, e = .Starred x p) ∨ starEach (e :: es) env = (false, eval e env) :: starEach es env := by
  cases e <;> first
    | exact .inl ⟨_, _, rfl⟩
    | exact .inr rfl
theorem marks_of (op : CmpOp) (b : Expr) : (∃ es k p, b = .Set es k p) ∨ behindInMarks op b = false := by
  cases b <;> first
    | exact .inl ⟨_, _, _, rfl⟩
    | exact .inr rfl
theorem plainIx_of {b : Expr} (h : isSlice b = false) : PlainIx b := by
  intro o i
  cases b <;> first
    | rfl
    | (cases h; done)
def plainT : Expr → Bool
  | .UnaryOp .Not _ _ => false
  | .BoolOp .. => false
  | .IfExp .. => false
  | .Compare .. => false
  | _ => true
theorem isTrue_of {e : Expr} {env : Env} (h : plainT e = true) (whole : Sem Value) : isTrue e env whole = (do let v ← whole; standAt e.pos; holding [v] (truthy v)) := by
  cases e <;> first
    | rfl
    | (cases h; done)
    | skip
  rename_i op _ _
  cases op <;> first
    | rfl
    | (cases h; done)

/-- the reading of a pure test -/
def tPT (G : Gx) (m : Fr → Option Opd) : TT := fun σ H Q => ∃ Z fr ph o k, FrOk G Z H σ fr ph ∧ m fr = some o ∧ truD o.1 = some k ∧ ∀ H', Grow H H' → Q k H'
structure PureOk (G : Gx) (E : Ev) (X : Cx) (sc : Scope) (n : Nat) : Prop where
  e : ∀ e, PE X e (tP G fun fr => evP E sc fr n e)
  t : ∀ e, PT X e (tPT G fun fr => evP E sc fr n e)
  w : ∀ op es pos, PW X (.BoolOp op es pos) (tPT G fun fr => evP E sc fr n (.BoolOp op es pos))
theorem pt_none {e : Expr} {t : TT} (h : ∀ σ H Q, ¬ t σ H Q) : PT X e t := ⟨fun _ _ σ H Q _ q => (h σ H Q q).elim⟩
theorem pw_none {e : Expr} {t : TT} (h : ∀ σ H Q, ¬ t σ H Q) : PW X e t := ⟨fun _ _ _ σ H Q _ q => (h σ H Q q).elim⟩
theorem pwI {e : Expr} {t t' : TT} (h : PW X e t) (i : ∀ σ H Q, t' σ H Q → t σ H Q) : PW X e t' := ⟨fun wh pins s σ H Q I q => h.run wh pins s σ H Q I (i σ H Q q)⟩
theorem tP_no {f : Fr → Option Opd} (h : ∀ fr, f fr = none) : ∀ σ H Q, ¬ tP G f σ H Q := fun σ H Q ⟨_, fr, _, _, _, e, _⟩ => by rw [h fr] at e; cases e
theorem tPT_no {f : Fr → Option Opd} (h : ∀ fr, f fr = none) : ∀ σ H Q, ¬ tPT G f σ H Q := fun σ H Q ⟨_, fr, _, _, _, _, e, _⟩ => by rw [h fr] at e; cases e

theorem okName_ne {x : Str} (h : okName x = true) : (x == ("__debug__" : Str)) = false ∧ (x == ("__classdict__" : Str)) = false ∧ x ≠ "__name__" := by
  unfold okName at h
  simp only [Bool.and_eq_true, decide_eq_true_eq] at h
  exact ⟨by simpa using h.1.1, by simpa using h.1.2, h.2⟩
theorem isSlot_vis {x : Str} (h : isSlot sc x = true) : Vis sc x := by
  unfold isSlot at h
  split at h
  · rename_i e; exact .inl e
  · rename_i e; exact .inr (.inl e)
  · rename_i e; exact .inr (.inr e)
  · cases h
theorem isGlob_gl {x : Str} (h : isGlob sc x = true) (e : X.env.scope = sc) : Gl X x := by
  unfold isGlob at h
  split at h
  · rename_i q
    show X.env.scope.names.lookup x = _
    rw [e]; exact q
  · cases h
theorem opdT_ro {t : T} {i : Nat} (F : FrOk G Z H σ fr ph) (r : RT G Z H t v (ph i)) : RO G Z ph H (opdT t) v := by
  cases t with
  | d x =>
    generalize hg : ph i = g at r
    cases r with
    | d h => exact .of h
  | _ =>
    show (if true = true then RD G (ZP Z ph) H _ v else _)
    rw [if_pos rfl]
    exact r.fz.mono (sub_or fun a p => p.imp id fun m => ⟨i, m⟩)
theorem nameP_ok (L : Lk G E X sc) {x : Str} {pos : Pos} : PE X (.Name x pos) (tP G fun fr => nameP E sc fr x) := by
  by_cases hn : okName x = true
  · obtain ⟨n1, n2, n3⟩ := okName_ne hn
    by_cases hs : isSlot sc x = true
    · by_cases hi : E.N[E.N.idxOf x]? = some x
      · refine peI (pe_var (X := X) (i := E.N.idxOf x) (pos := pos) (by rw [L.N]; exact hi) (by rw [L.sc]; exact isSlot_vis hs) n1 n2) fun σ H Q ⟨Z, fr, ph, o, F, e, q⟩ => ?_
        unfold nameP slotOf at e
        dsimp only at e
        rw [if_neg (by rw [hn]; decide), if_pos hs, if_pos hi] at e
        simp only [Option.bind_some, Option.map_eq_some_iff] at e
        obtain ⟨t, e1, e2⟩ := e
        subst e2
        unfold getS at e1
        split at e1
        · rename_i t' e3
          cases e1
          obtain ⟨v, ev, r⟩ := F.at_ _ _ e3
          exact ⟨v, ev, q v H Grow.refl (opdT_ro F r)⟩
        · cases e1
      · refine pe_none (tP_no fun fr => ?_)
        unfold nameP slotOf
        rw [if_neg (by rw [hn]; decide), if_pos hs, if_neg hi]
        rfl
    · by_cases hg : isGlob sc x = true
      · cases hc : E.cst x with
        | none =>
          refine pe_none (tP_no fun fr => ?_)
          unfold nameP
          rw [if_neg (by rw [hn]; decide), if_neg hs, if_pos hg, hc]
          rfl
        | some d =>
          obtain ⟨u, v, hm, r, rd⟩ := L.cst x d hc
          refine peI (pe_glob (X := X) (pos := pos) (isGlob_gl hg L.sc) hm r n1) fun σ H Q ⟨Z, fr, ph, o, F, e, q⟩ => ?_
          unfold nameP at e
          dsimp only at e
          rw [if_neg (by rw [hn]; decide), if_neg hs, if_pos hg, hc] at e
          cases e
          exact q v H Grow.refl (.of (rd H).false)
      · refine pe_none (tP_no fun fr => ?_)
        unfold nameP
        rw [if_neg (by rw [hn]; decide), if_neg hs, if_neg hg]
  · refine pe_none (tP_no fun fr => ?_)
    unfold nameP
    rw [if_pos (by simpa using hn)]
theorem const_ok {c : Const} {k : Nat} {pos : Pos} : PE X (.Constant c k pos) (tP G fun _ => (constD c).map fun d => (d, false)) := by
  cases c with
  | none => exact peI pe_non fun σ H Q ⟨Z, fr, ph, o, F, e, q⟩ => by cases e; exact q _ H Grow.refl (.of .non)
  | bool b => exact peI pe_bl fun σ H Q ⟨Z, fr, ph, o, F, e, q⟩ => by cases e; exact q _ H Grow.refl (.of (.bl b))
  | int i => exact peI pe_int fun σ H Q ⟨Z, fr, ph, o, F, e, q⟩ => by cases e; exact q _ H Grow.refl (.of (.int i))
  | str x => exact peI pe_str fun σ H Q ⟨Z, fr, ph, o, F, e, q⟩ => by cases e; exact q _ H Grow.refl (.of (.str x))
  | _ => exact pe_none (tP_no fun _ => rfl)
theorem RO.zp {H : Hp} (h : RO G Z ph H o v) : RD G (if o.2 = true then ZP Z ph else Z) H o.1 v := by
  unfold RO at h
  split at h
  · rename_i e; rw [if_pos e]; exact h
  · rename_i e; rw [if_neg e]; exact h
theorem RO.mk' {H : Hp} {p : Bool} (h : RD G (if p = true then ZP Z ph else Z) H d v) : RO G Z ph H (d, p) v := by
  unfold RO
  cases p with
  | true => rw [if_pos rfl]; rw [if_pos rfl] at h; exact h
  | false => rw [if_neg (by simp)]; rw [if_neg (by simp)] at h; exact h
/-- two pure operands -/
theorem two_ops {f g : Fr → Option Opd} {r : R2} {Q : VK} (F : FrOk G Z H σ fr ph) {x y : Opd} (e1 : f fr = some x) (e2 : g fr = some y)
    (q : ∀ v1 v2 H', Grow H H' → RO G Z ph H' x v1 → RO G Z ph H' y v2 → r v1 v2 H' Q) : tOp r (tP G f) (tP G g) σ H Q :=
  ⟨Z, fr, ph, x, F, e1, fun v1 H1 k1 r1 => ⟨Z, fr, ph, y, F.grow k1, e2, fun v2 H2 k2 r2 => q v1 v2 H2 (k1.trans k2) (r1.grow k2) r2⟩⟩
theorem sub_ok {n : Nat} (L : Lk G E X sc) (ih : PureOk G E X sc n) {a b : Expr} {pos : Pos} : PE X (.Subscript a b pos) (tP G fun fr => if isSlice b then none else (evP E sc fr n a).bind fun x => (evP E sc fr n b).bind fun k => (idxD x.1 k.1).map fun d => (d, x.2)) := by
  by_cases hs : isSlice b = true
  · exact pe_none (tP_no fun fr => by rw [if_pos hs])
  · refine peI (pe_ix (ix_G L.K L.hu) (ih.e a) (ih.e b) (plainIx_of (by simpa using hs))) fun σ H Q ⟨Z, fr, ph, o, F, e, q⟩ => ?_
    dsimp only at e
    rw [if_neg hs, Option.bind_eq_some_iff] at e
    obtain ⟨x, e1, e⟩ := e
    rw [Option.bind_eq_some_iff] at e
    obtain ⟨y, e2, e⟩ := e
    rw [Option.map_eq_some_iff] at e
    obtain ⟨r, e3, e4⟩ := e
    subst e4
    exact two_ops F e1 e2 fun v1 v2 H' k r1 r2 => ⟨_, _, _, r, r1.zp, r2.ra, e3, fun v rv => q v H' k (.mk' rv)⟩
theorem bin_ok {n : Nat} (L : Lk G E X sc) (ih : PureOk G E X sc n) {a b : Expr} {op : Operator} {pos : Pos} : PE X (.BinOp a op b pos) (tP G fun fr => (evP E sc fr n a).bind fun x => (evP E sc fr n b).bind fun y => (binD op x y).bind fun t => match t with
    | .d z => some (z, false)
    | _ => none) := by
  refine peI (pe_op (op_bin L.K) (ih.e a) (ih.e b)) fun σ H Q ⟨Z, fr, ph, o, F, e, q⟩ => ?_
  dsimp only at e
  rw [Option.bind_eq_some_iff] at e
  obtain ⟨x, e1, e⟩ := e
  rw [Option.bind_eq_some_iff] at e
  obtain ⟨y, e2, e⟩ := e
  rw [Option.bind_eq_some_iff] at e
  obtain ⟨t, e3, e⟩ := e
  refine two_ops F e1 e2 fun v1 v2 H' k r1 r2 => ⟨Z, ph, x, y, t, r1, r2, e3, fun v H2 g k2 rt _ _ _ => ?_⟩
  cases t with
  | d z =>
    cases e
    cases rt with
    | d h => exact q v H2 (k.trans k2) (.of h)
  | _ => cases e
theorem cmp1_ok {n : Nat} (L : Lk G E X sc) (ih : PureOk G E X sc n) {a b : Expr} {op : CmpOp} {pos : Pos} :
    PE X (.Compare a [op] [b] pos) (tP G fun fr => (evP E sc fr n a).bind fun x => (evP E sc fr n b).bind fun y => (cmpD op x.1 y.1).map fun k => (.bl k, false)) ∧
    PT X (.Compare a [op] [b] pos) (tPT G fun fr => (evP E sc fr n a).bind fun x => (evP E sc fr n b).bind fun y => (cmpD op x.1 y.1).map fun k => (.bl k, false)) := by
  rcases marks_of op b with ⟨es, k, p, rfl⟩ | hm
  · have hn : ∀ fr, ((evP E sc fr n a).bind fun x => (evP E sc fr n (.Set es k p)).bind fun y => (cmpD op x.1 y.1).map fun k => ((.bl k, false) : Opd)) = none := fun fr => by
      have : evP E sc fr n (.Set es k p) = none := by cases n <;> rfl
      rw [this]
      cases evP E sc fr n a <;> rfl
    exact ⟨pe_none (tP_no hn), pt_none (tPT_no hn)⟩
  · constructor
    · refine peI (pe_cmpR (op_cmp L.K L.hu) (ih.e a) (ih.e b) hm) fun σ H Q ⟨Z, fr, ph, o, F, e, q⟩ => ?_
      dsimp only at e
      rw [Option.bind_eq_some_iff] at e
      obtain ⟨x, e1, e⟩ := e
      rw [Option.bind_eq_some_iff] at e
      obtain ⟨y, e2, e⟩ := e
      rw [Option.map_eq_some_iff] at e
      obtain ⟨k, e3, e4⟩ := e
      subst e4
      exact two_ops F e1 e2 fun v1 v2 H' k' r1 r2 => ⟨_, _, k, r1.ra, r2.ra, e3, q _ H' k' (.of (.bl k))⟩
    · refine ptI (pt_cmpR (op_cmp L.K L.hu) (ih.e a) (ih.e b) hm) fun σ H Q ⟨Z, fr, ph, o, kk, F, e, et, q⟩ => ?_
      dsimp only at e
      rw [Option.bind_eq_some_iff] at e
      obtain ⟨x, e1, e⟩ := e
      rw [Option.bind_eq_some_iff] at e
      obtain ⟨y, e2, e⟩ := e
      rw [Option.map_eq_some_iff] at e
      obtain ⟨k, e3, e4⟩ := e
      subst e4
      obtain rfl : k = kk := Option.some.inj et
      exact two_ops F e1 e2 fun v1 v2 H' k' r1 r2 => ⟨_, _, k, r1.ra, r2.ra, e3, k, rfl, q H' k'⟩
theorem noset_marks {op : CmpOp} {b : Expr} (h : isSet b = false) : behindInMarks op b = false := by
  rcases marks_of op b with ⟨es, k, p, rfl⟩ | hm
  · cases h
  · exact hm
theorem cmp2_ok {n : Nat} (L : Lk G E X sc) (ih : PureOk G E X sc n) {a b c : Expr} {op op' : CmpOp} {pos : Pos} :
    PE X (.Compare a [op, op'] [b, c] pos) (tP G fun fr => (evP E sc fr n a).bind fun x => if isSet c then none else (evP E sc fr n b).bind fun y => (cmpD op x.1 y.1).bind fun k => if k then (evP E sc fr n c).bind fun z => (cmpD op' y.1 z.1).map fun k' => (.bl k', false) else some (.bl false, false)) ∧
    PT X (.Compare a [op, op'] [b, c] pos) (tPT G fun fr => (evP E sc fr n a).bind fun x => if isSet c then none else (evP E sc fr n b).bind fun y => (cmpD op x.1 y.1).bind fun k => if k then (evP E sc fr n c).bind fun z => (cmpD op' y.1 z.1).map fun k' => (.bl k', false) else some (.bl false, false)) := by
  by_cases hc : isSet c = true
  · have hn : ∀ fr, ((evP E sc fr n a).bind fun x => if isSet c then none else (evP E sc fr n b).bind fun y => (cmpD op x.1 y.1).bind fun k => if k then (evP E sc fr n c).bind fun z => (cmpD op' y.1 z.1).map fun k' => ((.bl k', false) : Opd) else some (.bl false, false)) = none := fun fr => by
      simp only [hc, if_true]
      cases evP E sc fr n a <;> rfl
    exact ⟨pe_none (tP_no hn), pt_none (tPT_no hn)⟩
  · have hl : lastMarks [op, op'] [b, c] = false := noset_marks (by simpa using hc)
    have go : ∀ {σ : L2.St} {H : Hp} {Q : VK} {Z fr ph o}, FrOk G Z H σ fr ph → ((evP E sc fr n a).bind fun x => if isSet c then none else (evP E sc fr n b).bind fun y => (cmpD op x.1 y.1).bind fun k => if k then (evP E sc fr n c).bind fun z => (cmpD op' y.1 z.1).map fun k' => ((.bl k', false) : Opd) else some (.bl false, false)) = some o →
        (∀ k, o = (.bl k, false) → ∀ H', Grow H H' → Q (.bl k) H') → tChain (rCmp G op) (rCmp G op') (tP G fun fr => evP E sc fr n a) (tP G fun fr => evP E sc fr n b) (tP G fun fr => evP E sc fr n c) σ H Q := by
      intro σ H Q Z fr ph o F e q
      rw [Option.bind_eq_some_iff] at e
      obtain ⟨x, e1, e⟩ := e
      rw [if_neg hc, Option.bind_eq_some_iff] at e
      obtain ⟨y, e2, e⟩ := e
      rw [Option.bind_eq_some_iff] at e
      obtain ⟨k, e3, e⟩ := e
      refine ⟨Z, fr, ph, x, F, e1, fun v1 H1 k1 r1 => ⟨Z, fr, ph, y, F.grow k1, e2, fun v2 H2 k2 r2 => ⟨_, _, k, (r1.grow k2).ra, r2.ra, e3, k, rfl, ?_⟩⟩⟩
      cases k with
      | false =>
        rw [if_neg (by decide)] at e
        rw [if_neg (by decide)]
        cases e
        exact q false rfl H2 (k1.trans k2)
      | true =>
        rw [if_pos rfl, Option.bind_eq_some_iff] at e
        rw [if_pos rfl]
        obtain ⟨z, e4, e⟩ := e
        rw [Option.map_eq_some_iff] at e
        obtain ⟨k', e5, e6⟩ := e
        exact ⟨Z, fr, ph, z, F.grow (k1.trans k2), e4, fun v3 H3 k3 r3 => ⟨_, _, k', (r2.grow k3).ra, r3.ra, e5, q k' e6.symm H3 ((k1.trans k2).trans k3)⟩⟩
    constructor
    · refine peI (pe_chain (op_cmp L.K L.hu) (op_cmp L.K L.hu) (ih.e a) (ih.e b) (ih.e c) hl) fun σ H Q ⟨Z, fr, ph, o, F, e, q⟩ => go F e fun k eo H' k' => ?_
      subst eo
      exact q _ H' k' (.of (.bl k))
    · refine ptI (pt_chain (op_cmp L.K L.hu) (op_cmp L.K L.hu) (ih.e a) (ih.e b) (ih.e c) hl) fun σ H Q ⟨Z, fr, ph, o, kk, F, e, et, q⟩ => go F e fun k eo H' k' => ?_
      subst eo
      obtain rfl : k = kk := Option.some.inj et
      exact ⟨_, rfl, q H' k'⟩
/-- the truth of a value by the data -/
theorem pt_plain {n : Nat} (L : Lk G E X sc) {e : Expr} {f : Fr → Option Opd} (h : PE X e (tP G f)) (hp : plainT e = true) : PT X e (tPT G f) := by
  refine ptI (pt_truth h (isTrue_of hp)) fun σ H Q ⟨Z, fr, ph, o, k, F, e, et, q⟩ => ?_
  exact ⟨Z, fr, ph, o, F, e, fun v H' k' r => ⟨k, by rw [L.K]; exact tru_rd r.any et, q H' k'⟩⟩
theorem pas_ok {n : Nat} (ih : PureOk G E X sc n) : ∀ es : List Expr, PA X es (tPs G fun fr => es.mapM (evP E sc fr n)) := by
  intro es
  induction es with
  | nil =>
    refine ⟨fun pos pins s σ H Q I h => pa_nil.run pos pins s σ H Q I ?_⟩
    obtain ⟨Z, fr, ph, os, F, e, q⟩ := h
    dsimp only at e
    rw [List.mapM_nil] at e
    cases e
    exact q [] H Grow.refl .nil
  | cons e es ihs =>
    rcases star_cons e es X.env with ⟨x, p, rfl⟩ | hst
    · refine ⟨fun pos pins s σ H Q I h => ?_⟩
      obtain ⟨Z, fr, ph, os, F, e, q⟩ := h
      dsimp only at e
      rw [List.mapM_cons] at e
      have : evP E sc fr n (.Starred x p) = none := by cases n <;> rfl
      rw [this] at e
      cases e
    · refine ⟨fun pos pins s σ H Q I h => (pa_cons (ih.e e) ihs hst).run pos pins s σ H Q I ?_⟩
      obtain ⟨Z, fr, ph, os, F, ee, q⟩ := h
      dsimp only at ee
      rw [List.mapM_cons] at ee
      simp only [bind, Option.bind_eq_some_iff] at ee
      obtain ⟨x, e1, xs, e2, e3⟩ := ee
      cases e3
      exact ⟨Z, fr, ph, x, F, e1, fun v H1 k1 r1 => ⟨Z, fr, ph, xs, F.grow k1, e2, fun vs H2 k2 r2 => q _ H2 (k1.trans k2) (.cons (r1.grow k2) r2)⟩⟩
theorem frzs_rd : ∀ {os : List Opd} {vs : List V} {ds : List D}, Paired (fun o v => RO G Z ph H o v) os vs → frzs os = some ds → RDs G Z H ds vs
  | _, _, _, .nil, e => by cases e; exact .nil
  | (d, p) :: os, v :: vs, ds, .cons r rs, e => by
    rw [frzs] at e
    split at e
    · rename_i c
      rw [Option.map_eq_some_iff] at e
      obtain ⟨es, e1, e2⟩ := e
      subst e2
      exact .cons (r.frz c) (frzs_rd rs e1)
    · cases e
theorem tup_ok {n : Nat} (ih : PureOk G E X sc n) {es : List Expr} {k : Nat} {pos : Pos} : PE X (.Tuple es k pos) (tP G fun fr => (es.mapM (evP E sc fr n)).bind fun xs => (frzs xs).bind fun ds => if lineB ds.length then some (.tup ds, false) else none) := by
  refine peI (pe_tupZ (pas_ok ih es)) fun σ H Q ⟨Z, fr, ph, o, F, e, q⟩ => ?_
  dsimp only at e
  rw [Option.bind_eq_some_iff] at e
  obtain ⟨xs, e1, e⟩ := e
  rw [Option.bind_eq_some_iff] at e
  obtain ⟨ds, e2, e⟩ := e
  split at e
  · rename_i hl
    cases e
    refine ⟨Z, fr, ph, xs, F, e1, fun vs H1 k1 r => ?_⟩
    have rd := frzs_rd r e2
    exact ⟨by rw [← rd.length]; exact lineB_le hl, fun p ob hp ho => q _ _ (k1.trans (keep_upd hp)) (.of (rd_tup rd hp ho))⟩
  · cases e
end Bw

set_option maxHeartbeats 4000000
namespace Bw
open PySem PySem.Spec PyProof.Rows L2
variable {G : Gx} {E : Ev} {X : Cx} {sc : Scope} {Z Z' : Addr → Prop} {H H' : Hp} {σ : L2.St} {fr : Fr} {ph : Nat → List Addr} {o : Opd} {v : V} {d : D}

theorem isGl_name {f : Expr} {x : Str} (h : isGl E sc f x = true) : ∃ p, f = .Name x p ∧ isGlob sc x = true ∧ E.blt x = true := by
  unfold isGl at h
  split at h
  · rename_i y p
    simp only [Bool.and_eq_true, decide_eq_true_eq] at h
    obtain ⟨⟨rfl, h2⟩, h3⟩ := h
    exact ⟨p, rfl, h2, h3⟩
  · cases h
theorem bltTy_boot {x : Str} {t : String} (h : bltTy x = some t) : bootBuiltins x = some (.type t) ∧ x ≠ "__name__" ∧ (x == ("__debug__" : Str)) = false := by
  unfold bltTy at h
  split at h
  · rename_i e; cases h; subst e; decide +kernel
  split at h
  · rename_i e; cases h; subst e; decide +kernel
  split at h
  · rename_i e; cases h; subst e; decide +kernel
  split at h
  · rename_i e; cases h; subst e; decide +kernel
  split at h
  · rename_i e; cases h; subst e; decide +kernel
  · cases h
/-- a built-in class by its name -/
theorem cls_ok (L : Lk G E X sc) {y : Str} {t : String} {p : Pos} (hg : isGlob sc y = true) (hb : E.blt y = true) (ht : bltTy y = some t) : PE X (.Name y p) (tC (.ty t)) := by
  obtain ⟨h1, h2, h3⟩ := bltTy_boot ht
  exact pe_bltn (isGlob_gl hg L.sc) (L.blt y hb) h1 rfl h2 h3
theorem isTy_of {d : D} {y : Str} {b : Bool} (h : isTy d y = some b) : ∃ a t, tyD d = some a ∧ bltTy y = some t ∧ kitB a t = some b := by
  unfold isTy at h
  split at h
  · rename_i a t e1 e2; exact ⟨a, t, e1, e2, h⟩
  · cases h
/-- the names of several built-in classes -/
theorem clss_ok (L : Lk G E X sc) : ∀ (es : List Expr) (ys : List Str), namesE es = some ys → ys.all (fun y => isGlob sc y && E.blt y) = true → ys.all (fun y => (bltTy y).isSome) = true →
    ∃ cs us, PA X es (fun σ H Q => Q cs H) ∧ Paired ClsV cs us ∧ us = ys.filterMap (fun y => (bltTy y).map Value.type) ∧ cs.length = ys.length := by
  intro es
  induction es with
  | nil =>
    intro ys h _ _
    cases h
    exact ⟨[], [], ⟨fun pos pins s σ H Q I q => pa_nil.run pos pins s σ H Q I q⟩, .nil, rfl, rfl⟩
  | cons e es ih =>
    intro ys h h1 h2
    rw [namesE] at h
    split at h
    · rename_i x xs e1 e2
      cases h
      simp only [List.all_cons, Bool.and_eq_true] at h1 h2
      obtain ⟨cs, us, hp, pv, eu, el⟩ := ih xs e2 (by simpa using h1.2) h2.2
      obtain ⟨t, ht⟩ := Option.isSome_iff_exists.mp h2.1
      cases e with
      | Name y p =>
        cases e1
        have hc := cls_ok (p := p) L h1.1.1 h1.1.2 ht
        refine ⟨.ty t :: cs, .type t :: us, ⟨fun pos pins s σ H Q I q => (pa_cons hc hp rfl).run pos pins s σ H Q I q⟩, .cons (.ty t) pv, ?_, by rw [List.length_cons, List.length_cons, el]⟩
        rw [List.filterMap_cons, ht, eu]
        rfl
      | _ => cases e1
    · cases h
theorem isTys_any {K : PySem.W.Frag} {d : D} {a : String} (ha : tyD d = some a) : ∀ {ys : List Str} {b : Bool}, isTys d ys = some b → ys.all (fun y => (bltTy y).isSome) = true →
    PySem.W.kitAny K (.type a) (ys.filterMap fun y => (bltTy y).map Value.type) = some b := by
  intro ys
  induction ys with
  | nil =>
    intro b h _
    cases h
    exact kitAny_nil
  | cons y ys ih =>
    intro b h h2
    simp only [List.all_cons, Bool.and_eq_true] at h2
    obtain ⟨t, ht⟩ := Option.isSome_iff_exists.mp h2.1
    rw [List.filterMap_cons, ht]
    show PySem.W.kitAny K (.type a) (Value.type t :: ys.filterMap fun y => (bltTy y).map Value.type) = some b
    rw [isTys] at h
    split at h
    · rename_i e
      cases h
      obtain ⟨a', t', e1, e2, e3⟩ := isTy_of e
      rw [ha] at e1
      rw [ht] at e2
      cases e1
      cases e2
      exact kitAny_cons (kit_ty e3) (fun z => by cases z) fun _ => rfl
    · rename_i e
      obtain ⟨a', t', e1, e2, e3⟩ := isTy_of e
      rw [ha] at e1
      rw [ht] at e2
      cases e1
      cases e2
      exact kitAny_cons (kit_ty e3) (fun _ => ih h h2.2) fun z => by cases z
    · cases h
theorem boot_isi : bootBuiltins "isinstance" = some (.builtin "isinstance") := by decide +kernel
theorem star1 (e : Expr) (env : Env) (h : ∀ x p, e ≠ .Starred x p) (es : List Expr) : starEach (e :: es) env = (false, eval e env) :: starEach es env := by
  rcases star_cons e es env with ⟨x, p, rfl⟩ | h'
  · exact absurd rfl (h x p)
  · exact h'
theorem evP_star {n : Nat} {x : Expr} {p : Pos} : evP E sc fr n (.Starred x p) = none := by cases n <;> rfl
theorem plain_back {pos : Pos} : ∀ {es : List Expr} {env : Env}, (∀ e ∈ es, ∀ x p, e ≠ .Starred x p) → (backTo pos (starEach es env)).any (·.1) = false := by
  intro es
  induction es with
  | nil => intro _ _; rfl
  | cons e es ih =>
    intro env h
    rw [star1 e env (h e List.mem_cons_self) es]
    show (false || (backTo pos (starEach es env)).any (·.1)) = false
    rw [ih fun e' m => h e' (List.mem_cons_of_mem _ m)]
    rfl
theorem len_call {n : Nat} (L : Lk G E X sc) (ih : PureOk G E X sc n) {f a : Expr} {pos : Pos} (hf : isGl E sc f "len" = true) :
    PE X (.Call f [a] [] pos) (tP G fun fr => (evP E sc fr n a).bind fun x => (lenD x.1).map fun (k : Nat) => (D.int (k : Int), false)) := by
  obtain ⟨p, rfl, hg, hb⟩ := isGl_name hf
  rcases star_cons a [] X.env with ⟨x, q, rfl⟩ | hst
  · exact pe_none (tP_no fun fr => by rw [evP_star]; rfl)
  · refine peI (pe_callB (call_lenG L.K) (isGlob_gl hg L.sc) (L.blt _ hb) PySem.boot_len (pa_cons (ih.e a) pa_nil hst) (by decide) (by decide) hst rfl) fun σ H Q ⟨Z, fr, ph, o, F, e, q⟩ => ?_
    dsimp only at e
    rw [Option.bind_eq_some_iff] at e
    obtain ⟨x, e1, e⟩ := e
    rw [Option.map_eq_some_iff] at e
    obtain ⟨k, e2, e3⟩ := e
    subst e3
    exact ⟨Z, fr, ph, x, F, e1, fun v H' k' r => ⟨x.1, v, k, rfl, r.ra, e2, q _ H' k' (.of (.int k))⟩⟩
theorem isi_call1 {n : Nat} (L : Lk G E X sc) (ih : PureOk G E X sc n) {f a : Expr} {y : Str} {p2 pos : Pos} (hf : isGl E sc f "isinstance" = true) (hg2 : isGlob sc y = true) (hb2 : E.blt y = true) :
    PE X (.Call f [a, .Name y p2] [] pos) (tP G fun fr => (evP E sc fr n a).bind fun x => (isTy x.1 y).map fun b => (.bl b, false)) := by
  obtain ⟨p, rfl, hg, hb⟩ := isGl_name hf
  rcases star_cons a [.Name y p2] X.env with ⟨x, q, rfl⟩ | hst
  · exact pe_none (tP_no fun fr => by rw [evP_star]; rfl)
  · cases ht : bltTy y with
    | none =>
      refine pe_none (tP_no fun fr => ?_)
      cases evP E sc fr n a with
      | none => rfl
      | some x =>
        show (isTy x.1 y).map _ = none
        unfold isTy
        rw [ht]
        cases tyD x.1 <;> rfl
    | some t =>
      refine peI (pe_callB call_isi (isGlob_gl hg L.sc) (L.blt _ hb) boot_isi (pa_cons (ih.e a) (pa_cons (cls_ok L hg2 hb2 ht) pa_nil rfl) hst) (by decide) (by decide) hst rfl) fun σ H Q ⟨Z, fr, ph, o, F, e, q⟩ => ?_
      dsimp only at e
      rw [Option.bind_eq_some_iff] at e
      obtain ⟨x, e1, e⟩ := e
      rw [Option.map_eq_some_iff] at e
      obtain ⟨b, e2, e3⟩ := e
      subst e3
      obtain ⟨a', t', f1, f2, f3⟩ := isTy_of e2
      rw [ht] at f2
      cases f2
      exact ⟨Z, fr, ph, x, F, e1, fun v H' k' r => ⟨v, .ty t, .type a', .type t, b, rfl, .ty t, by rw [L.K]; exact ty_rd r.any f1, kit_ty f3, q _ H' k' (.of (.bl b))⟩⟩
theorem isTys_some {d : D} : ∀ {ys : List Str} {b : Bool}, isTys d ys = some b → ys ≠ [] → ∃ a, tyD d = some a
  | [], _, _, h => absurd rfl h
  | y :: ys, b, h, _ => by
    rw [isTys] at h
    split at h
    · rename_i e
      obtain ⟨a, _, e1, _, _⟩ := isTy_of e
      exact ⟨a, e1⟩
    · rename_i e
      obtain ⟨a, _, e1, _, _⟩ := isTy_of e
      exact ⟨a, e1⟩
    · cases h
theorem isi_calls {n : Nat} (L : Lk G E X sc) (ih : PureOk G E X sc n) {f a : Expr} {es : List Expr} {k2 : Nat} {ys : List Str} {p2 pos : Pos} (hf : isGl E sc f "isinstance" = true) (hn : namesE es = some ys) (hall : ys.all (fun y => isGlob sc y && E.blt y) = true)
    (hty : ys.all (fun y => (bltTy y).isSome) = true) (hne : ys ≠ []) (hl : ys.length ≤ 100) :
    PE X (.Call f [a, .Tuple es k2 p2] [] pos) (tP G fun fr => (evP E sc fr n a).bind fun x => (isTys x.1 ys).map fun b => (.bl b, false)) := by
  obtain ⟨p, rfl, hg, hb⟩ := isGl_name hf
  rcases star_cons a [.Tuple es k2 p2] X.env with ⟨x, q, rfl⟩ | hst
  · exact pe_none (tP_no fun fr => by rw [evP_star]; rfl)
  · obtain ⟨cs, us, hp, pv, eu, el⟩ := clss_ok L es ys hn hall hty
    refine peI (pe_callB call_isiT (isGlob_gl hg L.sc) (L.blt _ hb) boot_isi (pa_cons (ih.e a) (pa_cons (pe_tup hp) pa_nil rfl) hst) (by decide) (by decide) hst rfl) fun σ H Q ⟨Z, fr, ph, o, F, e, q⟩ => ?_
    dsimp only at e
    rw [Option.bind_eq_some_iff] at e
    obtain ⟨x, e1, e⟩ := e
    rw [Option.map_eq_some_iff] at e
    obtain ⟨b, e2, e3⟩ := e
    subst e3
    obtain ⟨a', f1⟩ := isTys_some e2 hne
    refine ⟨Z, fr, ph, x, F, e1, fun v H' k' r => ⟨by rw [el, sizeLine_eq]; omega, fun tp hp => ?_⟩⟩
    have k2 := keep_upd (o := .tup cs) hp
    exact ⟨v, tp, cs, .type a', us, b, rfl, upd_same, pv, by rw [L.K]; exact ty_rd (r.grow k2).any f1, by rw [eu]; exact isTys_any f1 e2 hty, q _ _ (k'.trans k2) (.of (.bl b))⟩

theorem call_none {n : Nat} {f : Expr} {as : List Expr} {kw : List Keyword} {pos : Pos} {t : TE} (h : ∀ σ H Q, ¬ t σ H Q) : PE X (.Call f as kw pos) t := pe_none h
theorem call_ok {n : Nat} (L : Lk G E X sc) (ih : PureOk G E X sc n) {f : Expr} {as : List Expr} {kw : List Keyword} {pos : Pos} :
    PE X (.Call f as kw pos) (tP G fun fr => evP E sc fr (n + 1) (.Call f as kw pos)) := by
  have nope : (∀ fr, evP E sc fr (n + 1) (.Call f as kw pos) = none) → PE X (.Call f as kw pos) (tP G fun fr => evP E sc fr (n + 1) (.Call f as kw pos)) := fun h => pe_none (tP_no h)
  cases kw with
  | cons k kw => exact nope fun fr => rfl
  | nil =>
    match as with
    | [] => exact nope fun fr => rfl
    | [a] =>
      by_cases hf : isGl E sc f "len" = true
      · refine peI (len_call (n := n) (pos := pos) L ih hf) fun σ H Q ⟨Z, fr, ph, o, F, e, q⟩ => ⟨Z, fr, ph, o, F, ?_, q⟩
        dsimp only at e ⊢
        rw [evP, if_pos hf] at e
        exact e
      · refine nope fun fr => ?_
        rw [evP, if_neg hf]
    | [a, c] =>
      by_cases hf : isGl E sc f "isinstance" = true
      · cases hc : clsE c with
        | none =>
          refine nope fun fr => ?_
          rw [evP, if_pos hf, hc]
          cases evP E sc fr n a <;> rfl
        | some w =>
          cases w with
          | inl y =>
            have : ∃ p2, c = .Name y p2 := by
              cases c <;> first
                | (cases hc; exact ⟨_, rfl⟩)
                | (cases hc; done)
                | skip
              rw [clsE] at hc
              rw [Option.map_eq_some_iff] at hc
              obtain ⟨_, _, z⟩ := hc
              cases z
            obtain ⟨p2, rfl⟩ := this
            by_cases h2 : (isGlob sc y && E.blt y) = true
            · have h3 := (Bool.and_eq_true _ _).mp h2
              refine peI (isi_call1 (n := n) (a := a) (p2 := p2) (pos := pos) L ih hf h3.1 h3.2) fun σ H Q ⟨Z, fr, ph, o, F, e, q⟩ => ⟨Z, fr, ph, o, F, ?_, q⟩
              dsimp only at e ⊢
              rw [evP, if_pos hf, hc] at e
              simp only [h2, if_true] at e
              exact e
            · refine nope fun fr => ?_
              rw [evP, if_pos hf, hc]
              simp only [h2]
              cases evP E sc fr n a <;> rfl
          | inr ys =>
            have : ∃ es k2 p2, c = .Tuple es k2 p2 ∧ namesE es = some ys := by
              cases c <;> first
                | (cases hc; done)
                | skip
              rw [clsE, Option.map_eq_some_iff] at hc
              obtain ⟨z, h1, h2⟩ := hc
              cases h2
              exact ⟨_, _, _, rfl, h1⟩
            obtain ⟨es, k2, p2, rfl, hn⟩ := this
            by_cases h2 : (ys.all (fun y => isGlob sc y && E.blt y) && ys.all (fun y => (bltTy y).isSome) && !ys.isEmpty && decide (ys.length ≤ 100)) = true
            · have h3 := h2
              simp only [Bool.and_eq_true, decide_eq_true_eq] at h3
              refine peI (isi_calls (n := n) (a := a) (k2 := k2) (p2 := p2) (pos := pos) L ih hf hn (by simpa using h3.1.1.1) h3.1.1.2 (by
                intro z
                subst z
                exact absurd h3.1.2 (by decide)) h3.2) fun σ H Q ⟨Z, fr, ph, o, F, e, q⟩ => ⟨Z, fr, ph, o, F, ?_, q⟩
              dsimp only at e ⊢
              rw [evP, if_pos hf, hc] at e
              simp only [h2, if_true] at e
              exact e
            · refine nope fun fr => ?_
              rw [evP, if_pos hf, hc]
              simp only [h2]
              cases evP E sc fr n a <;> rfl
      · refine nope fun fr => ?_
        rw [evP, if_neg hf]
    | _ :: _ :: _ :: _ => exact nope fun fr => rfl
end Bw

set_option maxHeartbeats 4000000
namespace Bw
open PySem PySem.Spec PyProof.Rows L2
variable {G : Gx} {E : Ev} {X : Cx} {sc : Scope} {Z Z' : Addr → Prop} {H H' : Hp} {σ : L2.St} {fr : Fr} {ph : Nat → List Addr} {o : Opd} {v : V} {d : D}

theorem peE {e : Expr} {f g : Fr → Option Opd} (h : PE X e (tP G f)) (q : ∀ fr, g fr = f fr) : PE X e (tP G g) := by
  have : g = f := funext q
  rw [this]; exact h
theorem ptE {e : Expr} {f g : Fr → Option Opd} (h : PT X e (tPT G f)) (q : ∀ fr, g fr = f fr) : PT X e (tPT G g) := by
  have : g = f := funext q
  rw [this]; exact h
theorem pwE {e : Expr} {f g : Fr → Option Opd} (h : PW X e (tPT G f)) (q : ∀ fr, g fr = f fr) : PW X e (tPT G g) := by
  have : g = f := funext q
  rw [this]; exact h
def boolF (E : Ev) (sc : Scope) (n : Nat) (op : BoolOp) (a : Expr) (r : Expr) (fr : Fr) : Option Opd := (evP E sc fr n a).bind fun x => (truD x.1).bind fun k => match op with
  | .And => if k then evP E sc fr n r else some x
  | .Or => if k then some x else evP E sc fr n r
theorem bool_val {n : Nat} (L : Lk G E X sc) (ih : PureOk G E X sc n) {op : BoolOp} {es : List Expr} {pos : Pos} :
    PE X (.BoolOp op es pos) (tP G fun fr => evP E sc fr (n + 1) (.BoolOp op es pos)) ∧ PW X (.BoolOp op es pos) (tPT G fun fr => evP E sc fr (n + 1) (.BoolOp op es pos)) := by
  match es with
  | [] => exact ⟨pe_none (tP_no fun fr => rfl), pw_none (tPT_no fun fr => rfl)⟩
  | [a] =>
    refine ⟨peE (f := fun fr => evP E sc fr n a) (pe_one (ih.e a)) fun fr => rfl, ?_⟩
    cases op with
    | And => exact pwE (f := fun fr => evP E sc fr n a) (pw_and1 (ih.t a)) fun fr => rfl
    | Or => exact pwE (f := fun fr => evP E sc fr n a) (pw_or1 (ih.t a)) fun fr => rfl
  | a :: b :: r =>
    cases op with
    | And =>
      constructor
      · refine peE (f := boolF E sc n .And a (.BoolOp .And (b :: r) pos)) (peI (pe_andT (ih.e a) (ih.e (.BoolOp .And (b :: r) pos))) fun σ H Q ⟨Z, fr, ph, o, F, e, q⟩ => ?_) fun fr => rfl
        unfold boolF at e
        rw [Option.bind_eq_some_iff] at e
        obtain ⟨x, e1, e⟩ := e
        rw [Option.bind_eq_some_iff] at e
        obtain ⟨k, e2, e⟩ := e
        refine ⟨Z, fr, ph, x, F, e1, fun v H' k' r => ⟨k, by rw [L.K]; exact tru_rd r.any e2, ?_⟩⟩
        cases k with
        | true =>
          rw [if_pos rfl]
          exact ⟨Z, fr, ph, o, F.grow k', e, fun v2 H2 k2 r2 => q v2 H2 (k'.trans k2) r2⟩
        | false =>
          rw [if_neg (by decide)]
          cases e
          exact q v H' k' r
      · refine pwE (f := boolF E sc n .And a (.BoolOp .And (b :: r) pos)) (pwI (pw_and (ih.t a) (ih.w .And (b :: r) pos)) fun σ H Q ⟨Z, fr, ph, o, k, F, e, et, q⟩ => ?_) fun fr => rfl
        unfold boolF at e
        rw [Option.bind_eq_some_iff] at e
        obtain ⟨x, e1, e⟩ := e
        rw [Option.bind_eq_some_iff] at e
        obtain ⟨k2, e2, e⟩ := e
        refine ⟨Z, fr, ph, x, k2, F, e1, e2, fun H' k' => ?_⟩
        cases k2 with
        | true =>
          rw [if_pos rfl]
          exact ⟨Z, fr, ph, o, k, F.grow k', e, et, fun H2 k2 => q H2 (k'.trans k2)⟩
        | false =>
          rw [if_neg (by decide)]
          cases e
          rw [e2] at et
          cases et
          exact q H' k'
    | Or =>
      constructor
      · refine peE (f := boolF E sc n .Or a (.BoolOp .Or (b :: r) pos)) (peI (pe_orT (ih.e a) (ih.e (.BoolOp .Or (b :: r) pos))) fun σ H Q ⟨Z, fr, ph, o, F, e, q⟩ => ?_) fun fr => rfl
        unfold boolF at e
        rw [Option.bind_eq_some_iff] at e
        obtain ⟨x, e1, e⟩ := e
        rw [Option.bind_eq_some_iff] at e
        obtain ⟨k, e2, e⟩ := e
        refine ⟨Z, fr, ph, x, F, e1, fun v H' k' r => ⟨k, by rw [L.K]; exact tru_rd r.any e2, ?_⟩⟩
        cases k with
        | false =>
          rw [if_neg (by decide)]
          exact ⟨Z, fr, ph, o, F.grow k', e, fun v2 H2 k2 r2 => q v2 H2 (k'.trans k2) r2⟩
        | true =>
          rw [if_pos rfl]
          cases e
          exact q v H' k' r
      · refine pwE (f := boolF E sc n .Or a (.BoolOp .Or (b :: r) pos)) (pwI (pw_or (ih.t a) (ih.w .Or (b :: r) pos)) fun σ H Q ⟨Z, fr, ph, o, k, F, e, et, q⟩ => ?_) fun fr => rfl
        unfold boolF at e
        rw [Option.bind_eq_some_iff] at e
        obtain ⟨x, e1, e⟩ := e
        rw [Option.bind_eq_some_iff] at e
        obtain ⟨k2, e2, e⟩ := e
        refine ⟨Z, fr, ph, x, k2, F, e1, e2, fun H' k' => ?_⟩
        cases k2 with
        | false =>
          rw [if_neg (by decide)]
          exact ⟨Z, fr, ph, o, k, F.grow k', e, et, fun H2 k2 => q H2 (k'.trans k2)⟩
        | true =>
          rw [if_pos rfl]
          cases e
          rw [e2] at et
          cases et
          exact q H' k'
theorem ptI2 {e : Expr} {t t' : TT} (h : PT X e t) (i : ∀ σ H Q, t' σ H Q → t σ H Q) : PT X e t' := ptI h i
theorem if_ok {n : Nat} (ih : PureOk G E X sc n) {t a b : Expr} {pos : Pos} :
    PE X (.IfExp t a b pos) (tP G fun fr => evP E sc fr (n + 1) (.IfExp t a b pos)) ∧ PT X (.IfExp t a b pos) (tPT G fun fr => evP E sc fr (n + 1) (.IfExp t a b pos)) := by
  constructor
  · refine peI (pe_ifExp (ih.t t) (ih.e a) (ih.e b)) fun σ H Q ⟨Z, fr, ph, o, F, e, q⟩ => ?_
    dsimp only at e
    rw [evP, Option.bind_eq_some_iff] at e
    obtain ⟨x, e1, e⟩ := e
    rw [Option.bind_eq_some_iff] at e
    obtain ⟨k, e2, e⟩ := e
    refine ⟨Z, fr, ph, x, k, F, e1, e2, fun H' k' => ?_⟩
    cases k with
    | true =>
      rw [if_pos rfl]
      exact ⟨Z, fr, ph, o, F.grow k', e, fun v2 H2 k2 r2 => q v2 H2 (k'.trans k2) r2⟩
    | false =>
      rw [if_neg (by decide)]
      exact ⟨Z, fr, ph, o, F.grow k', e, fun v2 H2 k2 r2 => q v2 H2 (k'.trans k2) r2⟩
  · refine ⟨fun pins s σ H Q I h => ?_⟩
    obtain ⟨Z, fr, ph, o, k0, F, e, et, q⟩ := h
    dsimp only at e
    rw [evP, Option.bind_eq_some_iff] at e
    obtain ⟨x, e1, e⟩ := e
    rw [Option.bind_eq_some_iff] at e
    obtain ⟨k, e2, e⟩ := e
    refine isTrue_IfExp (thn ((ih.t t).run pins s σ H (fun k' H' => k' = k ∧ Grow H H') I ⟨Z, fr, ph, x, k, F, e1, e2, fun H' k' => ⟨rfl, k'⟩⟩) fun c s1 hc => ?_)
    obtain ⟨H1, I1, rfl, k1⟩ := hc
    cases c with
    | true => exact (ih.t a).run pins s1 σ H1 Q I1 ⟨Z, fr, ph, o, k0, F.grow k1, e, et, fun H2 k2 => q H2 (k1.trans k2)⟩
    | false => exact (ih.t b).run pins s1 σ H1 Q I1 ⟨Z, fr, ph, o, k0, F.grow k1, e, et, fun H2 k2 => q H2 (k1.trans k2)⟩
theorem un_ok {n : Nat} (L : Lk G E X sc) (ih : PureOk G E X sc n) {op : UnaryOp} {a : Expr} {pos : Pos} :
    PE X (.UnaryOp op a pos) (tP G fun fr => evP E sc fr (n + 1) (.UnaryOp op a pos)) ∧ PT X (.UnaryOp op a pos) (tPT G fun fr => evP E sc fr (n + 1) (.UnaryOp op a pos)) := by
  cases op with
  | Not =>
    constructor
    · refine peI (pe_notT (ih.e a)) fun σ H Q ⟨Z, fr, ph, o, F, e, q⟩ => ?_
      dsimp only at e
      rw [evP] at e
      simp only [Option.bind_eq_some_iff, Option.map_eq_some_iff] at e
      obtain ⟨x, e1, k, e2, e3⟩ := e
      subst e3
      exact ⟨Z, fr, ph, x, F, e1, fun v H' k' r => ⟨k, by rw [L.K]; exact tru_rd r.any e2, q _ H' k' (.of (.bl _))⟩⟩
    · refine ptI (pt_not (ih.t a)) fun σ H Q ⟨Z, fr, ph, o, k0, F, e, et, q⟩ => ?_
      dsimp only at e
      rw [evP] at e
      simp only [Option.bind_eq_some_iff, Option.map_eq_some_iff] at e
      obtain ⟨x, e1, k, e2, e3⟩ := e
      subst e3
      obtain rfl : (!k) = k0 := Option.some.inj et
      exact ⟨Z, fr, ph, x, k, F, e1, e2, fun H' k' => q H' k'⟩
  | USub =>
    have hE : PE X (.UnaryOp .USub a pos) (tP G fun fr => evP E sc fr (n + 1) (.UnaryOp .USub a pos)) := by
      refine peI (pe_un un_neg (ih.e a)) fun σ H Q ⟨Z, fr, ph, o, F, e, q⟩ => ?_
      dsimp only at e
      rw [evP] at e
      simp only [Option.bind_eq_some_iff] at e
      obtain ⟨x, e1, e⟩ := e
      split at e
      · rename_i i ex
        cases e
        refine ⟨Z, fr, ph, x, F, e1, fun v H' k' r => ?_⟩
        have rr := r.any
        rw [ex] at rr
        cases rr
        exact ⟨i, rfl, q _ H' k' (.of (.int _))⟩
      · cases e
    exact ⟨hE, pt_plain (n := n) L hE rfl⟩
  | _ => exact ⟨pe_none (tP_no fun fr => rfl), pt_none (tPT_no fun fr => rfl)⟩
theorem cmp_ok {n : Nat} (L : Lk G E X sc) (ih : PureOk G E X sc n) {a : Expr} {ops : List CmpOp} {bs : List Expr} {pos : Pos} :
    PE X (.Compare a ops bs pos) (tP G fun fr => evP E sc fr (n + 1) (.Compare a ops bs pos)) ∧ PT X (.Compare a ops bs pos) (tPT G fun fr => evP E sc fr (n + 1) (.Compare a ops bs pos)) := by
  have nope : (∀ fr, evP E sc fr (n + 1) (.Compare a ops bs pos) = none) → PE X (.Compare a ops bs pos) (tP G fun fr => evP E sc fr (n + 1) (.Compare a ops bs pos)) ∧ PT X (.Compare a ops bs pos) (tPT G fun fr => evP E sc fr (n + 1) (.Compare a ops bs pos)) :=
    fun h => ⟨pe_none (tP_no h), pt_none (tPT_no h)⟩
  match ops, bs with
  | [op], [b] =>
    have h := cmp1_ok (op := op) (a := a) (b := b) (pos := pos) L ih
    exact ⟨peE h.1 fun fr => rfl, ptE h.2 fun fr => rfl⟩
  | [op, op'], [b, c] =>
    have h := cmp2_ok (op := op) (op' := op') (a := a) (b := b) (c := c) (pos := pos) L ih
    exact ⟨peE h.1 fun fr => rfl, ptE h.2 fun fr => rfl⟩
  | [], _ => exact nope fun fr => by rw [evP]; cases evP E sc fr n a <;> rfl
  | [_], [] => exact nope fun fr => by rw [evP]; cases evP E sc fr n a <;> rfl
  | [_], _ :: _ :: _ => exact nope fun fr => by rw [evP]; cases evP E sc fr n a <;> rfl
  | [_, _], [] => exact nope fun fr => by rw [evP]; cases evP E sc fr n a <;> rfl
  | [_, _], [_] => exact nope fun fr => by rw [evP]; cases evP E sc fr n a <;> rfl
  | [_, _], _ :: _ :: _ :: _ => exact nope fun fr => by rw [evP]; cases evP E sc fr n a <;> rfl
  | _ :: _ :: _ :: _, _ => exact nope fun fr => by rw [evP]; cases evP E sc fr n a <;> rfl
theorem pure_step {n : Nat} (L : Lk G E X sc) (ih : PureOk G E X sc n) : PureOk G E X sc (n + 1) := by
  have val : ∀ e, PE X e (tP G fun fr => evP E sc fr (n + 1) e) := fun e => by
    cases e with
    | BoolOp op es pos => exact (bool_val L ih).1
    | BinOp a op b pos => exact peE (bin_ok (pos := pos) L ih) fun fr => rfl
    | UnaryOp op a pos => exact (un_ok L ih).1
    | IfExp t a b pos => exact (if_ok ih).1
    | Compare a ops bs pos => exact (cmp_ok L ih).1
    | Call f as kw pos => exact call_ok L ih
    | Constant c k pos => exact peE (const_ok (pos := pos)) fun fr => by rw [evP]
    | Subscript a b pos => exact peE (sub_ok (pos := pos) L ih) fun fr => by rw [evP]
    | Name x pos => exact peE (nameP_ok (pos := pos) L) fun fr => by rw [evP]
    | Tuple es k pos => exact peE (tup_ok (pos := pos) ih) fun fr => by rw [evP]
    | _ => exact pe_none (tP_no fun fr => rfl)
  refine ⟨val, fun e => ?_, fun op es pos => (bool_val L ih).2⟩
  cases e with
  | BoolOp op es pos => exact (bool_val L ih).2.pt
  | UnaryOp op a pos => exact (un_ok L ih).2
  | IfExp t a b pos => exact (if_ok ih).2
  | Compare a ops bs pos => exact (cmp_ok L ih).2
  | _ => exact pt_plain (n := n) L (val _) rfl
theorem pure_ok (L : Lk G E X sc) : ∀ n, PureOk G E X sc n
  | 0 => ⟨fun e => pe_none (tP_no fun fr => by cases e <;> rfl), fun e => pt_none (tPT_no fun fr => by cases e <;> rfl), fun op es pos => pw_none (tPT_no fun fr => rfl)⟩
  | n + 1 => pure_step L (pure_ok L n)
end Bw

set_option maxHeartbeats 4000000
namespace Bw
open PySem PySem.Spec PyProof.Rows L2

/-! ### equality of trees, told -/
def beqStr (a b : Str) : Bool := decide (a = b)
def beqKey (a b : Key) : Bool := decide (a = b)
def beqKeys (a b : List Key) : Bool := decide (a = b)
mutual
def beqD : D → D → Bool
  | .non, .non => true
  | .bl a, .bl b => a == b
  | .int a, .int b => decide (a = b)
  | .str a, .str b => beqStr a b
  | .tup a, .tup b => beqDs a b
  | .lst a, .lst b => beqDs a b
  | .dic a, .dic b => beqDk a b
  | .dit a, .dit b => beqDt a b
  | .ins c a, .ins e b => beqStr c e && beqDf a b
  | _, _ => false
termination_by structural a => a
def beqDs : List D → List D → Bool
  | [], [] => true
  | a :: r, b :: s => beqD a b && beqDs r s
  | _, _ => false
termination_by structural a => a
def beqDk : List (Key × D) → List (Key × D) → Bool
  | [], [] => true
  | (k, a) :: r, (l, b) :: s => beqKey k l && beqD a b && beqDk r s
  | _, _ => false
termination_by structural a => a
def beqDt : List (List Key × D) → List (List Key × D) → Bool
  | [], [] => true
  | (k, a) :: r, (l, b) :: s => beqKeys k l && beqD a b && beqDt r s
  | _, _ => false
termination_by structural a => a
def beqDf : List (Str × D) → List (Str × D) → Bool
  | [], [] => true
  | (k, a) :: r, (l, b) :: s => beqStr k l && beqD a b && beqDf r s
  | _, _ => false
termination_by structural a => a
end
mutual
def beqT : T → T → Bool
  | .d a, .d b => beqD a b
  | .lst a, .lst b => beqTs a b
  | .dic a, .dic b => beqDk a b
  | .dit a, .dit b => beqDt a b
  | .ins c a, .ins e b => beqStr c e && beqTf a b
  | _, _ => false
termination_by structural a => a
def beqTs : List T → List T → Bool
  | [], [] => true
  | a :: r, b :: s => beqT a b && beqTs r s
  | _, _ => false
termination_by structural a => a
def beqTf : List (Str × T) → List (Str × T) → Bool
  | [], [] => true
  | (k, a) :: r, (l, b) :: s => beqStr k l && beqT a b && beqTf r s
  | _, _ => false
termination_by structural a => a
end
mutual
theorem beqD_eq : ∀ {a b : D}, beqD a b = true → a = b
  | .non, b, h => by cases b <;> first | rfl | (simp [beqD] at h; done)
  | .bl a, b, h => by cases b <;> simp [beqD] at h <;> rw [h]
  | .int a, b, h => by cases b <;> simp [beqD] at h <;> rw [h]
  | .str a, b, h => by cases b <;> simp [beqD, beqStr] at h <;> rw [h]
  | .tup a, b, h => by cases b <;> simp [beqD] at h <;> rw [beqDs_eq h]
  | .lst a, b, h => by cases b <;> simp [beqD] at h <;> rw [beqDs_eq h]
  | .dic a, b, h => by cases b <;> simp [beqD] at h <;> rw [beqDk_eq h]
  | .dit a, b, h => by cases b <;> simp [beqD] at h <;> rw [beqDt_eq h]
  | .ins c a, b, h => by cases b <;> simp [beqD, beqStr] at h <;> rw [beqDf_eq h.2, h.1]
theorem beqDs_eq : ∀ {a b : List D}, beqDs a b = true → a = b
  | [], b, h => by cases b <;> first | rfl | (simp [beqDs] at h; done)
  | a :: r, b, h => by cases b <;> simp [beqDs] at h <;> rw [beqD_eq h.1, beqDs_eq h.2]
theorem beqDk_eq : ∀ {a b : List (Key × D)}, beqDk a b = true → a = b
  | [], b, h => by cases b <;> first | rfl | (simp [beqDk] at h; done)
  | (k, a) :: r, b, h => by
    cases b with
    | nil => simp [beqDk] at h
    | cons p s =>
      obtain ⟨l, b⟩ := p
      rw [beqDk, Bool.and_eq_true, Bool.and_eq_true] at h
      rw [beqD_eq h.1.2, beqDk_eq h.2, of_decide_eq_true h.1.1]
theorem beqDt_eq : ∀ {a b : List (List Key × D)}, beqDt a b = true → a = b
  | [], b, h => by cases b <;> first | rfl | (simp [beqDt] at h; done)
  | (k, a) :: r, b, h => by
    cases b with
    | nil => simp [beqDt] at h
    | cons p s =>
      obtain ⟨l, b⟩ := p
      rw [beqDt, Bool.and_eq_true, Bool.and_eq_true] at h
      rw [beqD_eq h.1.2, beqDt_eq h.2, of_decide_eq_true h.1.1]
theorem beqDf_eq : ∀ {a b : List (Str × D)}, beqDf a b = true → a = b
  | [], b, h => by cases b <;> first | rfl | (simp [beqDf] at h; done)
  | (k, a) :: r, b, h => by
    cases b with
    | nil => simp [beqDf] at h
    | cons p s =>
      obtain ⟨l, b⟩ := p
      rw [beqDf, Bool.and_eq_true, Bool.and_eq_true] at h
      rw [beqD_eq h.1.2, beqDf_eq h.2, of_decide_eq_true h.1.1]
end
mutual
theorem beqT_eq : ∀ {a b : T}, beqT a b = true → a = b
  | .d a, b, h => by cases b <;> simp [beqT] at h <;> rw [beqD_eq h]
  | .lst a, b, h => by cases b <;> simp [beqT] at h <;> rw [beqTs_eq h]
  | .dic a, b, h => by cases b <;> simp [beqT] at h <;> rw [beqDk_eq h]
  | .dit a, b, h => by cases b <;> simp [beqT] at h <;> rw [beqDt_eq h]
  | .ins c a, b, h => by cases b <;> simp [beqT, beqStr] at h <;> rw [beqTf_eq h.2, h.1]
theorem beqTs_eq : ∀ {a b : List T}, beqTs a b = true → a = b
  | [], b, h => by cases b <;> first | rfl | (simp [beqTs] at h; done)
  | a :: r, b, h => by cases b <;> simp [beqTs] at h <;> rw [beqT_eq h.1, beqTs_eq h.2]
theorem beqTf_eq : ∀ {a b : List (Str × T)}, beqTf a b = true → a = b
  | [], b, h => by cases b <;> first | rfl | (simp [beqTf] at h; done)
  | (k, a) :: r, b, h => by
    cases b with
    | nil => simp [beqTf] at h
    | cons p s =>
      obtain ⟨l, b⟩ := p
      rw [beqTf, Bool.and_eq_true, Bool.and_eq_true] at h
      rw [beqT_eq h.1.2, beqTf_eq h.2, of_decide_eq_true h.1.1]
end
mutual
theorem beqD_refl : ∀ a : D, beqD a a = true
  | .non => rfl
  | .bl a => by simp [beqD]
  | .int a => by simp [beqD]
  | .str a => by simp [beqD, beqStr]
  | .tup a => by rw [beqD]; exact beqDs_refl a
  | .lst a => by rw [beqD]; exact beqDs_refl a
  | .dic a => by rw [beqD]; exact beqDk_refl a
  | .dit a => by rw [beqD]; exact beqDt_refl a
  | .ins c a => by rw [beqD, beqDf_refl a]; simp [beqStr]
theorem beqDs_refl : ∀ a : List D, beqDs a a = true
  | [] => rfl
  | a :: r => by rw [beqDs, beqD_refl a, beqDs_refl r]; rfl
theorem beqDk_refl : ∀ a : List (Key × D), beqDk a a = true
  | [] => rfl
  | (k, a) :: r => by rw [beqDk, beqD_refl a, beqDk_refl r]; simp [beqKey]
theorem beqDt_refl : ∀ a : List (List Key × D), beqDt a a = true
  | [] => rfl
  | (k, a) :: r => by rw [beqDt, beqD_refl a, beqDt_refl r]; simp [beqKeys]
theorem beqDf_refl : ∀ a : List (Str × D), beqDf a a = true
  | [] => rfl
  | (k, a) :: r => by rw [beqDf, beqD_refl a, beqDf_refl r]; simp [beqStr]
end
mutual
theorem beqT_refl : ∀ a : T, beqT a a = true
  | .d a => by rw [beqT]; exact beqD_refl a
  | .lst a => by rw [beqT]; exact beqTs_refl a
  | .dic a => by rw [beqT]; exact beqDk_refl a
  | .dit a => by rw [beqT]; exact beqDt_refl a
  | .ins c a => by rw [beqT, beqTf_refl a]; simp [beqStr]
theorem beqTs_refl : ∀ a : List T, beqTs a a = true
  | [] => rfl
  | a :: r => by rw [beqTs, beqT_refl a, beqTs_refl r]; rfl
theorem beqTf_refl : ∀ a : List (Str × T), beqTf a a = true
  | [] => rfl
  | (k, a) :: r => by rw [beqTf, beqT_refl a, beqTf_refl r]; simp [beqStr]
end

end Bw

set_option maxHeartbeats 4000000
namespace Bw
open PySem PySem.Spec PyProof.Rows L2

/-! ### built-ins and methods on data -/
def okk (x : Opd) : Bool := !x.2 || imm x.1
/-- the items of a sequence that go into a new one -/
def itemsO (x : Opd) : Option (List D) := (seqD x.1).bind fun ds => if !x.2 || imms ds then some ds else none
def sumI : List Int → Int
  | [] => 0
  | i :: r => i + sumI r
def insI (x : Int) : List Int → List Int
  | [] => [x]
  | y :: r => if x ≤ y then x :: y :: r else y :: insI x r
def sortI : List Int → List Int
  | [] => []
  | x :: r => insI x (sortI r)
theorem insI_perm (x : Int) : ∀ l : List Int, (insI x l).Perm (x :: l)
  | [] => List.Perm.refl _
  | y :: r => by
    rw [insI]
    split
    · exact List.Perm.refl _
    · exact ((insI_perm x r).cons y).trans (List.Perm.swap x y r)
theorem sortI_perm : ∀ l : List Int, (sortI l).Perm l
  | [] => List.Perm.refl _
  | x :: r => (insI_perm x (sortI r)).trans ((sortI_perm r).cons x)
theorem insI_sorted (x : Int) : ∀ l : List Int, l.Pairwise (· ≤ ·) → (insI x l).Pairwise (· ≤ ·)
  | [], _ => List.pairwise_singleton _ _
  | y :: r, h => by
    rw [insI]
    have h' := List.pairwise_cons.mp h
    split
    · rename_i c
      exact List.pairwise_cons.mpr ⟨fun z m => by
        rcases List.mem_cons.mp m with rfl | m
        · exact c
        · exact Int.le_trans c (h'.1 z m), h⟩
    · rename_i c
      refine List.pairwise_cons.mpr ⟨fun z m => ?_, insI_sorted x r h'.2⟩
      rcases List.mem_cons.mp ((insI_perm x r).mem_iff.mp m) with rfl | m
      · omega
      · exact h'.1 z m
theorem sortI_sorted : ∀ l : List Int, (sortI l).Pairwise (· ≤ ·)
  | [] => List.Pairwise.nil
  | x :: r => insI_sorted x _ (sortI_sorted r)
def strOk (i : Int) : Bool := decide (i.natAbs.log2 < 1920)
def blt1 (g : Str) (x : Opd) : Option T :=
  if g = "len" then (lenD x.1).map fun (k : Nat) => .d (.int (k : Int))
  else if g = "int" then (match x.1 with | .int i => some (.d (.int i)) | .bl b => some (.d (.int (if b then 1 else 0))) | _ => none)
  else if g = "str" then (match x.1 with | .int i => if strOk i then some (.d (.str (toString i))) else none | _ => none)
  else if g = "tuple" then (itemsO x).map fun ds => .d (.tup ds)
  else if g = "list" then (itemsO x).map fun ds => .lst (ds.map .d)
  else if g = "sum" then (match x.1 with | .lst ds => (intsD ds).map fun ns => .d (.int ns.sum) | _ => none)
  else if g = "all" then (match x.1 with | .lst ds => (blsD ds).map fun bs => .d (.bl (bs.all id)) | _ => none)
  else if g = "any" then (match x.1 with | .lst ds => (blsD ds).map fun bs => .d (.bl (bs.any id)) | _ => none)
  else if g = "sorted" then (seqD x.1).bind fun ds => (intsD ds).map fun ns => .lst ((sortI ns).map fun i => .d (.int i))
  else none
def blt2 (g : Str) (x y : D) : Option T :=
  if g = "min" then (match x, y with | .int i, .int j => some (.d (.int (if j < i then j else i))) | _, _ => none)
  else if g = "max" then (match x, y with | .int i, .int j => some (.d (.int (if j > i then j else i))) | _, _ => none)
  else none
def lastT (ts : List T) : Option T := ts[ts.length - 1]?
/-- a method that changes its object: what it gives, what the object becomes -/
def mutT (m : Str) (t : T) (as : List T) : Option (T × T) := match t with
  | .lst ts =>
    if m = "append" then (match as with | [u] => if Nat.blt ts.length 16777216 then some (.d .non, .lst (ts ++ [u])) else none | _ => none)
    else if m = "pop" then (match as with | [] => (lastT ts).map fun u => (u, .lst ts.dropLast) | _ => none)
    else if m = "reverse" then (match as with | [] => some (.d .non, .lst ts.reverse) | _ => none)
    else none
  | .dic kvs =>
    if m = "setdefault" then (match as with
      | [.d k, .d v] => (keyD k).bind fun k => if Nat.blt kvs.length 16777216 then (match findK k kvs with
        | some w => some (.d w, .dic kvs)
        | none => some (.d v, .dic (kvs ++ [(k, v)]))) else none
      | _ => none)
    else none
  | _ => none
/-- a method that changes nothing -/
def methD (m : Str) (x : D) (as : List D) : Option D :=
  if m = "count" then (match x, as with
    | .tup ds, [.int k] => (intsD ds).map fun ns => .int (ns.count k)
    | .lst ds, [.int k] => (intsD ds).map fun ns => .int (ns.count k)
    | _, _ => none)
  else none
def sliceO (x : Opd) (lo hi : Option Int) : Option T := (match x.1 with
  | .lst ds => if !x.2 || imms ds then some (.lst (((ds.drop (HT.sIx ds.length 0 lo)).take (HT.sIx ds.length ds.length hi - HT.sIx ds.length 0 lo)).map .d)) else none
  | .tup ds => if !x.2 || imms ds then some (.d (.tup ((ds.drop (HT.sIx ds.length 0 lo)).take (HT.sIx ds.length ds.length hi - HT.sIx ds.length 0 lo)))) else none
  | _ => none)
def revO (x : Opd) : Option T := (match x.1 with
  | .lst ds => if !x.2 || imms ds then some (.lst (ds.reverse.map .d)) else none
  | .tup ds => if !x.2 || imms ds then some (.d (.tup ds.reverse)) else none
  | _ => none)
/-- d[k] = v on an owned tree -/
def storeT (t : T) (k : D) (u : T) : Option T := match t with
  | .lst ts => (match k with | .int i => (ixN ts.length i).map fun j => .lst (ts.set j u) | _ => none)
  | .dic kvs => (match u with
    | .d v => (keyD k).bind fun k => if Nat.blt kvs.length 16777216 then some (.dic (if (findK k kvs).isSome then kvs.map (fun kv => if kv.1 = k then (kv.1, v) else kv) else kvs ++ [(k, v)])) else none
    | _ => none)
  | _ => none

/-! ### the evaluator -/
inductive ArgT where
  | ref (i : Nat)
  | val (t : T)
def argT (fr : Fr) : ArgT → Option T
  | .ref i => getS fr i
  | .val t => some t
def params (args : List ArgT) : Shape → Option (List ArgT)
  | [] => some []
  | .inl k :: r => match args[k]?, params args r with
    | some a, some as => some (a :: as)
    | _, _ => none
  | .inr d :: r => (params args r).map (.val (.d d) :: ·)
def inls : Shape → List Nat
  | [] => []
  | .inl k :: r => k :: inls r
  | .inr _ :: r => inls r
def refsOf : List ArgT → List Nat
  | [] => []
  | .ref i :: r => i :: refsOf r
  | .val _ :: r => refsOf r
/-- the slots handed over by name get back what the callee left -/
def wb (fr : Fr) : List ArgT → Fr → Fr
  | .ref i :: r, c :: cs => (wb fr r cs).set i c
  | .val _ :: r, _ :: cs => wb fr r cs
  | _, _ => fr
def nodupN : List Nat → Bool
  | [] => true
  | a :: r => !r.contains a && nodupN r
def callM (E : Ev) (g : Str) (ps : List ArgT) : M T := fun fr =>
  if nodupN (refsOf ps) then
    match ps.mapM (argT fr) with
    | some ts => (match E.call g ts with
      | .ok t cs => if cs.length = ps.length then .ok t (wb fr ps cs) else .stuck
      | .exn x cs => if cs.length = ps.length then .exn x (wb fr ps cs) else .stuck
      | .stuck => .stuck)
    | none => .stuck
  else .stuck
/-- what a loop walks: the items; the slot that must stay as it is -/
structure Src where
  items : List D
  guard : Option (Nat × T)
  pairs : Bool
def guardOk (s : Src) (fr : Fr) : Bool := match s.guard with
  | none => true
  | some (i, t) => match getS fr i with
    | some u => beqT u t
    | none => false
def rootE : Expr → Option Str
  | .Name x _ => some x
  | .Subscript o _ _ => rootE o
  | .Attribute o _ _ => rootE o
  | _ => none
def rangeI (lo hi : Int) : List D := (List.range (hi - lo).toNat).map fun k => .int (lo + (k : Nat))
def fit62 (i : Int) : Bool := decide (-(2 ^ 62) ≤ i) && decide (i < 2 ^ 62)
def enumD (ds : List D) : List D := ds.zipIdx.map fun p => .tup [.int (p.2 : Nat), p.1]
def isLoc (sc : Scope) (x : Str) : Bool := match sc.names.lookup x with
  | some .local => true
  | some .cell => true
  | _ => false
/-- a simple target: one name, or a tuple of names -/
def tgt (N : List Str) (sc : Scope) : Expr → Option (Sum Nat (List Nat))
  | .Name x _ => if isLoc sc x then (slotOf N x).map .inl else none
  | .Tuple es _ _ => (namesE es).bind fun xs => (xs.mapM fun x => if isLoc sc x then slotOf N x else none).map .inr
  | _ => none
def setMany : Fr → List Nat → List D → Option Fr
  | fr, [], [] => some fr
  | fr, i :: is, d :: ds => setMany (fr.set i (some (.d d))) is ds
  | _, _, _ => none
def storeTg (t : Sum Nat (List Nat)) (pairs : Bool) (d : D) (fr : Fr) : Option Fr := match t with
  | .inl i => if pairs then none else some (fr.set i (some (.d d)))
  | .inr is => match d with
    | .tup ds => setMany fr is ds
    | _ => none
def ownOf (N : List Str) (scope : Scope) : List (Str × Nat) := scope.names.filterMap fun p => match p.2 with
  | .local => (slotOf N p.1).map fun i => (p.1, i)
  | .cell => (slotOf N p.1).map fun i => (p.1, i)
  | _ => none
def wipeF (fr : Fr) : List Nat → Fr
  | [] => fr
  | i :: r => (wipeF fr r).set i none
/-- the slots is get back what they held in old -/
def backF (old : Fr) (fr : Fr) : List Nat → Fr
  | [] => fr
  | i :: r => (backF old fr r).set i (old[i]?.join)
def ownIx (N : List Str) (scope : Scope) : List Nat := (ownOf N scope).map (·.2)
/-- a block's own slots hold nothing that could still be changed -/
def ownOk (fr : Fr) (own : List Nat) : Bool := own.all fun i => match fr[i]? with
  | some none => true
  | some (some (.d _)) => true
  | _ => false
def guardFree (s : Src) (own : List Nat) : Bool := match s.guard with
  | none => true
  | some (i, _) => !own.contains i
def isTup : Expr → Bool
  | .Tuple .. => true
  | _ => false
def tgIx : Sum Nat (List Nat) → List Nat
  | .inl i => [i]
  | .inr is => is
def kwNames : List Keyword → Option (List Str)
  | [] => some []
  | ⟨some x, _, _⟩ :: r => (kwNames r).map (x :: ·)
  | ⟨none, _, _⟩ :: _ => none
def withFlags (E : Ev) (g : Str) : Nat → List Expr → List (Expr × Bool)
  | _, [] => []
  | k, e :: r => (e, E.byref g k) :: withFlags E g (k + 1) r
def kwVals (kws : List Keyword) : List Expr := kws.map (·.value)
def isStar : Expr → Bool
  | .Starred .. => true
  | _ => false
def nostar : List Expr → Bool
  | [] => true
  | e :: r => !isStar e && nostar r
def isB1 (g : Str) : Bool := g = "len" || g = "int" || g = "str" || g = "tuple" || g = "list" || g = "sum" || g = "all" || g = "any" || g = "sorted"
def isB2 (g : Str) : Bool := g = "min" || g = "max"
/-- 0 a list, 1 a tuple, 2 a dict -/
def kindT : T → Nat
  | .lst _ => 0
  | .d (.lst _) => 0
  | .d (.tup _) => 1
  | .dic _ => 2
  | _ => 3
def okMeth (m : Str) (k n : Nat) : Bool := match k with
  | 0 => (m = "append" && n == 1) || (m = "pop" && n == 0) || (m = "reverse" && n == 0) || (m = "count" && n == 1)
  | 1 => m = "count" && n == 1
  | 2 => m = "setdefault" && n == 2
  | _ => false
def methA (m : Str) (i : Nat) (t : T) (ts : List T) : M T := fun fr =>
  if m = "count" then (match methD m (fz t) (fzs ts) with
    | some d => .ok (.d d) fr
    | none => .stuck)
  else (match mutT m t ts with
    | some (r, t') => .ok r (fr.set i (some t'))
    | none => .stuck)
/-- a method of what the i-th slot holds -/
def methM (m : Str) (k i : Nat) (ts : List T) : M T := fun fr => match getS fr i with
  | some t => if kindT t = k then methA m i t ts fr else .stuck
  | none => .stuck
/-- an argument that is handed over by its slot -/
def refName (E : Ev) (sc : Scope) (fr : Fr) (br : Bool) : Expr → Option Nat
  | .Name x _ => if br && isSlot sc x && okName x then (match slotOf E.N x with
      | some i => (match getS fr i with
        | some (.d _) => none
        | some _ => some i
        | none => none)
      | none => none) else none
  | _ => none
/-- -1 -/
def isM1 : Expr → Bool
  | .UnaryOp .USub (.Constant (.int 1) _ _) _ => true
  | _ => false
/-- an expression that evP alone evaluates -/
def pureX (E : Ev) (sc : Scope) : Nat → Expr → Bool
  | 0, _ => false
  | _ + 1, .Constant .. => true
  | _ + 1, .Name .. => true
  | n + 1, .Subscript o i _ => !isSlice i && pureX E sc n o && pureX E sc n i
  | n + 1, .BinOp a _ b _ => pureX E sc n a && pureX E sc n b
  | n + 1, .UnaryOp _ a _ => pureX E sc n a
  | n + 1, .Compare a _ bs _ => pureX E sc n a && bs.all (pureX E sc n)
  | n + 1, .BoolOp _ es _ => es.all (pureX E sc n)
  | n + 1, .IfExp t a b _ => pureX E sc n t && pureX E sc n a && pureX E sc n b
  | n + 1, .Tuple es _ _ => es.all (pureX E sc n)
  | n + 1, .Call f as [] _ => (isGl E sc f "len" || isGl E sc f "isinstance") && as.all (pureX E sc n)
  | _ + 1, _ => false
section
variable (E : Ev)
def frzSlot (i : Nat) : M T := fun fr => match getS fr i with
  | some t => .ok (.d (fz t)) (fr.set i (some (.d (fz t))))
  | none => .stuck
/-- a comprehension's turns -/
def compL (own : List Nat) (tg : Sum Nat (List Nat)) (test : M Bool) (elt : M T) (s : Src) : List D → List T → M (List T)
  | [], acc => fun fr => if guardOk s fr then .ok acc fr else .stuck
  | x :: r, acc => fun fr => if guardOk s fr then
      match storeTg tg s.pairs x fr with
      | some fr1 => (match test fr1 with
        | .ok true fr2 => (match elt fr2 with
          | .ok t fr3 => if Nat.blt acc.length 16777216 then compL own tg test elt s r (acc ++ [t]) (wipeF fr3 own) else .stuck
          | _ => .stuck)
        | .ok false fr2 => compL own tg test elt s r acc (wipeF fr2 own)
        | _ => .stuck)
      | none => .stuck
    else .stuck
def compL2 (own : List Nat) (tg : Sum Nat (List Nat)) (test : M Bool) (src1 : M Src) (own1 : List Nat) (tg1 : Sum Nat (List Nat)) (test1 : M Bool) (elt : M T) (s : Src) : List D → List T → M (List T)
  | [], acc => fun fr => if guardOk s fr then .ok acc fr else .stuck
  | x :: r, acc => fun fr => if guardOk s fr then
      match storeTg tg s.pairs x fr with
      | some fr1 => (match test fr1 with
        | .ok true fr2 => (match src1 fr2 with
          | .ok s1 fr3 => if guardFree s1 own1 then (match compL own1 tg1 test1 elt s1 s1.items acc (wipeF fr3 own1) with
            | .ok acc' fr4 => compL2 own tg test src1 own1 tg1 test1 elt s r acc' (wipeF fr4 own)
            | _ => .stuck) else .stuck
          | _ => .stuck)
        | .ok false fr2 => compL2 own tg test src1 own1 tg1 test1 elt s r acc (wipeF fr2 own)
        | _ => .stuck)
      | none => .stuck
    else .stuck
/-- a slot that is walked by its name -/
def walkName (e : Expr) (fr : Fr) : Option (Nat × T) := match e with
  | .Name y _ => (slotOf E.N y).bind fun i => (getS fr i).map fun t => (i, t)
  | _ => none
def range1 : D → Option Src
  | .int j => if fit62 j then some ⟨rangeI 0 j, none, false⟩ else none
  | _ => none
def range2 : D → D → Option Src
  | .int i, .int j => if fit62 i && fit62 j then some ⟨rangeI i j, none, false⟩ else none
  | _, _ => none
/-- what is walked is frozen first -/
def frzWalk (sc : Scope) (n : Nat) (e : Expr) : M Src := fun fr => match (rootE e).bind (slotOf E.N) with
  | some i => (match getS fr i with
    | some t => (match evP E sc (fr.set i (some (.d (fz t)))) n e with
      | some (d, false) => (match seqD d with
        | some ds => .ok ⟨ds, none, false⟩ (fr.set i (some (.d (fz t))))
        | none => .stuck)
      | _ => .stuck)
    | none => .stuck)
  | none => .stuck
def evPart (sc : Scope) (fr : Fr) : Nat → Option Expr → Option (Option Int)
  | _, none => some none
  | n, some e => match evP E sc fr n e with
    | some (.int i, _) => some (some i)
    | _ => none
mutual
def evV (sc : Scope) : Nat → Expr → M T
  | 0, _ => fun _ => .stuck
  | n + 1, e => if pureX E sc (n + 1) e then (fun fr => match evP E sc fr (n + 1) e with
    | some x => if okk x then .ok (.d x.1) fr else (match e with
      | .Name y _ => (match slotOf E.N y with
        | some i => frzSlot i fr
        | none => .stuck)
      | _ => .stuck)
    | none => (match e with
      | .BinOp .. => evC sc n e fr
      | _ => .stuck)) else evC sc n e
/-- an operand: read in place where it is pure, else made and frozen -/
def evO (sc : Scope) : Nat → Expr → M Opd
  | 0, _ => fun _ => .stuck
  | n + 1, e => if pureX E sc (n + 1) e then (fun fr => match evP E sc fr (n + 1) e with
    | some x => .ok x fr
    | none => .stuck) else (evC sc n e).bind fun t => .pure (fz t, false)
def evC (sc : Scope) : Nat → Expr → M T
  | 0, _ => fun _ => .stuck
  | n + 1, .List es _ => (evVs sc n es).bind fun ts => if lineB ts.length then .pure (.lst ts) else fun _ => .stuck
  | n + 1, .Tuple es _ _ => (evVs sc n es).bind fun ts => if lineB ts.length then .pure (.d (.tup (fzs ts))) else fun _ => .stuck
  | n + 1, .BinOp a op b _ => (ev2 sc n a b).bind fun xy => .ofO (binD op xy.1 xy.2)
  | n + 1, .UnaryOp .Not a _ => (evO sc n a).bind fun x => .ofO ((truD x.1).map fun k => .d (.bl (!k)))
  | n + 1, .Compare a [op] [b] _ => if isSet b then (fun _ => .stuck) else (ev2 sc n a b).bind fun xy => .ofO ((cmpD op xy.1.1 xy.2.1).map fun k => .d (.bl k))
  | n + 1, .BoolOp op [a] _ => evV sc n a
  | n + 1, .BoolOp op (a :: b :: r) pos => (evV sc n a).bind fun t => (M.ofO (truD (fz t))).bind fun k => match op with
    | .And => if k then evV sc n (.BoolOp .And (b :: r) pos) else .pure t
    | .Or => if k then .pure t else evV sc n (.BoolOp .Or (b :: r) pos)
  | n + 1, .IfExp t a b _ => (evT sc n t).bind fun k => if k then evV sc n a else evV sc n b
  | n + 1, .Subscript o (.Slice lo hi st _) _ => match st with
    | none => (evO sc n o).bind fun x => fun fr => match evPart E sc fr n lo, evPart E sc fr n hi with
      | some l, some h => M.ofO (sliceO x l h) fr
      | _, _ => .stuck
    | some st => if isM1 st && lo.isNone && hi.isNone then (evO sc n o).bind fun x => .ofO (revO x) else fun _ => .stuck
  | n + 1, .Subscript o i _ => (ev2 sc n o i).bind fun xy => match idxD xy.1.1 xy.2.1 with
    | some d => if okk (d, xy.1.2) then .pure (.d d) else fun _ => .stuck
    | none => fun _ => .stuck
  | n + 1, .Dict [] [] _ => .pure (.dic [])
  | n + 1, .Call (.Name g p) as kws _ => if isGlob sc g && okName g && nostar as then
      (match kwNames kws with
      | some ks => (match E.shape g as.length ks with
        | some sh => if as.isEmpty then (fun _ => .stuck) else (evArgs sc n (withFlags E g 0 as)).bind fun a1 => (evVs sc n (kwVals kws)).bind fun a2 => (match if a1.length == as.length && a2.length == ks.length && nodupN (inls sh) then params (a1 ++ a2.map .val) sh else none with
          | some ps => callM E g ps
          | none => fun _ => .stuck)
        | none => if E.blt g && ks.isEmpty then (match as with
          | [a] => if isB1 g then (evO sc n a).bind fun x => .ofO (blt1 g x) else fun _ => .stuck
          | [a, b] => if isB2 g then (ev2 sc n a b).bind fun xy => .ofO (blt2 g xy.1.1 xy.2.1) else fun _ => .stuck
          | _ => fun _ => .stuck) else fun _ => .stuck)
      | none => fun _ => .stuck) else fun _ => .stuck
  | n + 1, .Call (.Attribute (.Name x p) m p2) as [] pos => if isSlot sc x && okName x && nostar as && (p2.endLine == pos.line) && decide (as.length < 30) then (match slotOf E.N x with
      | some i => fun fr => match getS fr i with
        | some t => if okMeth m (kindT t) as.length then ((evVs sc n as).bind fun ts => methM m (kindT t) i ts) fr else .stuck
        | none => .stuck
      | none => fun _ => .stuck) else fun _ => .stuck
  | n + 1, .ListComp elt [⟨tg, iter, ifs, 0⟩] scope _ => if blkC E.N sc scope (ownOf E.N scope) && !isSet iter then (match tgt E.N scope tg with
    | some g => (evSrc sc n (isTup tg) iter).bind fun s => fun fr =>
      if ownOk fr (ownIx E.N scope) && guardFree s (ownIx E.N scope) && (tgIx g).all (fun i => (ownIx E.N scope).contains i) then
      (match compL (ownIx E.N scope) g (evTs (relS scope sc) n ifs) (evV (relS scope sc) n elt) s s.items [] (wipeF fr (ownIx E.N scope)) with
      | .ok ts fr' => .ok (.lst ts) (backF fr fr' (ownIx E.N scope))
      | _ => .stuck) else .stuck
    | none => fun _ => .stuck) else fun _ => .stuck
  | n + 1, .ListComp elt [⟨tg, iter, ifs, 0⟩, ⟨tg1, iter1, ifs1, 0⟩] scope _ => if blkC E.N sc scope (ownOf E.N scope) && !isSet iter && !isSet iter1 then (match tgt E.N scope tg, tgt E.N scope tg1 with
    | some g, some g1 => if (tgIx g1).all (fun i => (ownIx E.N scope).contains i) then (evSrc sc n (isTup tg) iter).bind fun s => fun fr =>
      if ownOk fr (ownIx E.N scope) && guardFree s (ownIx E.N scope) && (tgIx g).all (fun i => (ownIx E.N scope).contains i) then
      (match compL2 (ownIx E.N scope) g (evTs (relS scope sc) n ifs) (evSrc (relS scope sc) n (isTup tg1) iter1) (tgIx g1) g1 (evTs (relS scope sc) n ifs1) (evV (relS scope sc) n elt) s s.items [] (wipeF fr (ownIx E.N scope)) with
      | .ok ts fr' => .ok (.lst ts) (backF fr fr' (ownIx E.N scope))
      | _ => .stuck) else .stuck else fun _ => .stuck
    | _, _ => fun _ => .stuck) else fun _ => .stuck
  | _ + 1, _ => fun _ => .stuck
/-- two operands from the left: the first stays readable -/
def ev2 (sc : Scope) : Nat → Expr → Expr → M (Opd × Opd)
  | 0, _, _ => fun _ => .stuck
  | n + 1, a, b => (evO sc n a).bind fun x => fun fr => if okk x || pureX E sc n b then ((evO sc n b).bind fun y => .pure (x, y)) fr else .stuck
def evVs (sc : Scope) : Nat → List Expr → M (List T)
  | _, [] => .pure []
  | 0, _ :: _ => fun _ => .stuck
  | n + 1, e :: r => (evV sc n e).bind fun t => (evVs sc n r).bind fun ts => .pure (t :: ts)
def evArgs (sc : Scope) : Nat → List (Expr × Bool) → M (List ArgT)
  | _, [] => .pure []
  | 0, _ :: _ => fun _ => .stuck
  | n + 1, (e, br) :: r => M.bind (fun fr => match refName E sc fr br e with
      | some i => .ok (ArgT.ref i) fr
      | none => ((evV sc n e).bind fun t => .pure (ArgT.val t)) fr) fun a => (evArgs sc n r).bind fun as => .pure (a :: as)
/-- a test -/
def evT (sc : Scope) : Nat → Expr → M Bool
  | 0, _ => fun _ => .stuck
  | n + 1, e => if pureX E sc (n + 1) e then (fun fr => match evP E sc fr (n + 1) e with
    | some x => M.ofO (truD x.1) fr
    | none => .stuck) else match e with
      | .UnaryOp .Not a _ => (evT sc n a).bind fun k => .pure (!k)
      | .BoolOp op [a] _ => evT sc n a
      | .BoolOp op (a :: b :: r) pos => (evT sc n a).bind fun k => match op with
        | .And => if k then evT sc n (.BoolOp .And (b :: r) pos) else .pure false
        | .Or => if k then .pure true else evT sc n (.BoolOp .Or (b :: r) pos)
      | .IfExp .. => fun _ => .stuck
      | e => (evC sc n e).bind fun t => .ofO (truD (fz t))
def evTs (sc : Scope) : Nat → List Expr → M Bool
  | _, [] => .pure true
  | n + 1, [c] => evT sc n c
  | _, _ => fun _ => .stuck
/-- what a loop or a comprehension walks -/
def evSrc (sc : Scope) : Nat → Bool → Expr → M Src
  | 0, _, _ => fun _ => .stuck
  | n + 1, tt, .Call f as [] p => if isGl E sc f "range" && nostar as then (match as with
      | [a] => (evO sc n a).bind fun x => .ofO (range1 x.1)
      | [a, b] => (ev2 sc n a b).bind fun xy => .ofO (range2 xy.1.1 xy.2.1)
      | _ => fun _ => .stuck)
    else if isGl E sc f "enumerate" && nostar as then (match as with
      | [a] => if tt then (evWalk sc n a).bind fun s => .pure ⟨enumD s.items, s.guard, true⟩ else fun _ => .stuck
      | _ => fun _ => .stuck)
    else if isGl E sc f "reversed" && nostar as then (match as with
      | [a] => (evWalk sc n a).bind fun s => .pure ⟨s.items.reverse, s.guard, false⟩
      | _ => fun _ => .stuck)
    else evWalk sc n (.Call f as [] p)
  | n + 1, _, e => evWalk sc n e
/-- a list or a tuple that is walked -/
def evWalk (sc : Scope) : Nat → Expr → M Src
  | 0, _ => fun _ => .stuck
  | n + 1, e => if pureX E sc n e then (fun fr => match evP E sc fr n e with
    | some x => (match seqD x.1 with
      | some ds => if !x.2 then .ok ⟨ds, none, false⟩ fr else (match walkName E e fr with
          | some (i, t) => if imms ds then .ok ⟨ds, some (i, t), false⟩ fr else frzWalk E sc n e fr
          | none => frzWalk E sc n e fr)
      | none => .stuck)
    | none => .stuck) else (evC sc n e).bind fun t => match seqD (fz t) with
        | some ds => .pure ⟨ds, none, false⟩
        | none => fun _ => .stuck
end
end
end Bw

set_option maxHeartbeats 4000000
namespace Bw
open PySem PySem.Spec PyProof.Rows L2
variable {G : Gx} {E : Ev} {X : Cx} {sc : Scope} {W : WX} {Z Z' Z1 Z2 : Addr → Prop} {H H' H1 H2 : Hp} {σ : L2.St} {fr fr' fr1 : Fr} {ph ph' ph1 ph2 : Nat → List Addr} {o : Opd} {v : V} {d : D} {g g1 g2 : List Addr} {t : T}

/-- what an evaluation's answer must fulfil -/
def GR {α : Type} (r : Res α) (Xn : Exn → Fr → Prop) (P : α → Fr → Prop) : Prop := match r with
  | .ok a fr => P a fr
  | .exn x fr => Xn x fr
  | .stuck => False
theorem GR.bind {α β : Type} {m : M α} {f : α → M β} {Xn : Exn → Fr → Prop} {P : β → Fr → Prop} (h : GR ((m.bind f) fr) Xn P) : GR (m fr) Xn fun a fr' => GR (f a fr') Xn P := by
  unfold M.bind at h
  cases e : m fr with
  | ok a fr' => rw [e] at h; exact h
  | exn x fr' => rw [e] at h; exact h
  | stuck => rw [e] at h; exact h
theorem GR.mono {α : Type} {r : Res α} {Xn Xn' : Exn → Fr → Prop} {P P' : α → Fr → Prop} (h : GR r Xn P) (hx : ∀ x fr, Xn x fr → Xn' x fr) (hp : ∀ a fr, P a fr → P' a fr) : GR r Xn' P' := by
  cases r with
  | ok a fr => exact hp a fr h
  | exn x fr => exact hx x fr h
  | stuck => exact h
theorem GR.ofO {α : Type} {a : Option α} {Xn : Exn → Fr → Prop} {P : α → Fr → Prop} (h : GR (M.ofO a fr) Xn P) : ∃ b, a = some b ∧ P b fr := by
  cases a with
  | none => exact h.elim
  | some b => exact ⟨b, rfl, h⟩
/-- an own exception of one field -/
def ExR (G : Gx) (H : Hp) (x : Exn) (cls : Value) (dx : Option Addr) : Prop :=
  ∃ C a ws, cls = .ref C ∧ G.cls x.cls = some C ∧ dx = some a ∧ H a = some (.xd ws) ∧ x.fs.map (·.1) = ws.map (·.1) ∧ RDs G (fun _ => False) H (x.fs.map (·.2)) (ws.map (·.2))
def XW (G : Gx) (W : WX) (Z : Addr → Prop) (H : Hp) (ph : Nat → List Addr) (σ : L2.St) (x : Exn) (fr : Fr) : Prop :=
  ∀ cls dx H' Z' ph', FrOk G Z' H' σ fr ph' → Stp Z H ph Z' H' ph' [] → ExR G H' x cls dx → W cls dx σ H'
theorem XW.shift {x : Exn} (s : Stp Z H ph Z1 H1 ph1 g1) (h : XW G W Z H ph σ x fr) : XW G W Z1 H1 ph1 σ x fr := fun cls dx H' Z' ph' F u r => h cls dx H' Z' ph' F (s.trans u) r
/-- a value, with effects -/
def tV (G : Gx) (W : WX) (m : M T) : TE := fun σ H Q => ∃ Z fr ph, FrOk G Z H σ fr ph ∧ GR (m fr) (XW G W Z H ph σ) fun t fr' => ∀ v H' Z' ph' g, FrOk G Z' H' σ fr' ph' → Val G Z' H' ph' t v g → Stp Z H ph Z' H' ph' g → Q v H'
/-- an operand, with effects -/
def tO (G : Gx) (W : WX) (m : M Opd) : TE := fun σ H Q => ∃ Z fr ph, FrOk G Z H σ fr ph ∧ GR (m fr) (XW G W Z H ph σ) fun o fr' => ∀ v H' Z' ph', FrOk G Z' H' σ fr' ph' → RO G Z' ph' H' o v → Stp Z H ph Z' H' ph' [] → Q v H'
/-- a test, with effects -/
def tT (G : Gx) (W : WX) (m : M Bool) : TT := fun σ H Q => ∃ Z fr ph, FrOk G Z H σ fr ph ∧ GR (m fr) (XW G W Z H ph σ) fun k fr' => ∀ H' Z' ph', FrOk G Z' H' σ fr' ph' → Stp Z H ph Z' H' ph' [] → Q k H'
/-- several values that are held -/
inductive Held (G : Gx) (Z : Addr → Prop) (H : Hp) (ph : Nat → List Addr) : List T → List V → List (List Addr) → Prop
  | nil : Held G Z H ph [] [] []
  | cons {t v g ts vs gs} (h : Val G Z H ph t v g) (r : Held G Z H ph ts vs gs) (ap : ∀ g', g' ∈ gs → ∀ a, a ∈ g → a ∉ g') : Held G Z H ph (t :: ts) (v :: vs) (g :: gs)
def tVs (G : Gx) (W : WX) (m : M (List T)) : TA := fun σ H Q => ∃ Z fr ph, FrOk G Z H σ fr ph ∧ GR (m fr) (XW G W Z H ph σ) fun ts fr' => ∀ vs H' Z' ph' gs, FrOk G Z' H' σ fr' ph' → Held G Z' H' ph' ts vs gs → Stp Z H ph Z' H' ph' gs.flatten → Q vs H'
theorem Held.step {ts : List T} {vs : List V} {gs : List (List Addr)} (h : Held G Z H ph ts vs gs) (F : FrOk G Z H σ fr ph) (s : Stp Z H ph Z1 H1 ph1 g1) : Held G Z1 H1 ph1 ts vs gs := by
  induction h with
  | nil => exact .nil
  | cons h r ap ih => exact .cons (h.step F s) ih ap
theorem Held.there {ts : List T} {vs : List V} {gs : List (List Addr)} (h : Held G Z H ph ts vs gs) : ∀ a, a ∈ gs.flatten → ∃ o, H a = some o := by
  induction h with
  | nil => intro a m; simp at m
  | cons h r ap ih =>
    intro a m
    rw [List.flatten_cons] at m
    rcases List.mem_append.mp m with m | m
    · obtain ⟨o, e, _⟩ := h.rt.there a m; exact ⟨o, e⟩
    · exact ih a m
theorem Held.length {ts : List T} {vs : List V} {gs : List (List Addr)} (h : Held G Z H ph ts vs gs) : ts.length = vs.length := by
  induction h with
  | nil => rfl
  | cons h r ap ih => rw [List.length_cons, List.length_cons, ih]
theorem Held.rts {ts : List T} {vs : List V} {gs : List (List Addr)} (h : Held G Z H ph ts vs gs) : RTs G Z H ts vs gs.flatten ∧ gs.flatten.Nodup ∧ (∀ a, a ∈ gs.flatten → ¬ Z a) ∧ ∀ a, a ∈ gs.flatten → ∀ i, a ∉ ph i := by
  induction h with
  | nil => exact ⟨.nil, by simp, by simp, by simp⟩
  | cons h r ap ih =>
    obtain ⟨h1, h2, h3, h4⟩ := ih
    rw [List.flatten_cons]
    refine ⟨.cons h.rt h1, ?_, ?_, ?_⟩
    · refine List.nodup_append.mpr ⟨h.nd, h2, fun a m b m' e => ?_⟩
      subst e
      rw [List.mem_flatten] at m'
      obtain ⟨g', mg, m'⟩ := m'
      exact ap g' mg a m m'
    · intro a m
      rcases List.mem_append.mp m with m | m
      · exact h.dz a m
      · exact h3 a m
    · intro a m
      rcases List.mem_append.mp m with m | m
      · exact h.dp a m
      · exact h4 a m
theorem Stp.with_g (s : Stp Z H ph Z1 H1 ph1 g1) (n : ∀ a, a ∈ g → (∃ j, a ∈ ph j) ∨ H a = none) : Stp Z H ph Z1 H1 ph1 g :=
  ⟨s.z, s.keep, s.there, s.t, s.f, s.new, n, s.zn⟩
theorem pt_I {e : Expr} {t t' : TT} (h : PT X e t) (i : ∀ σ H Q, t' σ H Q → t σ H Q) : PT X e t' := ptI h i
/-- a run that is pure, as a step -/
theorem stp_of_grow (k : Grow H H') : Stp Z H ph Z H' ph [] := Stp.grow k (fun _ m => nomatch m)
/-- two readings, one of which holds -/
theorem pe_or2 {e : Expr} {t u : TE} (h : PE X e t) (k : PE X e u) : PE X e (fun σ H Q => t σ H Q ∨ u σ H Q) := ⟨fun pins s σ H Q I q => q.elim (fun q => h.run pins s σ H Q I q) fun q => k.run pins s σ H Q I q⟩
theorem pt_or2 {e : Expr} {t u : TT} (h : PT X e t) (k : PT X e u) : PT X e (fun σ H Q => t σ H Q ∨ u σ H Q) := ⟨fun pins s σ H Q I q => q.elim (fun q => h.run pins s σ H Q I q) fun q => k.run pins s σ H Q I q⟩
/-- the name of a slot -/
theorem name_slot (L : Lk G E X sc) {x : Str} {p : Pos} {i : Nat} (hs : isSlot sc x = true) (hn : okName x = true) (hi : slotOf E.N x = some i) : PE X (.Name x p) (tVar i) := by
  obtain ⟨n1, n2, n3⟩ := okName_ne hn
  unfold slotOf at hi
  split at hi
  · rename_i e
    cases hi
    exact pe_var (by rw [L.N]; exact e) (by rw [L.sc]; exact isSlot_vis hs) n1 n2
  · cases hi
theorem getS_at {i : Nat} (h : getS fr i = some t) : fr[i]? = some (some t) := by
  unfold getS at h
  split at h
  · rename_i t' e; cases h; exact e
  · cases h
theorem getS_lt {i : Nat} (h : getS fr i = some t) : i < fr.length := (List.getElem?_eq_some_iff.mp (getS_at h)).1
/-- a slot's tree becomes data -/
theorem frz_slot (F : FrOk G Z H σ fr ph) {i : Nat} (h : getS fr i = some t) : ∃ v Z', σ[i]? = some (some v) ∧ FrOk G Z' H σ (fr.set i (some (.d (fz t)))) (setP ph i []) ∧ RD G Z' H (fz t) v ∧ Stp Z H ph Z' H (setP ph i []) [] := by
  obtain ⟨v, ev, r⟩ := F.at_ i t (getS_at h)
  have hi := getS_lt h
  refine ⟨v, fun a => Z a ∨ a ∈ ph i, ev, ?_, r.fz, ?_⟩
  · have U := F.unset (some v) i
    have hv : σ.set i (some v) = σ := by
      apply List.ext_getElem?
      intro j
      by_cases q : j = i
      · subst q
        rw [List.getElem?_set_self (by rw [← F.len]; exact hi), ev]
      · rw [List.getElem?_set_ne (Ne.symm q)]
    rw [hv] at U
    have hval : Val G Z H (setP ph i []) t v (ph i) := ⟨r, F.nd i, F.dz i, fun a m j q => by
      by_cases qj : j = i
      · subst qj; rw [setP_same] at q; cases q
      · rw [setP_ne qj] at q
        exact qj (F.dj j i a q m)⟩
    obtain ⟨F2, rd⟩ := hval.freeze U
    have F3 := F2.set (i := i) (Val.of_rd rd) (by rw [List.length_set]; exact hi)
    rw [hv, List.set_set] at F3
    have e : setP (setP ph i []) i [] = setP ph i [] := by
      funext j
      by_cases q : j = i
      · subst q; rw [setP_same, setP_same]
      · rw [setP_ne q]
    rw [e] at F3
    exact F3
  · refine ⟨fun a h => .inl h, fun _ _ h _ => h, fun a o h => ⟨o, h⟩, fun _ _ h => h, fun _ _ _ h => h, fun j a m => ?_, (fun _ m => nomatch m), fun a h => ?_⟩
    · by_cases q : j = i
      · subst q; rw [setP_same] at m; cases m
      · rw [setP_ne q] at m; exact .inl ⟨j, m⟩
    · rcases h with h | h
      · exact .inl h
      · exact .inr (.inl ⟨i, h⟩)
/-- evV from its two roads -/
theorem evV_ok {n : Nat} (L : Lk G E X sc) {e : Expr} (hc : PE X e (tV G W (evC E sc n e))) : PE X e (tV G W (evV E sc (n + 1) e)) := by
  by_cases hp : pureX E sc (n + 1) e = true
  rotate_left
  · have : evV E sc (n + 1) e = evC E sc n e := by rw [evV, if_neg hp]
    rw [this]
    exact hc
  refine ⟨fun pins s σ H Q I h => ?_⟩
  obtain ⟨Z, fr, ph, F, h⟩ := h
  rw [evV, if_pos hp] at h
  cases he : evP E sc fr (n + 1) e with
  | none =>
    rw [he] at h
    cases e with
    | BinOp a op b pos => exact hc.run pins s σ H Q I ⟨Z, fr, ph, F, h⟩
    | _ => exact h.elim
  | some x =>
    simp only [he] at h
    by_cases hk : okk x = true
    · simp only [hk, if_true] at h
      exact ((pure_ok L (n + 1)).e e).run pins s σ H Q I ⟨Z, fr, ph, x, F, he, fun v H' k r => h v H' Z ph [] (F.grow k) (Val.of_rd (r.frz hk)) (stp_of_grow k)⟩
    · simp only [hk] at h
      cases e with
      | Name y p =>
        cases hi : slotOf E.N y with
        | none => simp only [hi, Bool.false_eq_true, if_false] at h; exact h.elim
        | some i =>
          simp only [hi, Bool.false_eq_true, if_false] at h
          unfold frzSlot at h
          cases hg : getS fr i with
          | none => rw [hg] at h; exact h.elim
          | some t =>
            rw [hg] at h
            have hs : isSlot sc y = true ∧ okName y = true := by
              rw [evP] at he
              unfold nameP at he
              split at he
              · cases he
              · rename_i hn
                split at he
                · rename_i hs
                  exact ⟨hs, by simpa using hn⟩
                · split at he
                  · rw [Option.map_eq_some_iff] at he
                    obtain ⟨d, _, e2⟩ := he
                    subst e2
                    exact absurd rfl hk
                  · cases he
            obtain ⟨v, Z', ev, F', rd, st⟩ := frz_slot F hg
            exact (name_slot (p := p) L hs.1 hs.2 hi).run pins s σ H Q I ⟨v, ev, h v H Z' _ [] F' (Val.of_rd rd) st⟩
      | _ => exact h.elim
/-- evO from its two roads -/
theorem evO_ok {n : Nat} (L : Lk G E X sc) {e : Expr} (hc : PE X e (tV G W (evC E sc n e))) : PE X e (tO G W (evO E sc (n + 1) e)) := by
  refine ⟨fun pins s σ H Q I h => ?_⟩
  obtain ⟨Z, fr, ph, F, h⟩ := h
  by_cases hp : pureX E sc (n + 1) e = true
  · rw [evO, if_pos hp] at h
    cases he : evP E sc fr (n + 1) e with
    | none => rw [he] at h; exact h.elim
    | some x =>
      rw [he] at h
      exact ((pure_ok L (n + 1)).e e).run pins s σ H Q I ⟨Z, fr, ph, x, F, he, fun v H' k r => h v H' Z ph (F.grow k) r (stp_of_grow k)⟩
  · rw [evO, if_neg hp] at h
    refine hc.run pins s σ H Q I ⟨Z, fr, ph, F, GR.mono h.bind (fun _ _ z => z) fun t fr1 h1 => fun v H' Z' ph' g F' hv st => ?_⟩
    obtain ⟨F2, rd⟩ := hv.freeze F'
    exact h1 v H' _ ph' F2 (.of rd) st.freeze
end Bw

set_option maxHeartbeats 4000000
namespace Bw
open PySem PySem.Spec PyProof.Rows L2
variable {G : Gx} {E : Ev} {X : Cx} {sc : Scope} {W : WX} {Z Z' Z1 Z2 : Addr → Prop} {H H' H1 H2 : Hp} {σ : L2.St} {fr fr' fr1 fr2 : Fr} {ph ph' ph1 ph2 : Nat → List Addr} {o : Opd} {v : V} {d : D} {g g1 g2 : List Addr} {t : T} {n : Nat}

/-- what the law's words want of a value: the post of tV -/
def VPost (G : Gx) (Z : Addr → Prop) (H : Hp) (ph : Nat → List Addr) (σ : L2.St) (Q : VK) (t : T) (fr' : Fr) : Prop := ∀ v H' Z' ph' g, FrOk G Z' H' σ fr' ph' → Val G Z' H' ph' t v g → Stp Z H ph Z' H' ph' g → Q v H'
theorem ans_of {Q : VK} (F : FrOk G Z2 H2 σ fr2 ph2) (st : Stp Z H ph Z2 H2 ph2 []) (h : VPost G Z H ph σ Q t fr2) : Ans G Z2 H2 t Q := fun v H' g k r nd fresh _ =>
  h v H' Z2 ph2 g (F.grow k) ⟨r, nd, (fun a m z => by
    obtain ⟨o, e⟩ := F.zt a z
    rw [fresh a m] at e
    cases e), fun a m i => F.not_own (fresh a m) i⟩ (st.trans (Stp.grow k fresh))
theorem data_of {Q : VK} {d : D} {v : V} (F : FrOk G Z2 H2 σ fr2 ph2) (st : Stp Z H ph Z2 H2 ph2 []) (h : VPost G Z H ph σ Q (.d d) fr2) (r : RD G Z2 H2 d v) : Q v H2 :=
  h v H2 Z2 ph2 [] F (Val.of_rd r) st
/-- a second operand: pure, or with effects -/
def tO2 (G : Gx) (W : WX) (E : Ev) (sc : Scope) (n : Nat) (b : Expr) : TE := fun σ H Q => tP G (fun fr => evP E sc fr n b) σ H Q ∨ tO G W (evO E sc n b) σ H Q
theorem pe_o2 (L : Lk G E X sc) {b : Expr} (hb : PE X b (tO G W (evO E sc n b))) : PE X b (tO2 G W E sc n b) := pe_or2 ((pure_ok L n).e b) hb
theorem two_eff {a b : Expr} {r : R2} {Q : VK} {P : Opd × Opd → Fr → Prop} (F : FrOk G Z H σ fr ph) (h : GR (ev2 E sc (n + 1) a b fr) (XW G W Z H ph σ) P)
    (q : ∀ x y v1 v2 H2 Z2 fr2 ph2, FrOk G Z2 H2 σ fr2 ph2 → RO G Z2 ph2 H2 x v1 → RO G Z2 ph2 H2 y v2 → Stp Z H ph Z2 H2 ph2 [] → P (x, y) fr2 → r v1 v2 H2 Q) :
    tOp r (tO G W (evO E sc n a)) (tO2 G W E sc n b) σ H Q := by
  rw [ev2] at h
  refine ⟨Z, fr, ph, F, GR.mono h.bind (fun _ _ z => z) fun x fr1 h1 => fun v1 H1 Z1 ph1 F1 r1 s1 => ?_⟩
  split at h1
  · rename_i hc
    by_cases hp : pureX E sc n b = true
    · cases n with
      | zero => cases hp
      | succ m =>
        cases hb : evP E sc fr1 (m + 1) b with
        | none =>
          have e : evO E sc (m + 1) b fr1 = .stuck := by
            rw [evO, if_pos hp, hb]
          unfold M.bind at h1
          rw [e] at h1
          exact h1.elim
        | some y =>
          refine .inl ⟨Z1, fr1, ph1, y, F1, hb, fun v2 H2 k r2 => q x y v1 v2 H2 Z1 fr1 ph1 (F1.grow k) (r1.grow k) r2 (s1.trans (stp_of_grow k)) ?_⟩
          have e : evO E sc (m + 1) b fr1 = .ok y fr1 := by
            rw [evO, if_pos hp, hb]
          unfold M.bind at h1
          rw [e] at h1
          exact h1
    · have hk : okk x = true := by simpa [hp] using hc
      have rd := r1.frz hk
      refine .inr ⟨Z1, fr1, ph1, F1, GR.mono (GR.bind h1) (fun _ _ z => z.shift s1) fun y fr2 h2 => fun v2 H2 Z2 ph2 F2 r2 s2 => ?_⟩
      exact q x y v1 v2 H2 Z2 fr2 ph2 F2 (by
        have := s2.rd F1 rd
        unfold RO
        split
        · exact this.mono (sub_or fun a p => .inl p)
        · exact this) r2 (s1.trans s2) h2
  · exact h1.elim
/-- one operand, then a pure end -/
theorem one_eff {a : Expr} {f : Opd → Option T} {Q : VK} (F : FrOk G Z H σ fr ph) (h : GR (((evO E sc n a).bind fun x => .ofO (f x)) fr) (XW G W Z H ph σ) (VPost G Z H ph σ Q)) {k : V → Hp → Prop}
    (q : ∀ x v1 H1 Z1 fr1 ph1 t, FrOk G Z1 H1 σ fr1 ph1 → RO G Z1 ph1 H1 x v1 → Stp Z H ph Z1 H1 ph1 [] → f x = some t → VPost G Z H ph σ Q t fr1 → k v1 H1) : tO G W (evO E sc n a) σ H k :=
  ⟨Z, fr, ph, F, GR.mono h.bind (fun _ _ z => z) fun x fr1 h1 => fun v1 H1 Z1 ph1 F1 r1 s1 => by
    obtain ⟨t, e, h2⟩ := h1.ofO
    exact q x v1 H1 Z1 fr1 ph1 t F1 r1 s1 e h2⟩
theorem c_bin (L : Lk G E X sc) (ho : ∀ e, PE X e (tO G W (evO E sc n e))) {a b : Expr} {op : Operator} {pos : Pos} : PE X (.BinOp a op b pos) (tV G W (evC E sc (n + 2) (.BinOp a op b pos))) := by
  refine peI (pe_op (op_bin L.K) (ho a) (pe_o2 L (ho b))) fun σ H Q ⟨Z, fr, ph, F, h⟩ => ?_
  rw [evC] at h
  refine two_eff F (GR.bind h) fun x y v1 v2 H2 Z2 fr2 ph2 F2 r1 r2 st p => ?_
  obtain ⟨t, e, p⟩ := GR.ofO p
  exact ⟨Z2, ph2, x, y, t, r1, r2, e, ans_of F2 st p⟩
theorem c_cmp (L : Lk G E X sc) (ho : ∀ e, PE X e (tO G W (evO E sc n e))) {a b : Expr} {op : CmpOp} {pos : Pos} (hs : isSet b = false) :
    PE X (.Compare a [op] [b] pos) (tV G W (evC E sc (n + 2) (.Compare a [op] [b] pos))) ∧ PT X (.Compare a [op] [b] pos) (tT G W ((evC E sc (n + 2) (.Compare a [op] [b] pos)).bind fun t => .ofO (truD (fz t)))) := by
  have go : ∀ {σ : L2.St} {H : Hp} {Q : VK} {Z fr ph} {P : T → Fr → Prop}, FrOk G Z H σ fr ph → GR (evC E sc (n + 2) (.Compare a [op] [b] pos) fr) (XW G W Z H ph σ) P →
      (∀ k fr' H' Z' ph', FrOk G Z' H' σ fr' ph' → Stp Z H ph Z' H' ph' [] → P (.d (.bl k)) fr' → Q (.bl k) H') → tOp (rCmp G op) (tO G W (evO E sc n a)) (tO2 G W E sc n b) σ H Q := by
    intro σ H Q Z fr ph P F h q
    rw [evC] at h
    simp only [hs, Bool.false_eq_true, if_false] at h
    refine two_eff F (GR.bind h) fun x y v1 v2 H2 Z2 fr2 ph2 F2 r1 r2 st p => ?_
    obtain ⟨t, e, p⟩ := GR.ofO p
    rw [Option.map_eq_some_iff] at e
    obtain ⟨k, e, e2⟩ := e
    subst e2
    exact ⟨x.1, y.1, k, r1.ra, r2.ra, e, q k fr2 H2 Z2 ph2 F2 st p⟩
  constructor
  · refine peI (pe_cmpR (op_cmp L.K L.hu) (ho a) (pe_o2 L (ho b)) (noset_marks hs)) fun σ H Q ⟨Z, fr, ph, F, h⟩ => go F h fun k fr' H' Z' ph' F' st p => data_of F' st p (.bl k)
  · refine ptI (pt_cmpR (op_cmp L.K L.hu) (ho a) (pe_o2 L (ho b)) (noset_marks hs)) fun σ H Q ⟨Z, fr, ph, F, h⟩ => go F (GR.bind h) fun k fr' H' Z' ph' F' st p => ?_
    obtain ⟨b, e, p⟩ := GR.ofO p
    cases e
    exact ⟨k, rfl, p H' Z' ph' F' st⟩
theorem c_not (L : Lk G E X sc) (ho : ∀ e, PE X e (tO G W (evO E sc n e))) {a : Expr} {pos : Pos} : PE X (.UnaryOp .Not a pos) (tV G W (evC E sc (n + 1) (.UnaryOp .Not a pos))) := by
  refine peI (pe_notT (ho a)) fun σ H Q ⟨Z, fr, ph, F, h⟩ => ?_
  rw [evC] at h
  refine one_eff F h fun x v1 H1 Z1 fr1 ph1 t F1 r1 s1 e p => ?_
  rw [Option.map_eq_some_iff] at e
  obtain ⟨k, e, e2⟩ := e
  subst e2
  exact ⟨k, by rw [L.K]; exact tru_rd r1.any e, data_of F1 s1 p (.bl _)⟩
theorem notSl {i : Expr} (h : isSlice i = false) : ∀ lo hi st p, i ≠ .Slice lo hi st p := by
  intro lo hi st p e
  subst e
  cases h
theorem c_sub (L : Lk G E X sc) (ho : ∀ e, PE X e (tO G W (evO E sc n e))) {a b : Expr} {pos : Pos} (hs : isSlice b = false) : PE X (.Subscript a b pos) (tV G W (evC E sc (n + 2) (.Subscript a b pos))) := by
  refine peI (pe_ix (ix_G L.K L.hu) (ho a) (pe_o2 L (ho b)) (plainIx_of hs)) fun σ H Q ⟨Z, fr, ph, F, h⟩ => ?_
  rw [evC] at h
  · refine two_eff F (GR.bind h) fun x y v1 v2 H2 Z2 fr2 ph2 F2 r1 r2 st p => ?_
    cases e : idxD x.1 y.1 with
    | none => simp only [e] at p; exact p.elim
    | some r =>
      simp only [e] at p
      split at p
      · rename_i hk
        exact ⟨_, _, _, r, r1.zp, r2.ra, e, fun v rv => data_of F2 st p ((RO.mk' rv).frz hk)⟩
      · exact p.elim
  · intro lo hi st p e
    exact notSl hs lo hi st p e
theorem c_if (hv : ∀ e, PE X e (tV G W (evV E sc n e))) (ht : ∀ e, PT X e (tT G W (evT E sc n e))) {t a b : Expr} {pos : Pos} : PE X (.IfExp t a b pos) (tV G W (evC E sc (n + 1) (.IfExp t a b pos))) := by
  refine peI (pe_ifExp (ht t) (hv a) (hv b)) fun σ H Q ⟨Z, fr, ph, F, h⟩ => ?_
  rw [evC] at h
  refine ⟨Z, fr, ph, F, GR.mono h.bind (fun _ _ z => z) fun k fr1 h1 => fun H1 Z1 ph1 F1 s1 => ?_⟩
  cases k with
  | true =>
    rw [if_pos rfl] at h1 ⊢
    exact ⟨Z1, fr1, ph1, F1, GR.mono h1 (fun _ _ z => z.shift s1) fun t fr2 p => fun v H2 Z2 ph2 g F2 hv s2 => p v H2 Z2 ph2 g F2 hv (s1.trans s2)⟩
  | false =>
    rw [if_neg (by decide)] at h1 ⊢
    exact ⟨Z1, fr1, ph1, F1, GR.mono h1 (fun _ _ z => z.shift s1) fun t fr2 p => fun v H2 Z2 ph2 g F2 hv s2 => p v H2 Z2 ph2 g F2 hv (s1.trans s2)⟩
theorem c_bool (L : Lk G E X sc) (hv : ∀ e, PE X e (tV G W (evV E sc n e))) {op : BoolOp} {es : List Expr} {pos : Pos} : PE X (.BoolOp op es pos) (tV G W (evC E sc (n + 1) (.BoolOp op es pos))) := by
  match es with
  | [] => exact pe_none fun σ H Q ⟨Z, fr, ph, F, h⟩ => h
  | [a] =>
    refine peI (pe_one (hv a)) fun σ H Q ⟨Z, fr, ph, F, h⟩ => ⟨Z, fr, ph, F, ?_⟩
    rw [evC] at h
    exact h
  | a :: b :: r =>
    have go : ∀ {σ : L2.St} {H : Hp} {Q : VK} {Z fr ph} {f : Bool → T → M T} {K : V → Hp → Prop}, FrOk G Z H σ fr ph →
        GR (((evV E sc n a).bind fun t => (M.ofO (truD (fz t))).bind fun k => f k t) fr) (XW G W Z H ph σ) (VPost G Z H ph σ Q) →
        (∀ k t v fr1 H1 Z1 ph1 g1, FrOk G Z1 H1 σ fr1 ph1 → Val G Z1 H1 ph1 t v g1 → Stp Z H ph Z1 H1 ph1 g1 → TruV X.K v H1 k → GR (f k t fr1) (XW G W Z H ph σ) (VPost G Z H ph σ Q) → K v H1) → tV G W (evV E sc n a) σ H K := by
      intro σ H Q Z fr ph f K F h q
      refine ⟨Z, fr, ph, F, GR.mono h.bind (fun _ _ z => z) fun t fr1 h1 => fun v H1 Z1 ph1 g1 F1 hv1 s1 => ?_⟩
      obtain ⟨k, e, h2⟩ := (GR.bind h1).ofO
      exact q k t v fr1 H1 Z1 ph1 g1 F1 hv1 s1 (by rw [L.K]; exact tru_rd hv1.rt.fz e) h2
    cases op with
    | And =>
      refine peI (pe_andT (hv a) (hv (.BoolOp .And (b :: r) pos))) fun σ H Q ⟨Z, fr, ph, F, h⟩ => ?_
      rw [evC] at h
      refine go F h fun k t v fr1 H1 Z1 ph1 g1 F1 hv1 s1 tv p => ⟨k, tv, ?_⟩
      cases k with
      | true =>
        rw [if_pos rfl]
        simp only [if_true] at p
        exact ⟨Z1, fr1, ph1, F1, GR.mono p (fun _ _ z => z.shift s1.drop) fun t fr2 p => fun v H2 Z2 ph2 g F2 hv s2 => p v H2 Z2 ph2 g F2 hv (s1.trans s2)⟩
      | false =>
        rw [if_neg (by decide)]
        exact p v H1 Z1 ph1 g1 F1 hv1 s1
    | Or =>
      refine peI (pe_orT (hv a) (hv (.BoolOp .Or (b :: r) pos))) fun σ H Q ⟨Z, fr, ph, F, h⟩ => ?_
      rw [evC] at h
      refine go F h fun k t v fr1 H1 Z1 ph1 g1 F1 hv1 s1 tv p => ⟨k, tv, ?_⟩
      cases k with
      | false =>
        rw [if_neg (by decide)]
        simp only [Bool.false_eq_true, if_false] at p
        exact ⟨Z1, fr1, ph1, F1, GR.mono p (fun _ _ z => z.shift s1.drop) fun t fr2 p => fun v H2 Z2 ph2 g F2 hv s2 => p v H2 Z2 ph2 g F2 hv (s1.trans s2)⟩
      | true =>
        rw [if_pos rfl]
        exact p v H1 Z1 ph1 g1 F1 hv1 s1
/-- several values -/
theorem c_vs (hv : ∀ m, m ≤ n → ∀ e, PE X e (tV G W (evV E sc m e))) : ∀ (m : Nat), m ≤ n → ∀ es : List Expr, PA X es (tVs G W (evVs E sc m es)) := by
  intro m
  induction m with
  | zero =>
    intro _ es
    cases es with
    | nil =>
      refine ⟨fun pos pins s σ H Q I ⟨Z, fr, ph, F, h⟩ => pa_nil.run pos pins s σ H Q I ?_⟩
      exact h [] H Z ph [] F .nil Stp.refl
    | cons e es => exact ⟨fun pos pins s σ H Q I ⟨Z, fr, ph, F, h⟩ => h.elim⟩
  | succ m ih =>
    intro hm es
    cases es with
    | nil =>
      refine ⟨fun pos pins s σ H Q I ⟨Z, fr, ph, F, h⟩ => pa_nil.run pos pins s σ H Q I ?_⟩
      exact h [] H Z ph [] F .nil Stp.refl
    | cons e es =>
      rcases star_cons e es X.env with ⟨x, p, rfl⟩ | hst
      · refine ⟨fun pos pins s σ H Q I ⟨Z, fr, ph, F, h⟩ => ?_⟩
        have h1 := GR.bind h
        have : evV E sc m (.Starred x p) fr = .stuck := by
          cases m with
          | zero => rfl
          | succ m =>
            rw [evV]
            simp only [evP_star]
            cases m <;> rfl
        rw [this] at h1
        exact h1.elim
      · refine ⟨fun pos pins s σ H Q I ⟨Z, fr, ph, F, h⟩ => (pa_cons (hv m (by omega) e) (ih (by omega) es) hst).run pos pins s σ H Q I ?_⟩
        refine ⟨Z, fr, ph, F, GR.mono (GR.bind h) (fun _ _ z => z) fun t fr1 h1 => fun v H1 Z1 ph1 g1 F1 hv1 s1 => ?_⟩
        refine ⟨Z1, fr1, ph1, F1, GR.mono (GR.bind h1) (fun _ _ z => z.shift s1.drop) fun ts fr2 h2 => fun vs H2 Z2 ph2 gs F2 hs s2 => ?_⟩
        refine h2 (v :: vs) H2 Z2 ph2 (g1 :: gs) F2 (.cons (hv1.step F1 s2) hs fun g' mg a m q => hv1.apart s2 a m (List.mem_flatten.mpr ⟨g', mg, q⟩)) ((s1.trans s2).with_g fun a m => ?_)
        rw [List.flatten_cons] at m
        rcases List.mem_append.mp m with m | m
        · exact s1.newg a m
        · exact (s1.trans s2).newg a m
theorem Held.vals {ts : List T} {vs : List V} {gs : List (List Addr)} (h : Held G Z H ph ts vs gs) (F : FrOk G Z H σ fr ph) : FrOk G (fun a => Z a ∨ a ∈ gs.flatten) H σ fr ph ∧ RDs G (fun a => Z a ∨ a ∈ gs.flatten) H (fzs ts) vs := by
  obtain ⟨r, nd, dz, dp⟩ := h.rts
  refine ⟨⟨F.len, fun i t e => ?_, F.emp, F.nd, F.dj, fun i a m z => ?_, fun a z => ?_⟩, r.fz⟩
  · obtain ⟨v, e1, r⟩ := F.at_ i t e
    exact ⟨v, e1, r.mono ⟨sub_or fun a p => .inl p, fun _ _ _ e => e⟩⟩
  · rcases z with z | z
    · exact F.dz i a m z
    · exact dp a z i m
  · rcases z with z | z
    · exact F.zt a z
    · exact h.there a z
theorem c_lst (hvs : ∀ es, PA X es (tVs G W (evVs E sc n es))) {es : List Expr} {pos : Pos} : PE X (.List es pos) (tV G W (evC E sc (n + 1) (.List es pos))) := by
  refine peI (pe_lst (hvs es)) fun σ H Q ⟨Z, fr, ph, F, h⟩ => ?_
  rw [evC] at h
  refine ⟨Z, fr, ph, F, GR.mono (GR.bind h) (fun _ _ z => z) fun ts fr1 h1 => fun vs H1 Z1 ph1 gs F1 hs s1 => ?_⟩
  split at h1
  · rename_i hl
    refine ⟨by rw [← hs.length]; exact lineB_le hl, fun p hp => ?_⟩
    obtain ⟨r, nd, dz, dp⟩ := hs.rts
    obtain ⟨F2, hv2⟩ := val_lst F1 r nd dz dp hp
    refine h1 _ _ Z1 ph1 _ F2 hv2 ((s1.trans (stp_of_grow (keep_upd hp))).with_g fun a m => ?_)
    rcases List.mem_cons.mp m with e | m
    · subst e; exact .inr (s1.none_of hp)
    · exact s1.newg a m
  · exact h1.elim
theorem c_tup (hvs : ∀ es, PA X es (tVs G W (evVs E sc n es))) {es : List Expr} {k : Nat} {pos : Pos} : PE X (.Tuple es k pos) (tV G W (evC E sc (n + 1) (.Tuple es k pos))) := by
  refine peI (pe_tupZ (hvs es)) fun σ H Q ⟨Z, fr, ph, F, h⟩ => ?_
  rw [evC] at h
  refine ⟨Z, fr, ph, F, GR.mono (GR.bind h) (fun _ _ z => z) fun ts fr1 h1 => fun vs H1 Z1 ph1 gs F1 hs s1 => ?_⟩
  split at h1
  · rename_i hl
    refine ⟨by rw [← hs.length]; exact lineB_le hl, fun p ob hp ho => ?_⟩
    obtain ⟨F2, rd⟩ := hs.vals F1
    exact h1 _ _ _ ph1 [] (F2.grow (keep_upd hp)) (Val.of_rd (rd_tup rd hp ho)) (s1.freeze.trans (stp_of_grow (keep_upd hp)))
  · exact h1.elim
end Bw

set_option maxHeartbeats 4000000
namespace Bw
open PySem PySem.Spec PyProof.Rows L2
variable {G : Gx} {E : Ev} {X : Cx} {sc : Scope} {W : WX} {Z Z' Z1 Z2 : Addr → Prop} {H H' H1 H2 : Hp} {σ : L2.St} {fr fr' fr1 fr2 : Fr} {ph ph' ph1 ph2 : Nat → List Addr} {o : Opd} {v : V} {d : D} {g g1 g2 : List Addr} {t : T} {n : Nat}

/-- t[lo:hi]: the whole of it is t itself -/
def rSlZ (K : PySem.W.Frag) : V → Option Int → Option Int → Hp → VK → Prop := fun x lo hi H Q => ∃ a xs, x = .ref a ∧ SqT K H a xs ∧
  (HT.sIx xs.length 0 lo = 0 ∧ HT.sIx xs.length xs.length hi = xs.length → Q (.ref a) H) ∧ (¬ (HT.sIx xs.length 0 lo = 0 ∧ HT.sIx xs.length xs.length hi = xs.length) → ∀ (p : Addr) (o : Obj), H p = none → o.dict = none → Q (.ref p) (upd H p (.frz o (.tup (cutV xs lo hi)))))
theorem sl_tupZ : SlR X (rSlZ X.K) := by
  intro pins s σ H x v vl vu lo hi sl Q I rx hs pl pu h
  obtain ⟨a, xs, rfl, hx, q1, q2⟩ := h
  cases rx
  obtain ⟨its, r, ht, hz⟩ := I.tuple hx
  have hlen : its.toArray.size = xs.length := by rw [List.size_toArray]; exact r.length.symm
  refine ⟨"tuple", _, PyProof.Rows.slot_tuple_getitem.lookup, ht.typeIs, ?_⟩
  by_cases hw : HT.sIx xs.length 0 lo = 0 ∧ HT.sIx xs.length xs.length hi = xs.length
  · exact getItem_tuple_whole ht hs pl pu (by rw [hlen]; exact hw) ⟨.ref a, H, I, rfl, q1 hw⟩
  · refine HT.getItem_tuple_cut ht hs pl pu (by rw [hlen]; exact hw) ?_ (by rw [hlen]; exact hz)
    rw [hlen]
    refine ⟨.ref s.heap.objs.size, _, I.laid (t' := s.toks) (o := .frz _ (.tup (cutV xs lo hi))) (fun b ob q => Heap.get?_push_of_some _ q) (Nat.le_refl _) ⟨Heap.get?_push_size _ rfl, ?_⟩, rfl, q2 hw _ _ (I.hok.fresh (Nat.le_refl _)) rfl⟩
    exact ⟨Nat.le_trans (cutV_length xs lo hi) hz, _, (r.drop (HT.sIx xs.length 0 lo)).take (HT.sIx xs.length xs.length hi - HT.sIx xs.length 0 lo), IsTup.new _ _⟩
/-- tuple(l) -/
theorem call_tupleZ : CallR X (.type "tuple") (fun xs H Q => ∃ p ys, xs = [.ref p] ∧ SqL X.K H p ys ∧ ∀ (l : Addr) (o : Obj), H l = none → o.dict = none → Q (.ref l) (upd H l (.frz o (.tup ys)))) := by
  intro pins s σ H xs us Q I r h
  obtain ⟨p, ys, rfl, hq, q⟩ := h
  obtain ⟨u, rfl, rx⟩ := vals1 r
  cases rx
  obtain ⟨its, r', pl, hz⟩ := I.list hq
  have hlen := r'.length
  refine call_tuple_list pl.isList (fun h' kp => ?_) (by simp only [List.size_toArray] <;> omega)
  have I1 : Inv X pins σ H { s with heap := h' } := I.kept (t' := s.toks) kp
  have I2 : Inv X pins σ (upd H h'.objs.size (.frz _ (.tup ys))) { s with heap := h'.push { cls := .type "tuple", data := .seq its.toArray } } :=
    I1.laid (t' := s.toks) (fun b o e => Heap.get?_push_of_some _ e) (Nat.le_refl _) (show ObjOk X.prog X.w _ _ _ (.frz _ (.tup ys)) from ⟨Heap.get?_push_size _ rfl, hz, its, r', IsTup.new _ _⟩)
  exact ⟨.ref h'.objs.size, _, I2, rfl, q _ _ (I1.hok.fresh (Nat.le_refl _)) rfl⟩
/-- what the operation on values asks: x an operand, the answer t -/
def rSlO (G : Gx) : V → Option Int → Option Int → Hp → VK → Prop := fun x lo hi H Q => ∃ Z ph o t, RO G Z ph H o x ∧ sliceO o lo hi = some t ∧ Ans G Z H t Q
theorem cut_take {α : Type} (xs : List α) : (xs.drop 0).take (xs.length - 0) = xs := by simp
theorem sl_G (hK : X.K = G.K) : SlR X (rSlO G) := by
  intro pins s σ H x v vl vu lo hi sl Q I rx hs pl pu h
  obtain ⟨Z, ph, ⟨d, p⟩, t, r, e, q⟩ := h
  unfold sliceO at e
  have a := r.any
  cases a with
  | @lst a ds vs hl rs =>
    simp only at e
    split at e
    · rename_i c
      cases e
      have rz : RDs G Z H ds vs := by
        cases p with
        | true => exact rs.imm ⟨fun _ _ _ e => e⟩ (by simpa using c)
        | false =>
          cases (show RD G Z H (.lst ds) (.ref a) from r) with
          | lst h3 s3 =>
            have e3 := hl.sq
            have e4 := h3.sq
            rw [← hK] at e3 e4
            rw [I.list_inj e3 e4]
            exact s3
      refine sl_list pins s σ H _ v vl vu lo hi sl Q I rx hs pl pu ⟨a, vs, rfl, by rw [hK]; exact hl.sq, fun q' hq => ?_⟩
      have hlen := rs.length
      have := ans_lst q ((rz.drop (HT.sIx ds.length 0 lo)).take (HT.sIx ds.length ds.length hi - HT.sIx ds.length 0 lo)) hq
      unfold cutV
      rw [← hlen]
      exact this
    · cases e
  | @tup a ds vs hl rs =>
    simp only at e
    split at e
    · rename_i c
      cases e
      have rz : RDs G Z H ds vs := by
        cases p with
        | true => exact rs.imm ⟨fun _ _ _ e => e⟩ (by simpa using c)
        | false =>
          cases (show RD G Z H (.tup ds) (.ref a) from r) with
          | tup h3 s3 =>
            have e3 := hl.sq
            have e4 := h3.sq
            rw [← hK] at e3 e4
            rw [I.tuple_inj e3 e4]
            exact s3
      have hlen := rs.length
      refine sl_tupZ pins s σ H _ v vl vu lo hi sl Q I rx hs pl pu ⟨a, vs, rfl, by rw [hK]; exact hl.sq, fun hw => ?_, fun hw q' ob hq ho => ?_⟩
      · rw [← hlen] at hw
        rw [hw.1, hw.2] at q
        rw [show (ds.drop 0).take (ds.length - 0) = ds by simp] at q
        exact q _ H [] Grow.refl (.d (.tup hl rz)) List.nodup_nil (fun _ m => nomatch m) (fun _ m => nomatch m)
      · have := ans_tup q ((rz.drop (HT.sIx ds.length 0 lo)).take (HT.sIx ds.length ds.length hi - HT.sIx ds.length 0 lo)) hq ho
        unfold cutV
        rw [← hlen]
        exact this
    · cases e
  | _ => cases e
/-- a part of a slice: pure -/
def tPart' (G : Gx) (E : Ev) (sc : Scope) (n : Nat) (e : Option Expr) : TO := fun σ H Q => ∃ Z fr ph k, FrOk G Z H σ fr ph ∧ evPart E sc fr n e = some k ∧ ∀ H', Grow H H' → Q k H'
theorem po_ok (L : Lk G E X sc) (e : Option Expr) : PO X e (tPart' G E sc n e) := by
  cases e with
  | none =>
    refine ⟨fun pins s σ H Q I ⟨Z, fr, ph, k, F, e, q⟩ => po_none.run pins s σ H Q I ?_⟩
    cases e
    exact q H Grow.refl
  | some e =>
    refine ⟨fun pins s σ H Q I ⟨Z, fr, ph, k, F, e', q⟩ => (po_some ((pure_ok L n).e e)).run pins s σ H Q I ?_⟩
    rw [evPart] at e'
    cases he : evP E sc fr n e with
    | none => rw [he] at e'; cases e'
    | some o =>
      obtain ⟨d, p⟩ := o
      rw [he] at e'
      cases d with
      | int i =>
        cases e'
        refine ⟨Z, fr, ph, _, F, he, fun v H' k' r => ?_⟩
        have rr := r.any
        cases rr
        exact ⟨i, rfl, q H' k'⟩
      | _ => cases e'
theorem c_slice (L : Lk G E X sc) (ho : ∀ e, PE X e (tO G W (evO E sc n e))) {a : Expr} {lo hi : Option Expr} {p2 pos : Pos} :
    PE X (.Subscript a (.Slice lo hi none p2) pos) (tV G W (evC E sc (n + 1) (.Subscript a (.Slice lo hi none p2) pos))) := by
  refine peI (pe_slice (sl_G L.K) (ho a) (po_ok (n := n) L lo) (po_ok (n := n) L hi)) fun σ H Q ⟨Z, fr, ph, F, h⟩ => ?_
  rw [evC] at h
  refine ⟨Z, fr, ph, F, GR.mono (GR.bind h) (fun _ _ z => z) fun x fr1 h1 => fun v1 H1 Z1 ph1 F1 r1 s1 => ?_⟩
  cases e1 : evPart E sc fr1 n lo with
  | none => simp only [e1] at h1; exact h1.elim
  | some l =>
    cases e2 : evPart E sc fr1 n hi with
    | none => simp only [e1, e2] at h1; exact h1.elim
    | some u =>
      simp only [e1, e2] at h1
      obtain ⟨t, e3, h2⟩ := h1.ofO
      refine ⟨Z1, fr1, ph1, l, F1, e1, fun H2 k2 => ⟨Z1, fr1, ph1, u, F1.grow k2, e2, fun H3 k3 => ?_⟩⟩
      exact ⟨Z1, ph1, x, t, r1.grow (k2.trans k3), e3, ans_of (F1.grow (k2.trans k3)) (s1.trans (stp_of_grow (k2.trans k3))) h2⟩
theorem ints_rd {P : Addr → Prop} : ∀ {ds : List D} {vs : List V} {ns : List Int}, RDs G P H ds vs → intsD ds = some ns → vs = ns.map V.int
  | _, _, _, .nil, e => by cases e; rfl
  | d :: ds, _, ns, .cons h r, e => by
    cases h with
    | int i =>
      rw [intsD, Option.map_eq_some_iff] at e
      obtain ⟨ms, e1, e2⟩ := e
      subst e2
      rw [ints_rd r e1]
      rfl
    | _ => cases e
theorem bls_rd {P : Addr → Prop} : ∀ {ds : List D} {vs : List V} {ns : List Bool}, RDs G P H ds vs → blsD ds = some ns → vs = ns.map V.bl
  | _, _, _, .nil, e => by cases e; rfl
  | d :: ds, _, ns, .cons h r, e => by
    cases h with
    | bl i =>
      rw [blsD, Option.map_eq_some_iff] at e
      obtain ⟨ms, e1, e2⟩ := e
      subst e2
      rw [bls_rd r e1]
      rfl
    | _ => cases e
theorem rd_ints {Z : Addr → Prop} : ∀ ns : List Int, RDs G Z H (ns.map D.int) (ns.map V.int)
  | [] => .nil
  | n :: ns => .cons (.int n) (rd_ints ns)
theorem sort_uniq {ns ms : List Int} (h : ms.Perm ns) (s : ms.Pairwise (· ≤ ·)) : ms = sortI ns := by
  have h1 : (sortI ns).Perm ns := sortI_perm ns
  have h3 : (sortI ns).Pairwise (· ≤ ·) := sortI_sorted ns
  exact List.Perm.eq_of_pairwise (fun a b _ _ h1 h2 => Int.le_antisymm h1 h2) s h3 (h.trans h1.symm)
/-- items of a sequence, frozen -/
theorem items_rd {x : Opd} {v : V} {ds : List D} (hI : ∀ {a : Addr} {xs ys : List V}, SqL G.K H a xs → SqL G.K H a ys → xs = ys) (hT : ∀ {a : Addr} {xs ys : List V}, SqT G.K H a xs → SqT G.K H a ys → xs = ys) (r : RO G Z ph H x v) (e : itemsO x = some ds) :
    ∃ a vs, v = .ref a ∧ ((SqL G.K H a vs ∧ x.1 = .lst ds) ∨ (TpAt G.K H a vs ∧ x.1 = .tup ds)) ∧ RDs G Z H ds vs := by
  obtain ⟨d, p⟩ := x
  unfold itemsO at e
  rw [Option.bind_eq_some_iff] at e
  obtain ⟨es, e1, e2⟩ := e
  split at e2
  · rename_i c
    cases e2
    have a := r.any
    cases a with
    | @lst a ds' vs hl rs =>
      cases e1
      refine ⟨a, vs, rfl, .inl ⟨hl.sq, rfl⟩, ?_⟩
      cases p with
      | true => exact rs.imm ⟨fun _ _ _ e => e⟩ (by simpa using c)
      | false =>
        cases (show RD G Z H (.lst ds) (.ref a) from r) with
        | lst h3 s3 => rw [hI hl.sq h3.sq]; exact s3
    | @tup a ds' vs hl rs =>
      cases e1
      refine ⟨a, vs, rfl, .inr ⟨hl, rfl⟩, ?_⟩
      cases p with
      | true => exact rs.imm ⟨fun _ _ _ e => e⟩ (by simpa using c)
      | false =>
        cases (show RD G Z H (.tup ds) (.ref a) from r) with
        | tup h3 s3 => rw [hT hl.sq h3.sq]; exact s3
    | _ => cases e1
  · cases e2
theorem boot_tuple : bootBuiltins "tuple" = some (.type "tuple") := by decide +kernel
theorem boot_list : bootBuiltins "list" = some (.type "list") := by decide +kernel
theorem boot_int' : bootBuiltins "int" = some (.type "int") := by decide +kernel
theorem boot_str' : bootBuiltins "str" = some (.type "str") := by decide +kernel
theorem boot_sum' : bootBuiltins "sum" = some (.builtin "sum") := by decide +kernel
theorem boot_all' : bootBuiltins "all" = some (.builtin "all") := by decide +kernel
theorem boot_any' : bootBuiltins "any" = some (.builtin "any") := by decide +kernel
theorem boot_sorted' : bootBuiltins "sorted" = some (.builtin "sorted") := by decide +kernel
theorem boot_min' : bootBuiltins "min" = some (.builtin "min") := by decide +kernel
theorem boot_max' : bootBuiltins "max" = some (.builtin "max") := by decide +kernel
/-- a built-in of one argument, by values -/
def rB1 (G : Gx) (g : Str) : List V → Hp → VK → Prop := fun xs H Q => ∃ Z ph o t v, xs = [v] ∧ RO G Z ph H o v ∧ blt1 g o = some t ∧ Ans G Z H t Q
theorem b_len (hK : X.K = G.K) : CallR X (.builtin "len") (rB1 G "len") := by
  intro pins s σ H xs us Q I r h
  obtain ⟨Z, ph, o, t, v, rfl, ro, e, q⟩ := h
  simp only [blt1, if_true, Option.map_eq_some_iff] at e
  obtain ⟨k, e, e2⟩ := e
  subst e2
  exact call_lenG hK pins s σ H _ us Q I r ⟨o.1, v, k, rfl, ro.ra, e, q.data (.int _)⟩
theorem b_int (hK : X.K = G.K) : CallR X (.type "int") (rB1 G "int") := by
  intro pins s σ H xs us Q I r h
  obtain ⟨Z, ph, o, t, v, rfl, ro, e, q⟩ := h
  rw [show blt1 "int" o = (match o.1 with | .int i => some (.d (.int i)) | .bl b => some (.d (.int (if b then 1 else 0))) | _ => none) from rfl] at e
  have a := ro.any
  split at e
  · rename_i i eo
    rw [eo] at a
    cases a
    cases e
    exact call_int1 pins s σ H _ us Q I r (.inl ⟨i, rfl, q.data (.int _)⟩)
  · rename_i i eo
    rw [eo] at a
    cases a
    cases e
    exact call_int1 pins s σ H _ us Q I r (.inr ⟨i, rfl, q.data (.int _)⟩)
  · cases e
theorem b_str (hK : X.K = G.K) : CallR X (.type "str") (rB1 G "str") := by
  intro pins s σ H xs us Q I r h
  obtain ⟨Z, ph, o, t, v, rfl, ro, e, q⟩ := h
  rw [show blt1 "str" o = (match o.1 with | .int i => if strOk i then some (.d (.str (toString i))) else none | _ => none) from rfl] at e
  have a := ro.any
  split at e
  · rename_i i eo
    rw [eo] at a
    cases a
    split at e
    · rename_i c
      cases e
      exact call_str_int pins s σ H _ us Q I r ⟨i, rfl, of_decide_eq_true c, q.data (.str _)⟩
    · cases e
  · cases e
theorem b_tuple (hK : X.K = G.K) : CallR X (.type "tuple") (rB1 G "tuple") := by
  intro pins s σ H xs us Q I r h
  obtain ⟨Z, ph, o, t, v, rfl, ro, e, q⟩ := h
  rw [show blt1 "tuple" o = (itemsO o).map fun ds => .d (.tup ds) from rfl, Option.map_eq_some_iff] at e
  obtain ⟨ds, e, e2⟩ := e
  subst e2
  obtain ⟨a, vs, rfl, hh, rd⟩ := items_rd (fun {a xs ys} h1 h2 => by rw [← hK] at h1 h2; exact I.list_inj h1 h2) (fun {a xs ys} h1 h2 => by rw [← hK] at h1 h2; exact I.tuple_inj h1 h2) ro e
  rcases hh with ⟨hh, _⟩ | ⟨hh, _⟩
  · exact call_tupleZ pins s σ H _ us Q I r ⟨a, vs, rfl, by rw [hK]; exact hh, fun l o hl ho => ans_tup q rd hl ho⟩
  · exact call_tupleT pins s σ H _ us Q I r ⟨a, vs, rfl, by rw [hK]; exact hh.sq, q.data (.tup hh rd)⟩
theorem b_list (hK : X.K = G.K) : CallR X (.type "list") (rB1 G "list") := by
  intro pins s σ H xs us Q I r h
  obtain ⟨Z, ph, o, t, v, rfl, ro, e, q⟩ := h
  rw [show blt1 "list" o = (itemsO o).map fun ds => .lst (ds.map .d) from rfl, Option.map_eq_some_iff] at e
  obtain ⟨ds, e, e2⟩ := e
  subst e2
  obtain ⟨a, vs, rfl, hh, rd⟩ := items_rd (fun {a xs ys} h1 h2 => by rw [← hK] at h1 h2; exact I.list_inj h1 h2) (fun {a xs ys} h1 h2 => by rw [← hK] at h1 h2; exact I.tuple_inj h1 h2) ro e
  refine call_list_of pins s σ H _ us Q I r ⟨a, vs, rfl, ?_, fun l hl => ans_lst q rd hl⟩
  rcases hh with ⟨hh, _⟩ | ⟨hh, _⟩
  · exact .inl (by rw [hK]; exact hh)
  · exact .inr (by rw [hK]; exact hh.sq)
theorem b_sum (hK : X.K = G.K) (hc : X.calm = true) : CallR X (.builtin "sum") (rB1 G "sum") := by
  intro pins s σ H xs us Q I r h
  obtain ⟨Z, ph, o, t, v, rfl, ro, e, q⟩ := h
  rw [show blt1 "sum" o = (match o.1 with | .lst ds => (intsD ds).map fun ns => .d (.int ns.sum) | _ => none) from rfl] at e
  have a := ro.any
  split at e
  · rename_i ds eo
    rw [eo] at a
    cases a with
    | lst hl rs =>
      rw [Option.map_eq_some_iff] at e
      obtain ⟨ns, e1, e2⟩ := e
      subst e2
      have ev := ints_rd rs e1
      subst ev
      exact cr_sum hc pins s σ H _ us Q I r ⟨_, ns, rfl, by rw [hK]; exact hl.sq, q.data (.int _)⟩
  · cases e
theorem b_all (hK : X.K = G.K) (hc : X.calm = true) : CallR X (.builtin "all") (rB1 G "all") := by
  intro pins s σ H xs us Q I r h
  obtain ⟨Z, ph, o, t, v, rfl, ro, e, q⟩ := h
  rw [show blt1 "all" o = (match o.1 with | .lst ds => (blsD ds).map fun bs => .d (.bl (bs.all id)) | _ => none) from rfl] at e
  have a := ro.any
  split at e
  · rename_i ds eo
    rw [eo] at a
    cases a with
    | lst hl rs =>
      rw [Option.map_eq_some_iff] at e
      obtain ⟨ns, e1, e2⟩ := e
      subst e2
      have ev := bls_rd rs e1
      subst ev
      exact cr_all hc pins s σ H _ us Q I r ⟨_, ns, rfl, by rw [hK]; exact hl.sq, q.data (.bl _)⟩
  · cases e
theorem b_any (hK : X.K = G.K) (hc : X.calm = true) : CallR X (.builtin "any") (rB1 G "any") := by
  intro pins s σ H xs us Q I r h
  obtain ⟨Z, ph, o, t, v, rfl, ro, e, q⟩ := h
  rw [show blt1 "any" o = (match o.1 with | .lst ds => (blsD ds).map fun bs => .d (.bl (bs.any id)) | _ => none) from rfl] at e
  have a := ro.any
  split at e
  · rename_i ds eo
    rw [eo] at a
    cases a with
    | lst hl rs =>
      rw [Option.map_eq_some_iff] at e
      obtain ⟨ns, e1, e2⟩ := e
      subst e2
      have ev := bls_rd rs e1
      subst ev
      exact cr_any hc pins s σ H _ us Q I r ⟨_, ns, rfl, by rw [hK]; exact hl.sq, q.data (.bl _)⟩
  · cases e
theorem map_int_d (ns : List Int) : (ns.map D.int).map T.d = ns.map fun i => T.d (.int i) := by rw [List.map_map]; rfl
end Bw

set_option maxHeartbeats 4000000
namespace PyProof.Rows
open PySem PySem.Spec
section
variable {prog : Program} {w : World} {A : Around} {E : Value → Shared → Prop} {s : Shared}
theorem collect_tupleZ {l : Addr} {vs : List Value} {Q : List Value → Shared → Prop} (hl : IsTup s.heap l vs.toArray)
    (h : Q vs { s with heap := (s.heap.push (seqObj "list" #[] 0)).update s.heap.objs.size (Obj.mapSeq (· ++ vs.toArray)) }) (hsz : vs.length ≤ sizeLine := by size_fits) :
    wpAny (model prog w) A (collect (.ref l)) Q E s := by
  obtain ⟨o, ho, hc, n, hd⟩ := id hl
  unfold collect
  refine wpAny_bind (wpAny_runValue (codeAny_builtin entry_proto_collect' ?_))
  show wpAny _ _ (do again (.builtin "list.__iadd__" ⟨[← newList [], .ref l], []⟩)) _ _ s
  refine wpAny_bind (wpAny_newList (wpAny_pure ⟨Code.quiet_builtin _ (by decide +kernel), codeAny_builtin entry_list_iadd' ?_⟩))
  show wpAny _ _ (Builtin.List.listExtendWith (.ref s.heap.objs.size) (.ref l) (.ref s.heap.objs.size)) _ _ { s with heap := s.heap.push (seqObj "list" #[] 0) }
  unfold Builtin.List.listExtendWith
  have ho' : (s.heap.push (seqObj "list" #[] 0)).get? l = some o := Heap.get?_push_of_some _ ho
  refine wpAny_bind (wpAny_typeOf (T := "tuple") ⟨o, ho', hc⟩ ?_)
  have ht : (Value.type "tuple" == Value.type "tuple") = true := by rfl
  rw [if_pos (by rw [ht]; simp)]
  refine wpAny_bind (listItems_at ho' hd ?_)
  refine wpAny_bind (listItems_at (xs := #[]) (n := 0) (Heap.get?_push_size _ rfl) rfl ?_)
  rw [if_neg (by simp)]
  refine wpAny_bind (listUpdate_at (xs := #[]) (n := 0) (Heap.get?_push_size _ rfl) rfl ?_ (Nat.zero_le _) (by show (#[] ++ vs.toArray).size ≤ sizeLine + 1; simp only [Array.size_append, List.size_toArray, List.length_nil]; omega))
  refine wpAny_pure ?_
  show wpAny (model prog w) A (do
      let o ← load s.heap.objs.size
      match o.data with
      | .seq xs _ => pure xs.toList
      | _ => unsupported "internal:collect") Q E { s with heap := (s.heap.push (seqObj "list" #[] 0)).update s.heap.objs.size (Obj.mapSeq (· ++ vs.toArray)) }
  refine wpAny_bind (wpAny_load (get?_update_seq (Heap.get?_push_size _ rfl) _) ?_)
  show wpAny _ _ (pure ((#[] : Array Value) ++ vs.toArray).toList) Q E _
  rw [show ((#[] : Array Value) ++ vs.toArray).toList = vs by simp]
  exact wpAny_pure h
end
end PyProof.Rows
namespace SrtO
open PySem PySem.Spec PyProof.Rows
section
variable {prog : Program} {w : World} {A : Around} {E : Value → Shared → Prop} {s : Shared}
theorem sorted_ordT {l : Addr} {vs : List Value} {ltv : Value → Value → Bool} {Q : Value → Shared → Prop} (O : Swo ltv) (hl : IsTup s.heap l vs.toArray) (hz : vs.length ≤ sizeLine)
    (hS : 2 ≤ vs.length → ∀ (h₁ : Heap) (a : Addr), h₁.get? a = some (seqObj "list" vs.toArray 0) → (∀ b o, s.heap.get? b = some o → b ≠ a ∧ h₁.get? b = some o) → SortableO prog w A.in1.in1 { s with heap := h₁ } a vs ltv)
    (h : ∀ out : List Value, Srtd ltv out → Stb ltv out vs → Q (.ref (s.heap.objs.size + 1)) { s with heap := sortedAll s.heap vs out.toArray }) :
    wpAny (model prog w) A (call (.builtin "sorted") [.ref l]) Q E s := by
  refine Calls.call_function_entry kind_sorted plain_sorted entry_sorted (args_sorted1 _) ?_
  unfold Builtin.«sorted»
  refine wpAny_bind (m := checkCount "sorted" 1 1 _) (wpAny_pure ?_)
  refine wpAny_bind (collect_tupleZ hl ?_ hz)
  refine wpAny_bind (wpAny_newList ?_ hz)
  have hsz : ((s.heap.push (seqObj "list" #[] 0)).update s.heap.objs.size (Obj.mapSeq (· ++ vs.toArray))).objs.size = s.heap.objs.size + 1 := by
    rw [Heap.size_update, size_push']
  have hoL : (((s.heap.push (seqObj "list" #[] 0)).update s.heap.objs.size (Obj.mapSeq (· ++ vs.toArray))).push (seqObj "list" vs.toArray 0)).get? (s.heap.objs.size + 1) = some (seqObj "list" vs.toArray 0) := by
    rw [← hsz]; exact Heap.get?_push_size _ rfl
  have keep : ∀ b o, s.heap.get? b = some o → b ≠ s.heap.objs.size + 1 ∧ (((s.heap.push (seqObj "list" #[] 0)).update s.heap.objs.size (Obj.mapSeq (· ++ vs.toArray))).push (seqObj "list" vs.toArray 0)).get? b = some o := fun b o q => by
    have hlt : b < s.heap.objs.size := Heap.lt_size q
    refine ⟨Nat.ne_of_lt (Nat.lt_succ_of_lt hlt), Heap.get?_push_of_some _ ?_⟩
    rw [Heap.get?_update_ne _ _ _ _ (Nat.ne_of_lt hlt)]
    exact Heap.get?_push_of_some _ q
  show wpAny _ _ _ _ _ { s with heap := ((s.heap.push (seqObj "list" #[] 0)).update s.heap.objs.size (Obj.mapSeq (· ++ vs.toArray))).push (seqObj "list" vs.toArray 0) }
  rw [hsz]
  refine wpAny_bind (wpAny_holding (wpAny_call_entry slot_list_sort ⟨_, hoL, rfl⟩ entry_list_sort (list_sort_ord O hoL hz (fun h2 => hS h2 _ _ hoL keep) fun out hs hb => ⟨_, rfl, ?_⟩) (args_list_sort _)))
  exact wpAny_pure ⟨_, rfl, h out hs hb⟩
end
end SrtO
namespace Bw
open PySem PySem.Spec PyProof.Rows L2
variable {G : Gx} {E : Ev} {X : Cx} {sc : Scope} {W : WX} {Z Z' Z1 Z2 : Addr → Prop} {H H' H1 H2 : Hp} {σ : L2.St} {fr fr' fr1 fr2 : Fr} {ph ph' ph1 ph2 : Nat → List Addr} {o : Opd} {v : V} {d : D} {g g1 g2 : List Addr} {t : T} {n : Nat}
theorem cr_sortedT : CallR X (.builtin "sorted") (fun vs H Q => ∃ (a : Addr) (ns : List Int), vs = [V.ref a] ∧ SqT X.K H a (ns.map V.int) ∧
    ∀ (ns' : List Int) (p : Addr), ns'.Perm ns → ns'.Pairwise (· ≤ ·) → H p = none → Q (.ref p) (upd H p (.lst (ns'.map V.int)))) := by
  intro pins s σ H vs us Q I r h
  obtain ⟨a, ns, rfl, hs, q⟩ := h
  obtain ⟨its, rv, hl, hz⟩ := I.tuple hs
  rw [Vals.ref1 r]
  have hi := rv.ints
  refine SrtO.sorted_ordT SrtO.swo_int hl (by rw [← rv.length]; exact hz) (fun h2 h₁ a' _ _ => SrtO.ints_sortable hi h2) fun out h1 h2 => ?_
  obtain ⟨k1, k2, k3⟩ := SrtO.ints_out hi h1 h2
  obtain ⟨ep, he'⟩ := PyProof.Rows.sortedAll_at s.heap its out.toArray
  have hlen : ((out.map SrtO.iv).map V.int).length ≤ sizeLine := by
    rw [List.length_map, k2.length_eq]
    rw [List.length_map] at hz
    exact hz
  exact ⟨.ref _, upd H (s.heap.objs.size + 1) (.lst ((out.map SrtO.iv).map V.int)), I.laid (t' := s.toks) (fun _ _ => PyProof.Rows.sortedAll_old) (Nat.le_succ _) ⟨hlen, out, ep, vals_of_ints k1, he'⟩, rfl, q _ _ k2 k3 (I.hok.fresh (Nat.le_succ _))⟩
theorem b_sorted (hK : X.K = G.K) : CallR X (.builtin "sorted") (rB1 G "sorted") := by
  intro pins s σ H xs us Q I r h
  obtain ⟨Z, ph, o, t, v, rfl, ro, e, q⟩ := h
  rw [show blt1 "sorted" o = (seqD o.1).bind fun ds => (intsD ds).map fun ns => .lst ((sortI ns).map fun i => .d (.int i)) from rfl, Option.bind_eq_some_iff] at e
  obtain ⟨ds, e1, e2⟩ := e
  rw [Option.map_eq_some_iff] at e2
  obtain ⟨ns, e2, e3⟩ := e2
  subst e3
  have fin : ∀ (ns' : List Int) (p : Addr), ns'.Perm ns → ns'.Pairwise (· ≤ ·) → H p = none → Q (.ref p) (upd H p (.lst (ns'.map V.int))) := fun ns' p h1 h2 hp => by
    rw [sort_uniq h1 h2]
    rw [← map_int_d] at q
    exact ans_lst q (rd_ints _) hp
  have a := ro.any
  cases ho : o.1 with
  | lst ds' =>
    rw [ho] at a e1
    cases e1
    cases a with
    | lst hl rs =>
      have ev := ints_rd rs e2
      subst ev
      exact cr_sortedI pins s σ H _ us Q I r ⟨_, ns, rfl, by rw [hK]; exact hl.sq, fin⟩
  | tup ds' =>
    rw [ho] at a e1
    cases e1
    cases a with
    | tup hl rs =>
      have ev := ints_rd rs e2
      subst ev
      exact cr_sortedT pins s σ H _ us Q I r ⟨_, ns, rfl, by rw [hK]; exact hl.sq, fin⟩
  | _ => rw [ho] at e1; cases e1
/-- a built-in of two arguments -/
def rB2 (G : Gx) (g : Str) : List V → Hp → VK → Prop := fun xs H Q => ∃ Z ph o1 o2 t v1 v2, xs = [v1, v2] ∧ RO G Z ph H o1 v1 ∧ RO G Z ph H o2 v2 ∧ blt2 g o1.1 o2.1 = some t ∧ Ans G Z H t Q
theorem b_min (hc : X.calm = true) : CallR X (.builtin "min") (rB2 G "min") := by
  intro pins s σ H xs us Q I r h
  obtain ⟨Z, ph, o1, o2, t, v1, v2, rfl, r1, r2, e, q⟩ := h
  rw [show blt2 "min" o1.1 o2.1 = (match o1.1, o2.1 with | .int i, .int j => some (.d (.int (if j < i then j else i))) | _, _ => none) from rfl] at e
  have a1 := r1.any
  have a2 := r2.any
  split at e
  · rename_i i j e1 e2
    rw [e1] at a1
    rw [e2] at a2
    cases a1
    cases a2
    cases e
    exact call_min2 hc pins s σ H _ us Q I r ⟨i, j, rfl, q.data (.int _)⟩
  · cases e
theorem b_max (hc : X.calm = true) : CallR X (.builtin "max") (rB2 G "max") := by
  intro pins s σ H xs us Q I r h
  obtain ⟨Z, ph, o1, o2, t, v1, v2, rfl, r1, r2, e, q⟩ := h
  rw [show blt2 "max" o1.1 o2.1 = (match o1.1, o2.1 with | .int i, .int j => some (.d (.int (if j > i then j else i))) | _, _ => none) from rfl] at e
  have a1 := r1.any
  have a2 := r2.any
  split at e
  · rename_i i j e1 e2
    rw [e1] at a1
    rw [e2] at a2
    cases a1
    cases a2
    cases e
    exact call_max2 hc pins s σ H _ us Q I r ⟨i, j, rfl, q.data (.int _)⟩
  · cases e
/-! ### x[::-1] -/
def tRevO (G : Gx) (te : TE) : TE := fun σ H Q => te σ H fun x H1 => ∃ Z ph o t, RO G Z ph H1 o x ∧ revO o = some t ∧ Ans G Z H1 t Q
theorem rev_adjust (n : Nat) : Builtin.Slice.sliceAdjust none none (-1) (n : Int) = ((n : Int) - 1, -1) := by
  unfold Builtin.Slice.sliceAdjust
  simp
theorem rev_places (n : Nat) : Builtin.Slice.slicePlaces ((n : Int) - 1) (-1) (-1) = n := by
  unfold Builtin.Slice.slicePlaces
  simp
  omega
theorem rev_pick_go {α : Type} (xs : List α) : ∀ m, m ≤ xs.length → ((List.range m).filterMap fun (k : Nat) => xs.toArray[(((xs.length : Nat) : Int) - 1 + (k : Int) * (-1)).toNat]?) = xs.reverse.take m
  | 0, _ => rfl
  | m + 1, h => by
    rw [List.range_succ, List.filterMap_append, rev_pick_go xs m (by omega), List.take_add_one, List.getElem?_reverse (by omega)]
    congr 1
    have e : (((xs.length : Nat) : Int) - 1 + (m : Int) * (-1)).toNat = xs.length - 1 - m := by omega
    have e2 : xs[xs.length - 1 - m]? = some xs[xs.length - 1 - m] := List.getElem?_eq_getElem (by omega)
    rw [List.filterMap_cons, e, List.getElem?_toArray, e2]
    rfl
theorem rev_pick {α : Type} (xs : List α) : ((List.range xs.toArray.size).filterMap fun (k : Nat) => xs.toArray[(((xs.toArray.size : Nat) : Int) - 1 + (k : Int) * (-1)).toNat]?) = xs.reverse := by
  rw [List.size_toArray, rev_pick_go xs _ (Nat.le_refl _), List.take_of_length_le (by rw [List.length_reverse]; omega)]
theorem sliceApplied_rev {prog : Program} {w : World} {A : Around} {E : Value → Shared → Prop} {s : Shared} {sl : Addr} {t : Tok} {n : Nat} {Q : Int × Int × Nat → Shared → Prop} (hs : s.heap.IsSliceOf sl .none .none (.int (-1) t))
    (h : Q ((n : Int) - 1, -1, n) s) : wpAny (model prog w) A (Builtin.Slice.sliceApplied (.ref sl) (pure (n : Int))) Q E s := by
  obtain ⟨os, hos, hcs, hds⟩ := id hs
  unfold Builtin.Slice.sliceApplied Builtin.Slice.sliceFields
  refine wpAny_bind (wpAny_bind (wpAny_field hos hds (x := .none) rfl (wpAny_bind (wpAny_field hos hds (x := .none) rfl (wpAny_bind (wpAny_field hos hds (x := .int (-1) t) rfl (wpAny_pure ?_)))))))
  refine wpAny_bind (slicePart_int ?_)
  show wpAny _ _ (if ((-1 : Int) == 0) = true then _ else _) _ _ s
  rw [if_neg (by decide)]
  refine wpAny_bind (slicePart_none (wpAny_bind (slicePart_none (wpAny_bind (wpAny_pure ?_)))))
  show wpAny _ _ (match Builtin.Slice.sliceAdjust none none (-1) (n : Int) with | (lo, hi) => pure (lo, (-1 : Int), Builtin.Slice.slicePlaces lo hi (-1))) _ _ s
  rw [rev_adjust n]
  show wpAny _ _ (pure ((n : Int) - 1, (-1 : Int), Builtin.Slice.slicePlaces ((n : Int) - 1) (-1) (-1))) _ _ s
  rw [rev_places]
  exact wpAny_pure h
theorem getItem_tuple_rev {prog : Program} {w : World} {A : Around} {E : Value → Shared → Prop} {s : Shared} {t sl : Addr} {its : List Value} {k : Tok} {Q : Value → Shared → Prop} (ht : IsTup s.heap t its.toArray) (hs : s.heap.IsSliceOf sl .none .none (.int (-1) k))
    (h : Q (.ref s.heap.objs.size) { s with heap := s.heap.push { cls := .type "tuple", data := .seq its.reverse.toArray } })
    (hsz : its.length ≤ sizeLine) : wpAny (model prog w) A (getItem (.ref t) (.ref sl)) Q E s := by
  have htake : sizeOk (.seq its.reverse.toArray) := by
    show its.reverse.toArray.size ≤ sizeLine
    rw [List.size_toArray, List.length_reverse]
    exact hsz
  obtain ⟨os, hos, hcs, hds⟩ := id hs
  have hTs : s.TypeIs (.ref sl) "slice" := ⟨os, hos, hcs⟩
  unfold getItem
  try with_reducible refine wpAny_holding ?_
  first | refine wpAny_bind (wpAny_pure ?_) | skip
  refine wpAny_bind (wpAny_sequenceKey ht.typeIs (by decide) ?_)
  refine wpAny_bind (wpAny_callSpecial?_slot (name := Str.ofString "__getitem__") ht.typeIs PyProof.Rows.slot_tuple_getitem
    (wpAny_call_entry PyProof.Rows.slot_tuple_getitem ht.typeIs entry_tuple_getitem ?_ (args_tuple_getitem _ _)))
  show wpAny _ _ (Builtin.Tuple.tupleItemsOf (.ref t) >>= _) _ _ s
  refine wpAny_bind (tupleItemsOf_ ht ?_)
  refine wpAny_bind (wpAny_typeOf hTs ?_)
  rw [if_pos (by decide)]
  refine wpAny_bind (sliceApplied_rev hs ?_)
  have hno : ¬ ((((its.toArray.size : Int) - 1) == 0 && (-1 : Int) == 1 && its.toArray.size == its.toArray.size) = true) := by
    simp
  show wpAny _ _ (if ((((its.toArray.size : Int) - 1) == 0 && (-1 : Int) == 1 && its.toArray.size == its.toArray.size) = true) then _ else _) _ _ s
  rw [if_neg hno, rev_pick]
  first
    | exact wpAny_bind (m := Builtin.Tuple.tupleExact _) (wpAny_newObj_type (wpAny_pure ⟨_, rfl, wpAny_pure h⟩) htake)
    | exact wpAny_bind (m := Builtin.Tuple.tupleExact _) (wpAny_newObj_type (wpAny_bind (wpAny_pure (wpAny_pure ⟨_, rfl, wpAny_pure h⟩))) htake)
    | exact wpAny_bind (wpAny_bind (m := Builtin.Tuple.tupleExact _) (wpAny_newObj_type (wpAny_pure (wpAny_pure ⟨_, rfl, wpAny_pure h⟩)) htake))
    | exact wpAny_bind (wpAny_bind (m := Builtin.Tuple.tupleExact _) (wpAny_newObj_type (wpAny_pure ⟨_, rfl, wpAny_pure h⟩) htake))
theorem pe_revO (hK : X.K = G.K) {e : Expr} {te : TE} {k : Nat} {p1 p2 p3 pos : Pos} (he : PE X e te) : PE X (.Subscript e (.Slice none none (some (.UnaryOp .USub (.Constant (.int 1) k p1) p2)) p3) pos) (tRevO G te) := by
  refine ⟨fun pins s σ H Q I h => ?_⟩
  refine Subscript_ (thn (he.run pins s σ H _ I h) fun v s1 ⟨x, H1, I1, r1, q1⟩ => ?_)
  obtain ⟨Z, ph, o, t, ro, et, q⟩ := q1
  have hst : PO X (some (.UnaryOp .USub (.Constant (.int 1) k p1) p2)) (tPart (tUn (rU fun i => .int (-i)) (tC (.int 1)))) := po_some (pe_un un_neg pe_int)
  refine wpAny_Slice (thn (po_none.run pins s1 σ H1 (fun o H2 => o = none ∧ H2 = H1) I1 ⟨rfl, rfl⟩) fun vl s2 ⟨l, H2, I2, pl, el, e2⟩ => ?_)
  subst el e2
  refine thn (po_none.run pins s2 σ H2 (fun o H3 => o = none ∧ H3 = H2) I2 ⟨rfl, rfl⟩) fun vu s3 ⟨u, H3, I3, pu, eu, e3⟩ => ?_
  subst eu e3
  refine thn (hst.run pins s3 σ H3 (fun o H4 => o = some (-1) ∧ H4 = H3) I3 ⟨1, rfl, -1, rfl, rfl, rfl⟩) fun vs s4 ⟨o', H4, I4, ps, eo, e4⟩ => ?_
  subst eo e4
  have I5 : Inv X pins σ H4 { s4 with heap := s4.heap.push { cls := .type "slice", data := .fields #[vl, vu, vs] } } := I4.kept (t' := s4.toks) fun b ob q => Heap.get?_push_of_some _ q
  show wpAny (model X.prog X.w) X.A (subscriptTail e (.Slice none none (some (.UnaryOp .USub (.Constant (.int 1) k p1) p2)) p3) v (.ref s4.heap.objs.size)) (EP X pins σ Q) X.xe { s4 with heap := s4.heap.push { cls := .type "slice", data := .fields #[vl, vu, vs] } }
  obtain ⟨d, p⟩ := o
  unfold revO at et
  have a := ro.any
  cases a with
  | @lst a ds vs' hl rs =>
    simp only at et
    split at et
    · rename_i c
      cases et
      have rz : RDs G Z H4 ds vs' := by
        cases p with
        | true => exact rs.imm ⟨fun _ _ _ e => e⟩ (by simpa using c)
        | false =>
          cases (show RD G Z H4 (.lst ds) (.ref a) from ro) with
          | lst h3 s3 =>
            have e3 := hl.sq
            have e4 := h3.sq
            rw [← hK] at e3 e4
            rw [I4.list_inj e3 e4]
            exact s3
      cases r1
      obtain ⟨its, r, ht, hz⟩ := I5.list (by rw [hK]; exact hl.sq)
      refine tail_any (ops := [.ref a, .ref s4.heap.objs.size]) ht.isList.typeIs (PySem.slot_list_getitem.lookup) ?_ (by with_unfolding_all rfl)
      refine wpAny_getItem_list_slice ht.isList (Heap.IsSliceOf.new _ vl vu vs) pl pu ps (by decide) ?_ (by rw [List.size_toArray]; have := r.length; omega)
      rw [PySem.W.krv_pick]
      refine ⟨.ref _, _, I5.laid (t' := s4.toks) (o := .lst vs'.reverse) (fun b ob q => Heap.get?_push_of_some _ q) (Nat.le_refl _) ?_, rfl, ans_lst q rz.reverse (I5.hok.fresh (Nat.le_refl _))⟩
      exact ⟨by rw [List.length_reverse]; exact hz, _, 0, r.reverse, Heap.get?_push_size _ rfl⟩
    · cases et
  | @tup a ds vs' hl rs =>
    simp only at et
    split at et
    · rename_i c
      cases et
      have rz : RDs G Z H4 ds vs' := by
        cases p with
        | true => exact rs.imm ⟨fun _ _ _ e => e⟩ (by simpa using c)
        | false =>
          cases (show RD G Z H4 (.tup ds) (.ref a) from ro) with
          | tup h3 s3 =>
            have e3 := hl.sq
            have e4 := h3.sq
            rw [← hK] at e3 e4
            rw [I4.tuple_inj e3 e4]
            exact s3
      cases r1
      obtain ⟨its, r, ht, hz⟩ := I5.tuple (by rw [hK]; exact hl.sq)
      cases pl
      cases pu
      cases ps
      refine tail_any (ops := [.ref a, .ref s4.heap.objs.size]) ht.typeIs (PyProof.Rows.slot_tuple_getitem.lookup) ?_ (by with_unfolding_all rfl)
      refine getItem_tuple_rev ht (Heap.IsSliceOf.new _ _ _ _) ?_ (by have := r.length; omega)
      refine ⟨.ref _, _, I5.laid (t' := s4.toks) (o := .frz _ (.tup vs'.reverse)) (fun b ob q => Heap.get?_push_of_some _ q) (Nat.le_refl _) ⟨Heap.get?_push_size _ rfl, ?_⟩, rfl, ans_tup q rz.reverse (I5.hok.fresh (Nat.le_refl _)) rfl⟩
      exact ⟨by rw [List.length_reverse]; exact hz, _, r.reverse, IsTup.new _ _⟩
    · cases et
  | _ => cases et
end Bw

set_option maxHeartbeats 4000000
namespace Bw
open PySem PySem.Spec PyProof.Rows L2
variable {G : Gx} {E : Ev} {X : Cx} {sc : Scope} {W : WX} {Z Z' Z1 Z2 : Addr → Prop} {H H' H1 H2 : Hp} {σ : L2.St} {fr fr' fr1 fr2 : Fr} {ph ph' ph1 ph2 : Nat → List Addr} {o : Opd} {v : V} {d : D} {g g1 g2 : List Addr} {t : T} {n : Nat}
theorem c_rev (L : Lk G E X sc) (ho : ∀ e, PE X e (tO G W (evO E sc n e))) {e : Expr} {k : Nat} {p1 p2 p3 pos : Pos} :
    PE X (.Subscript e (.Slice none none (some (.UnaryOp .USub (.Constant (.int 1) k p1) p2)) p3) pos) (tV G W (evC E sc (n + 1) (.Subscript e (.Slice none none (some (.UnaryOp .USub (.Constant (.int 1) k p1) p2)) p3) pos))) := by
  refine peI (pe_revO L.K (ho e)) fun σ H Q ⟨Z, fr, ph, F, h⟩ => ?_
  have h : GR (((evO E sc n e).bind fun x => .ofO (revO x)) fr) (XW G W Z H ph σ) (VPost G Z H ph σ Q) := h
  refine one_eff F h fun x v1 H1 Z1 fr1 ph1 t F1 r1 s1 e p => ⟨Z1, ph1, x, t, r1, e, ans_of F1 s1 p⟩
/-- the reading of a built-in's call -/
def tB1 (G : Gx) (W : WX) (E : Ev) (sc : Scope) (n : Nat) (g : Str) (a : Expr) : TE := fun σ H Q => ∃ Z fr ph, FrOk G Z H σ fr ph ∧ GR (((evO E sc n a).bind fun x => .ofO (blt1 g x)) fr) (XW G W Z H ph σ) (VPost G Z H ph σ Q)
def tB2 (G : Gx) (W : WX) (E : Ev) (sc : Scope) (n : Nat) (g : Str) (a b : Expr) : TE := fun σ H Q => ∃ Z fr ph, FrOk G Z H σ fr ph ∧ GR (((ev2 E sc n a b).bind fun xy => .ofO (blt2 g xy.1.1 xy.2.1)) fr) (XW G W Z H ph σ) (VPost G Z H ph σ Q)
theorem nostar_cons {e : Expr} {es : List Expr} (h : nostar (e :: es) = true) (env : Env) : starEach (e :: es) env = (false, eval e env) :: starEach es env ∧ nostar es = true := by
  rw [nostar, Bool.and_eq_true] at h
  obtain ⟨h1, h2⟩ := h
  cases e <;> first
    | exact ⟨rfl, h2⟩
    | (exact absurd h1 (by simp [isStar]))
theorem nostar_plain {es : List Expr} (h : nostar es = true) (env : Env) (pos : Pos) : (backTo pos (starEach es env)).any (·.1) = false := by
  induction es with
  | nil => rfl
  | cons e es ih =>
    obtain ⟨h1, h2⟩ := nostar_cons h env
    rw [h1]
    show (false || (backTo pos (starEach es env)).any (·.1)) = false
    rw [ih h2]
    rfl
theorem nostar_all {es : List Expr} (h : nostar es = true) (env : Env) (pos : Pos) : (backTo pos (starEach es env)).all (fun x => !x.1) = true := by
  induction es with
  | nil => rfl
  | cons e es ih =>
    obtain ⟨h1, h2⟩ := nostar_cons h env
    rw [h1]
    show (true && (backTo pos (starEach es env)).all (fun x => !x.1)) = true
    rw [ih h2]
    rfl
theorem b1_read {g : Str} {a : Expr} (σ : L2.St) (H : Hp) (Q : VK) (h : tB1 G W E sc n g a σ H Q) : tCB (rB1 G g) (tCons (tO G W (evO E sc n a)) tNil) σ H Q := by
  obtain ⟨Z, fr, ph, F, h⟩ := h
  exact one_eff F h fun x v1 H1 Z1 fr1 ph1 t F1 r1 s1 e p => ⟨Z1, ph1, x, t, v1, rfl, r1, e, ans_of F1 s1 p⟩
theorem b2_read {g : Str} {a b : Expr} (σ : L2.St) (H : Hp) (Q : VK) (h : tB2 G W E sc (n + 1) g a b σ H Q) : tCB (rB2 G g) (tCons (tO G W (evO E sc n a)) (tCons (tO2 G W E sc n b) tNil)) σ H Q := by
  obtain ⟨Z, fr, ph, F, h⟩ := h
  refine two_eff (r := fun v1 v2 H2 Q => rB2 G g [v1, v2] H2 Q) F (GR.bind h) fun x y v1 v2 H2 Z2 fr2 ph2 F2 r1 r2 st p => ?_
  obtain ⟨t, e, p⟩ := GR.ofO p
  exact ⟨Z2, ph2, x, y, t, v1, v2, rfl, r1, r2, e, ans_of F2 st p⟩
theorem c_blt1 (L : Lk G E X sc) (hc : X.calm = true) (ho : ∀ e, PE X e (tO G W (evO E sc n e))) {g : Str} {p pos : Pos} {a : Expr} (hg : isGlob sc g = true) (hb : E.blt g = true) (hs : nostar [a] = true) (hi : isB1 g = true) :
    PE X (.Call (.Name g p) [a] [] pos) (tB1 G W E sc n g a) := by
  have hst := (nostar_cons hs X.env).1
  have gl := isGlob_gl hg L.sc
  have mg := L.blt _ hb
  have ha : PA X [a] (tCons (tO G W (evO E sc n a)) tNil) := pa_cons (ho a) pa_nil hst
  by_cases h1 : g = "len"
  · subst h1; exact peI (pe_callB (b_len L.K) gl mg PySem.boot_len ha (by decide) (by decide) hst rfl) b1_read
  by_cases h2 : g = "int"
  · subst h2; exact peI (pe_callTy (b_int L.K) gl mg boot_int' ha (by decide) (by decide) hst rfl) b1_read
  by_cases h3 : g = "str"
  · subst h3; exact peI (pe_callTy (b_str L.K) gl mg boot_str' ha (by decide) (by decide) hst rfl) b1_read
  by_cases h4 : g = "tuple"
  · subst h4; exact peI (pe_callTy (b_tuple L.K) gl mg boot_tuple ha (by decide) (by decide) hst rfl) b1_read
  by_cases h5 : g = "list"
  · subst h5; exact peI (pe_callTy (b_list L.K) gl mg boot_list ha (by decide) (by decide) hst rfl) b1_read
  by_cases h6 : g = "sum"
  · subst h6; exact peI (pe_callB (b_sum L.K hc) gl mg boot_sum' ha (by decide) (by decide) hst rfl) b1_read
  by_cases h7 : g = "all"
  · subst h7; exact peI (pe_callB (b_all L.K hc) gl mg boot_all' ha (by decide) (by decide) hst rfl) b1_read
  by_cases h8 : g = "any"
  · subst h8; exact peI (pe_callB (b_any L.K hc) gl mg boot_any' ha (by decide) (by decide) hst rfl) b1_read
  by_cases h9 : g = "sorted"
  · subst h9; exact peI (pe_callB (b_sorted L.K) gl mg boot_sorted' ha (by decide) (by decide) hst rfl) b1_read
  · exfalso
    simp [isB1, h1, h2, h3, h4, h5, h6, h7, h8, h9] at hi
theorem c_blt2 (L : Lk G E X sc) (hc : X.calm = true) (ho : ∀ e, PE X e (tO G W (evO E sc n e))) {g : Str} {p pos : Pos} {a b : Expr} (hg : isGlob sc g = true) (hb : E.blt g = true) (hs : nostar [a, b] = true) (hi : isB2 g = true) :
    PE X (.Call (.Name g p) [a, b] [] pos) (tB2 G W E sc (n + 1) g a b) := by
  obtain ⟨hst, hs2⟩ := nostar_cons hs X.env
  have hst2 := (nostar_cons hs2 X.env).1
  have gl := isGlob_gl hg L.sc
  have mg := L.blt _ hb
  have ha : PA X [a, b] (tCons (tO G W (evO E sc n a)) (tCons (tO2 G W E sc n b) tNil)) := pa_cons (ho a) (pa_cons (pe_o2 L (ho b)) pa_nil hst2) hst
  by_cases h1 : g = "min"
  · subst h1; exact peI (pe_callB (b_min hc) gl mg boot_min' ha (by decide) (by decide) hst (nostar_plain hs2 _ _)) b2_read
  by_cases h2 : g = "max"
  · subst h2; exact peI (pe_callB (b_max hc) gl mg boot_max' ha (by decide) (by decide) hst (nostar_plain hs2 _ _)) b2_read
  · exfalso
    simp [isB2, h1, h2] at hi
end Bw

set_option maxHeartbeats 4000000
namespace Bw
open PySem PySem.Spec PyProof.Rows L2
variable {G : Gx} {E : Ev} {X : Cx} {sc : Scope} {W : WX} {Z Z' Z0 Z1 Z2 : Addr → Prop} {H H' H0 H1 H2 : Hp} {σ : L2.St} {fr fr' fr1 fr2 : Fr} {ph ph' ph0 ph1 ph2 : Nat → List Addr} {o : Opd} {v : V} {d : D} {g g1 g2 : List Addr} {t : T} {n : Nat}
/-- the object at a, owned by the i-th slot, is written; what was held may go in, part of it may come out -/
theorem slot_write {i : Nat} {a : Addr} {o' : HO} {t' : T} {g' gr gh : List Addr} (F : FrOk G Z H σ fr ph) (s : Stp Z0 H0 ph0 Z H ph gh) (nz : ∀ b, b ∈ gh → ¬ Z b) (np : ∀ b, b ∈ gh → ∀ j, b ∉ ph j)
    (hi : i < fr.length) (hv : σ[i]? = some (some v)) (ha : a ∈ ph i) (r : RT G Z (upd H a o') t' v g') (nd : (g' ++ gr).Nodup) (sub : ∀ b, b ∈ g' ++ gr → b ∈ ph i ∨ b ∈ gh) :
    FrOk G Z (upd H a o') σ (fr.set i (some t')) (setP ph i g') ∧ Stp Z0 H0 ph0 Z (upd H a o') (setP ph i g') gr ∧ ∀ b, b ∈ gr → ¬ Z b ∧ ∀ j, b ∉ setP ph i g' j := by
  obtain ⟨oa, ea, ma⟩ := F.there ha
  have hz : ¬ Z a := F.dz i a ha
  have net : ∀ b xs, H b = some (.tup xs) → b ≠ a := fun b xs e z => by subst z; rw [ea] at e; cases e; exact ma
  have nef : ∀ b ob u, H b = some (.frz ob u) → b ≠ a := fun b ob u e z => by subst z; rw [ea] at e; cases e; exact ma
  have hS : Sub Z H Z (upd H a o') := ⟨fun b ob p e => ⟨p, by rw [upd_ne (show b ≠ a from fun z => by subst z; exact hz p)]; exact e⟩, fun b xs e => by rw [upd_ne (net b xs e)]; exact e, fun b ob u e => by rw [upd_ne (nef b ob u e)]; exact e⟩
  have old : ∀ b, b ∈ g' ++ gr → ∀ j, j ≠ i → b ∉ ph j := fun b m j q m2 => by
    rcases sub b m with m1 | m1
    · exact q (F.dj j i b m2 m1)
    · exact np b m1 j m2
  have oldz : ∀ b, b ∈ g' ++ gr → ¬ Z b := fun b m z => by
    rcases sub b m with m1 | m1
    · exact F.dz i b m1 z
    · exact nz b m1 z
  refine ⟨⟨by rw [List.length_set]; exact F.len, fun j t'' e => ?_, fun j e => ?_, fun j => ?_, fun j k b m1 m2 => ?_, fun j b m => ?_, fun b z => ?_⟩, ⟨s.z, fun b ob e n => ?_, fun b ob e => ?_, fun b xs e => ?_, fun b ob u e => ?_, fun j b m => ?_, fun b m => ?_, s.zn⟩, fun b m => ⟨oldz b (List.mem_append_right _ m), fun j q => ?_⟩⟩
  · by_cases q : j = i
    · subst q
      rw [List.getElem?_set_self hi] at e
      cases e
      rw [setP_same]
      exact ⟨v, hv, r⟩
    · rw [List.getElem?_set_ne (Ne.symm q)] at e
      obtain ⟨v2, e2, r2⟩ := F.at_ j t'' e
      rw [setP_ne q]
      exact ⟨v2, e2, r2.mono ⟨hS, fun b ob m e => by rw [upd_ne (show b ≠ a from fun z => by subst z; exact q (F.dj j i b m ha))]; exact e⟩⟩
  · by_cases q : j = i
    · subst q
      exact absurd (List.getElem?_set_self hi) (e t')
    · rw [setP_ne q]
      exact F.emp j fun t'' e' => e t'' (by rw [List.getElem?_set_ne (Ne.symm q)]; exact e')
  · by_cases q : j = i
    · subst q; rw [setP_same]; exact (List.nodup_append.mp nd).1
    · rw [setP_ne q]; exact F.nd j
  · by_cases q : j = i
    · subst q
      rw [setP_same] at m1
      by_cases q2 : k = j
      · exact q2.symm
      · rw [setP_ne q2] at m2
        exact absurd m2 (old b (List.mem_append_left _ m1) k q2)
    · rw [setP_ne q] at m1
      by_cases q2 : k = i
      · subst q2
        rw [setP_same] at m2
        exact absurd m1 (old b (List.mem_append_left _ m2) j q)
      · rw [setP_ne q2] at m2
        exact F.dj j k b m1 m2
  · by_cases q : j = i
    · subst q; rw [setP_same] at m; exact oldz b (List.mem_append_left _ m)
    · rw [setP_ne q] at m; exact F.dz j b m
  · by_cases q : b = a
    · exact absurd z (q ▸ hz)
    · rw [upd_ne q]; exact F.zt b z
  · have e1 := s.keep b ob e n
    have q : b ≠ a := fun z => by
      subst z
      rcases s.new i b ha with ⟨j, m⟩ | m
      · exact n j m
      · rw [e] at m; cases m
    rw [upd_ne q]; exact e1
  · obtain ⟨o1, e1⟩ := s.there b ob e
    by_cases q : b = a
    · subst q; exact ⟨_, upd_same⟩
    · exact ⟨o1, by rw [upd_ne q]; exact e1⟩
  · have e1 := s.t b xs e
    rw [upd_ne (net b xs e1)]; exact e1
  · have e1 := s.f b ob u e
    rw [upd_ne (nef b ob u e1)]; exact e1
  · by_cases q : j = i
    · subst q
      rw [setP_same] at m
      rcases sub b (List.mem_append_left _ m) with m1 | m1
      · exact s.new j b m1
      · exact s.newg b m1
    · rw [setP_ne q] at m; exact s.new j b m
  · rcases sub b (List.mem_append_right _ m) with m1 | m1
    · exact s.new i b m1
    · exact s.newg b m1
  · by_cases qj : j = i
    · subst qj
      rw [setP_same] at q
      exact (List.nodup_append.mp nd).2.2 b q b m rfl
    · rw [setP_ne qj] at q
      exact old b (List.mem_append_right _ m) j qj q
/-- under a write at a -/
theorem sub_upd {a : Addr} {o' oa : HO} (ea : H a = some oa) (ma : Mut (some oa)) (hz : ¬ Z a) (hg : a ∉ g) : SubG Z H g Z (upd H a o') :=
  ⟨⟨fun b ob p e => ⟨p, by rw [upd_ne (show b ≠ a from fun z => by subst z; exact hz p)]; exact e⟩, fun b xs e => by rw [upd_ne (show b ≠ a from fun z => by subst z; rw [ea] at e; cases e; exact ma)]; exact e, fun b ob u e => by rw [upd_ne (show b ≠ a from fun z => by subst z; rw [ea] at e; cases e; exact ma)]; exact e⟩, fun b ob m e => by rw [upd_ne (show b ≠ a from fun z => by subst z; exact hg m)]; exact e⟩
theorem RTs.append : ∀ {ts us : List T} {vs ws : List V} {g g' : List Addr}, RTs G Z H ts vs g → RTs G Z H us ws g' → RTs G Z H (ts ++ us) (vs ++ ws) (g ++ g')
  | _, _, _, _, _, _, .nil, s => s
  | _, _, _, _, _, g', .cons h r, s => by
    rw [List.append_assoc]
    exact .cons h (RTs.append r s)
theorem RTs.one {u : T} {v : V} {g : List Addr} (h : RT G Z H u v g) : RTs G Z H [u] [v] g := by
  have := RTs.cons h .nil
  rw [List.append_nil] at this
  exact this
theorem RTs.last : ∀ {ts : List T} {vs : List V} {g : List Addr} {u : T}, RTs G Z H ts vs g → ts[ts.length - 1]? = some u → ∃ v g1 g2, vs[vs.length - 1]? = some v ∧ RTs G Z H ts.dropLast vs.dropLast g1 ∧ RT G Z H u v g2 ∧ g = g1 ++ g2
  | _, _, _, u, .nil, e => by simp at e
  | _, _, _, u, .cons (t := t) (v := v) (g := g) h .nil, e => by
    simp at e
    subst e
    exact ⟨v, [], g, rfl, .nil, h, by simp⟩
  | _, _, _, u, .cons (t := t) (v := v) (g := g) h (.cons (t := t2) (v := v2) (ts := ts) (vs := vs) h2 r), e => by
    have e' : (t2 :: ts)[(t2 :: ts).length - 1]? = some u := by simpa using e
    obtain ⟨v', g1, g2, k1, k2, k3, k4⟩ := RTs.last (.cons h2 r) e'
    refine ⟨v', g ++ g1, g2, by simpa using k1, .cons h k2, k3, by rw [k4, List.append_assoc]⟩
theorem RTs.reverse : ∀ {ts : List T} {vs : List V} {g : List Addr}, RTs G Z H ts vs g → ∃ g', RTs G Z H ts.reverse vs.reverse g' ∧ g'.Perm g
  | _, _, _, .nil => ⟨[], .nil, List.Perm.refl _⟩
  | _, _, _, .cons (g := g) h r => by
    obtain ⟨g', k1, k2⟩ := RTs.reverse r
    rw [List.reverse_cons, List.reverse_cons]
    exact ⟨g' ++ g, k1.append (RTs.one h), List.perm_append_comm.trans (k2.append_left g)⟩
theorem meth_args {m : Str} {k i : Nat} {as : List Expr} {Q : VK} (F : FrOk G Z H σ fr ph) (h : GR (((evVs E sc n as).bind fun ts => methM m k i ts) fr) (XW G W Z H ph σ) (VPost G Z H ph σ Q)) {R : List V → Hp → Prop}
    (q : ∀ ts fr1 vs H1 Z1 ph1 gs t1, FrOk G Z1 H1 σ fr1 ph1 → Held G Z1 H1 ph1 ts vs gs → Stp Z H ph Z1 H1 ph1 gs.flatten → getS fr1 i = some t1 → kindT t1 = k → GR (methA m i t1 ts fr1) (XW G W Z H ph σ) (VPost G Z H ph σ Q) → R vs H1) : tVs G W (evVs E sc n as) σ H R := by
  refine ⟨Z, fr, ph, F, GR.mono h.bind (fun _ _ z => z) fun ts fr1 h1 => fun vs H1 Z1 ph1 gs F1 hh s1 => ?_⟩
  unfold methM at h1
  cases e : getS fr1 i with
  | none => simp only [e] at h1; exact h1.elim
  | some t1 =>
    simp only [e] at h1
    split at h1
    · rename_i hk
      exact q ts fr1 vs H1 Z1 ph1 gs t1 F1 hh s1 e hk h1
    · exact h1.elim
end Bw

set_option maxHeartbeats 4000000
namespace Bw
open PySem PySem.Spec PyProof.Rows L2
variable {G : Gx} {E : Ev} {X : Cx} {sc : Scope} {W : WX} {Z Z' Z0 Z1 Z2 : Addr → Prop} {H H' H0 H1 H2 : Hp} {σ : L2.St} {fr fr' fr1 fr2 : Fr} {ph ph' ph0 ph1 ph2 : Nat → List Addr} {o : Opd} {v : V} {d : D} {g g1 g2 : List Addr} {t : T} {n : Nat}
/-- the reading of a method's call -/
def tMe (G : Gx) (W : WX) (E : Ev) (sc : Scope) (n : Nat) (m : Str) (k i : Nat) (as : List Expr) : TE := fun σ H Q => ∃ Z fr ph t, FrOk G Z H σ fr ph ∧ getS fr i = some t ∧ kindT t = k ∧ GR (((evVs E sc n as).bind fun ts => methM m k i ts) fr) (XW G W Z H ph σ) (VPost G Z H ph σ Q)
theorem kind0 {t : T} (h : kindT t = 0) : (∃ ts, t = .lst ts) ∨ ∃ ds, t = .d (.lst ds) := by
  unfold kindT at h
  split at h <;> first
    | exact .inl ⟨_, rfl⟩
    | exact .inr ⟨_, rfl⟩
    | (cases h; done)
theorem kind1 {t : T} (h : kindT t = 1) : ∃ ds, t = .d (.tup ds) := by
  unfold kindT at h
  split at h <;> first
    | exact ⟨_, rfl⟩
    | (cases h; done)
theorem kind2 {t : T} (h : kindT t = 2) : ∃ ds, t = .dic ds := by
  unfold kindT at h
  split at h <;> first
    | exact ⟨_, rfl⟩
    | (cases h; done)
/-- a list stands at the slot -/
theorem slot_list (F : FrOk G Z H σ fr ph) {i : Nat} (e : getS fr i = some t) (k : kindT t = 0) : ∃ a vs, σ[i]? = some (some (.ref a)) ∧ SqL G.K H a vs := by
  obtain ⟨v, ev, r⟩ := F.at_ i t (getS_at e)
  generalize ph i = gp at r
  rcases kind0 k with ⟨ts, rfl⟩ | ⟨ds, rfl⟩
  · cases r with
    | lst h r => exact ⟨_, _, ev, .inl (.inl h)⟩
  · cases r with
    | d h =>
      cases h with
      | lst h r => exact ⟨_, _, ev, h.sq⟩
theorem mutT_append {us ts : List T} : mutT "append" (.lst us) ts = (match ts with | [u] => if Nat.blt us.length 16777216 then some (.d .non, .lst (us ++ [u])) else none | _ => none) := rfl
theorem mutT_lst {m : Str} {t : T} {as : List T} {r : T × T} (h : mutT m t as = some r) (k : kindT t = 0) : ∃ ts, t = .lst ts := by
  rcases kind0 k with ⟨ts, rfl⟩ | ⟨ds, rfl⟩
  · exact ⟨ts, rfl⟩
  · unfold mutT at h; cases h
theorem m_append (hK : X.K = G.K) (hvs : ∀ es, PA X es (tVs G W (evVs E sc n es))) {x : Str} {p p2 pos : Pos} {i : Nat} {a : Expr} (hx : PE X (.Name x p) (tVar i)) (hs : nostar [a] = true) (hl : (p2.endLine == pos.line) = true) :
    PE X (.Call (.Attribute (.Name x p) "append" p2) [a] [] pos) (tMe G W E sc n "append" 0 i [a]) := by
  have hst := (nostar_cons hs X.env).1
  refine peI (pe_bm PySem.F.plainAttrs_list PySem.F.slot_list_append PySem.F.type_list_append mt_append hx (hvs [a]) rfl (by rw [Bool.and_eq_true, Bool.and_eq_true]; exact ⟨⟨nostar_all hs _ _, rfl⟩, rfl⟩) hl hst rfl) ?_
  intro σ H Q ⟨Z, fr, ph, t, F, et, kt, h⟩
  obtain ⟨b, vs0, eb, hb⟩ := slot_list F et kt
  refine ⟨_, eb, .inl ⟨rfl, vs0, by rw [hK]; exact hb⟩, ?_⟩
  refine meth_args F h fun ts fr1 vs H1 Z1 ph1 gs t1 F1 hh s1 e1 k1 h1 => ?_
  unfold methA at h1
  rw [if_neg (by decide)] at h1
  cases em : mutT "append" t1 ts with
  | none => rw [em] at h1; exact h1.elim
  | some r =>
    obtain ⟨r, t'⟩ := r
    rw [em] at h1
    obtain ⟨us, rfl⟩ := mutT_lst em k1
    rw [mutT_append] at em
    cases hh with
    | nil => cases em
    | cons hu hr ap =>
      cases hr with
      | cons _ _ _ => cases em
      | nil =>
        rename_i u w gu
        simp only at em
        split at em
        · rename_i hz
          cases em
          obtain ⟨v1, ev1, rt⟩ := F1.at_ i _ (getS_at e1)
          rw [eb] at ev1
          cases ev1
          generalize hg : ph1 i = gp at rt
          cases rt with
          | @lst _ _ ws g0 ha hr =>
            have hnd := F1.nd i
            rw [hg] at hnd
            have hnb : b ∉ g0 := (List.nodup_cons.mp hnd).1
            have hdz : ¬ Z1 b := F1.dz i b (by rw [hg]; exact List.mem_cons_self)
            have hbu : b ∉ gu := fun z => hu.dp b z i (by rw [hg]; exact List.mem_cons_self)
            refine ⟨b, ws, w, rfl, rfl, ha, ?_, ?_⟩
            · rw [← hr.length, sizeLine_eq]; exact Nat.le_of_ble_eq_true hz
            · obtain ⟨F2, s2, _⟩ := slot_write (o' := .lst (ws ++ [w])) (t' := .lst (us ++ [u])) (g' := b :: (g0 ++ gu)) (gr := []) (gh := gu) F1 (s1.with_g fun a m => s1.newg a (by simpa using m)) hu.dz hu.dp (getS_lt e1) eb (by rw [hg]; exact List.mem_cons_self)
                (.lst upd_same ((hr.append (RTs.one hu.rt)).mono (sub_upd ha True.intro hdz (by
                  intro m
                  rcases List.mem_append.mp m with m | m
                  · exact hnb m
                  · exact hbu m))))
                (by
                  rw [List.append_nil]
                  refine List.nodup_cons.mpr ⟨fun m => ?_, List.nodup_append.mpr ⟨(List.nodup_cons.mp hnd).2, hu.nd, fun a m c m' e => ?_⟩⟩
                  · rcases List.mem_append.mp m with m | m
                    · exact hnb m
                    · exact hbu m
                  · subst e
                    exact hu.dp a m' i (by rw [hg]; exact List.mem_cons_of_mem _ m))
                (by
                  intro c m
                  rw [List.append_nil] at m
                  rcases List.mem_cons.mp m with m | m
                  · subst m; exact .inl (by rw [hg]; exact List.mem_cons_self)
                  · rcases List.mem_append.mp m with m | m
                    · exact .inl (by rw [hg]; exact List.mem_cons_of_mem _ m)
                    · exact .inr m)
              exact h1 .non _ _ _ [] F2 (Val.of_rd .non) s2
        · cases em
theorem m_pop (hK : X.K = G.K) (hvs : ∀ es, PA X es (tVs G W (evVs E sc n es))) {x : Str} {p p2 pos : Pos} {i : Nat} (hx : PE X (.Name x p) (tVar i)) (hl : (p2.endLine == pos.line) = true) :
    PE X (.Call (.Attribute (.Name x p) "pop" p2) [] [] pos) (tMe G W E sc n "pop" 0 i []) := by
  refine peI (pe_bm0 PySem.F.plainAttrs_list PySem.F.slot_list_pop PySem.F.type_list_pop mt_pop hx rfl hl) ?_
  intro σ H Q ⟨Z, fr, ph, t, F, et, kt, h⟩
  obtain ⟨b, vs0, eb, hb⟩ := slot_list F et kt
  refine ⟨_, eb, .inl ⟨rfl, vs0, by rw [hK]; exact hb⟩, ?_⟩
  rw [evVs] at h
  have h1 : GR (methM "pop" 0 i [] fr) (XW G W Z H ph σ) (VPost G Z H ph σ Q) := h
  unfold methM at h1
  simp only [et] at h1
  rw [if_pos kt] at h1
  unfold methA at h1
  rw [if_neg (by decide)] at h1
  cases em : mutT "pop" t [] with
  | none => rw [em] at h1; exact h1.elim
  | some r =>
    obtain ⟨r, t'⟩ := r
    rw [em] at h1
    obtain ⟨us, rfl⟩ := mutT_lst em kt
    rw [show mutT "pop" (.lst us) [] = (lastT us).map fun u => (u, T.lst us.dropLast) from rfl, Option.map_eq_some_iff] at em
    obtain ⟨u, eu, em⟩ := em
    cases em
    obtain ⟨v1, ev1, rt⟩ := F.at_ i _ (getS_at et)
    rw [eb] at ev1
    cases ev1
    generalize hg : ph i = gp at rt
    cases rt with
    | @lst _ _ ws g0 ha hr =>
      have hnd := F.nd i
      rw [hg] at hnd
      have hnb : b ∉ g0 := (List.nodup_cons.mp hnd).1
      have hdz : ¬ Z b := F.dz i b (by rw [hg]; exact List.mem_cons_self)
      obtain ⟨w, g1, g2, k1, k2, k3, k4⟩ := hr.last eu
      subst k4
      refine ⟨b, ws, w, rfl, rfl, ha, k1, ?_⟩
      have hb1 : b ∉ g1 := fun m => hnb (List.mem_append_left _ m)
      have hb2 : b ∉ g2 := fun m => hnb (List.mem_append_right _ m)
      obtain ⟨F2, s2, hr2⟩ := slot_write (o' := .lst ws.dropLast) (t' := .lst us.dropLast) (g' := b :: g1) (gr := g2) (gh := []) F Stp.refl (fun _ m => nomatch m) (fun _ m => nomatch m) (getS_lt et) eb (by rw [hg]; exact List.mem_cons_self)
        (.lst upd_same (k2.mono (sub_upd ha True.intro hdz hb1))) hnd (by
          intro c m
          exact .inl (by rw [hg]; exact m))
      exact h1 w _ _ _ g2 F2 ⟨k3.mono (sub_upd ha True.intro hdz hb2), (List.nodup_append.mp (List.nodup_cons.mp hnd).2).2.1, fun a m => (hr2 a m).1, fun a m => (hr2 a m).2⟩ s2
theorem m_reverse (hK : X.K = G.K) (hvs : ∀ es, PA X es (tVs G W (evVs E sc n es))) {x : Str} {p p2 pos : Pos} {i : Nat} (hx : PE X (.Name x p) (tVar i)) (hl : (p2.endLine == pos.line) = true) :
    PE X (.Call (.Attribute (.Name x p) "reverse" p2) [] [] pos) (tMe G W E sc n "reverse" 0 i []) := by
  refine peI (pe_bm0 PySem.F.plainAttrs_list PySem.F.slot_list_reverse PySem.F.type_list_reverse mt_reverse hx rfl hl) ?_
  intro σ H Q ⟨Z, fr, ph, t, F, et, kt, h⟩
  obtain ⟨b, vs0, eb, hb⟩ := slot_list F et kt
  refine ⟨_, eb, .inl ⟨rfl, vs0, by rw [hK]; exact hb⟩, ?_⟩
  rw [evVs] at h
  have h1 : GR (methM "reverse" 0 i [] fr) (XW G W Z H ph σ) (VPost G Z H ph σ Q) := h
  unfold methM at h1
  simp only [et] at h1
  rw [if_pos kt] at h1
  unfold methA at h1
  rw [if_neg (by decide)] at h1
  cases em : mutT "reverse" t [] with
  | none => rw [em] at h1; exact h1.elim
  | some r =>
    obtain ⟨r, t'⟩ := r
    rw [em] at h1
    obtain ⟨us, rfl⟩ := mutT_lst em kt
    rw [show mutT "reverse" (.lst us) [] = some (.d .non, T.lst us.reverse) from rfl] at em
    cases em
    obtain ⟨v1, ev1, rt⟩ := F.at_ i _ (getS_at et)
    rw [eb] at ev1
    cases ev1
    generalize hg : ph i = gp at rt
    cases rt with
    | @lst _ _ ws g0 ha hr =>
      have hnd := F.nd i
      rw [hg] at hnd
      have hnb : b ∉ g0 := (List.nodup_cons.mp hnd).1
      have hdz : ¬ Z b := F.dz i b (by rw [hg]; exact List.mem_cons_self)
      obtain ⟨g1, k1, k2⟩ := hr.reverse
      refine ⟨b, ws, rfl, rfl, ha, ?_⟩
      have hb1 : b ∉ g1 := fun m => hnb (k2.mem_iff.mp m)
      obtain ⟨F2, s2, hr2⟩ := slot_write (o' := .lst ws.reverse) (t' := .lst us.reverse) (g' := b :: g1) (gr := []) (gh := []) F Stp.refl (fun _ m => nomatch m) (fun _ m => nomatch m) (getS_lt et) eb (by rw [hg]; exact List.mem_cons_self)
        (.lst upd_same (k1.mono (sub_upd ha True.intro hdz hb1))) (by
          rw [List.append_nil]
          exact List.nodup_cons.mpr ⟨hb1, k2.nodup_iff.mpr (List.nodup_cons.mp hnd).2⟩) (by
          intro c m
          rw [List.append_nil] at m
          refine .inl ?_
          rw [hg]
          rcases List.mem_cons.mp m with m | m
          · exact m ▸ List.mem_cons_self
          · exact List.mem_cons_of_mem _ (k2.mem_iff.mp m))
      exact h1 .non _ _ _ [] F2 (Val.of_rd .non) s2
end Bw

set_option maxHeartbeats 4000000
namespace Bw
open PySem PySem.Spec PyProof.Rows L2
variable {G : Gx} {E : Ev} {X : Cx} {sc : Scope} {W : WX} {Z Z' Z0 Z1 Z2 : Addr → Prop} {H H' H0 H1 H2 : Hp} {σ : L2.St} {fr fr' fr1 fr2 : Fr} {ph ph' ph0 ph1 ph2 : Nat → List Addr} {o : Opd} {v : V} {d : D} {g g1 g2 : List Addr} {t : T} {n : Nat}
theorem meth_count {t1 : T} {ts : List T} {i : Nat} {k : Int} {P : T → Fr → Prop} {Xn : Exn → Fr → Prop} (h : GR (methA "count" i t1 ts fr1) Xn P) : ∃ d, methD "count" (fz t1) (fzs ts) = some d ∧ P (.d d) fr1 := by
  unfold methA at h
  rw [if_pos rfl] at h
  cases e : methD "count" (fz t1) (fzs ts) with
  | none => rw [e] at h; exact h.elim
  | some d => rw [e] at h; exact ⟨d, rfl, h⟩
theorem methD_count {x : D} {as : List D} : methD "count" x as = (match x, as with
    | .tup ds, [.int k] => (intsD ds).map fun ns => .int (ns.count k)
    | .lst ds, [.int k] => (intsD ds).map fun ns => .int (ns.count k)
    | _, _ => none) := rfl
theorem held_int {ts : List T} {vs : List V} {gs : List (List Addr)} {k : Int} (h : Held G Z H ph ts vs gs) (e : fzs ts = [.int k]) : vs = [.int k] := by
  cases h with
  | nil => cases e
  | cons hu hr ap =>
    cases hr with
    | cons _ _ _ => rw [fzs, fzs] at e; simp at e
    | nil =>
      rw [fzs, fzs] at e
      have e2 : fz _ = D.int k := (List.cons.inj e).1
      have r := hu.rt.fz
      rw [e2] at r
      cases r
      rfl
def rCntT (K : PySem.W.Frag) : V → List V → Hp → VK → Prop := fun x xs H Q => ∃ (p : Addr) (ns : List Int) (k : Int), x = .ref p ∧ xs = [.int k] ∧ SqT K H p (ns.map V.int) ∧ Q (.int (ns.count k : Nat)) H
theorem mt_tcount : MtR X "tuple.count" (rCntT X.K) := by
  intro pins s σ H x xs v us Q I rx rxs h
  obtain ⟨p, ns, k, rfl, rfl, hs, q⟩ := h
  cases rx
  obtain ⟨u, rfl, ru⟩ := rxs.one
  obtain ⟨t, rfl⟩ := ru
  obtain ⟨its, rv, ⟨⟨cls, dd, data, sl⟩, ho, hc, n, hd⟩, hlen⟩ := I.tuple hs
  simp only at hc hd
  subst hc hd
  have hi := ints_of_vals rv
  refine call_meets PySem.F.slot_tuple_count ⟨_, ho, rfl⟩ PySem.F.entry_tuple_count (PySem.F.args_tuple_count_2 _ _)
    (SeqAt.tuple_countAt p its.toArray n dd sl (.int k t) (eqk k)) ⟨ho, fun y hy => (eqk_gives hi y (by simpa using hy)).at _ _, ?_⟩
  have ec : its.toArray.toList.countP (eqk k) = ns.count k := eqk_count hi
  refine ⟨.int (ns.count k : Nat), H, I.tok _, ⟨s.toks, ?_⟩, q⟩
  show Value.int ((its.toArray.toList.countP (eqk k) : Nat) : Int) s.toks = Value.int ((ns.count k : Nat) : Int) s.toks
  rw [ec]
/-- a method of a plain tuple -/
def tBMZ (K : PySem.W.Frag) (r : V → List V → Hp → VK → Prop) (to : TE) (t : TA) : TE := fun σ H Q => to σ H fun x H1 => (∃ a xs, x = .ref a ∧ TpAt K H1 a xs) ∧ t σ H1 fun xs H2 => r x xs H2 Q
theorem pe_bmZ {o e : Expr} {es : List Expr} {to : TE} {t : TA} {name : Str} {apos cpos : Pos} {id : String} {r : V → List V → Hp → VK → Prop} (pa : PlainAttrs "tuple") (slot : Slot "tuple" name id) (hty : typeOf (.builtin id) = pure (.type "method_descriptor")) (hm : MtR X id r) (ho : PE X o to) (ha : PA X (e :: es) t)
    (hbase : attributeBase o name X.env (eval o X.env) = eval o X.env)
    (hfew : ((backTo cpos (starEach (e :: es) X.env)).all (fun x => !x.1) && (backToKw cpos (keywordEach [] X.env)).all (fun x => x.1.isSome)
      && decide ((e :: es).length + ([] : List Keyword).length + (if ([] : List Keyword).isEmpty then 0 else 1) < 30)) = true)
    (hline : (apos.endLine == cpos.line) = true) (hs : starEach (e :: es) X.env = (false, eval e X.env) :: starEach es X.env) (hplain : (backTo cpos (starEach es X.env)).any (·.1) = false) :
    PE X (.Call (.Attribute o name apos) (e :: es) [] cpos) (tBMZ X.K r to t) := by
  refine ⟨fun pins s σ H Q I h => ?_⟩
  refine wpAny_Call_method_late hbase hfew hline rfl (thn (ho.run pins s σ H _ I h) fun v s1 ⟨x, H1, I1, r1, ty, q1⟩ => ?_)
  obtain ⟨a, xs, rfl, hT⟩ := ty
  have hh : s1.TypeIs v "tuple" ∧ ∀ a, v = .ref a → ∃ ob, s1.heap.get? a = some ob ∧ ob.dict = none := by
    cases r1
    rcases hT with ⟨ob, hd, hT⟩ | ⟨hT, ob, hk, hd⟩
    · obtain ⟨e1, _, its, _, o2, e2, hc, _⟩ := I1.hok a _ hT
      rw [e1] at e2
      cases e2
      exact ⟨⟨ob, e1, hc⟩, fun b z => by cases z; exact ⟨ob, e1, hd⟩⟩
    · rcases hT with (hT | ⟨_, hT⟩) | ⟨o2, _, _, hk2, hc, _⟩
      · cases hT
      · cases hT
      · rw [hk] at hk2
        cases hk2
        exact ⟨⟨ob, I1.kIn a ob hk, hc⟩, fun b z => by cases z; exact ⟨ob, I1.kIn _ ob hk, hd⟩⟩
  refine ⟨"tuple", id, pa, slot, hty, hh.1, hh.2, ?_⟩
  have hA := ha.run cpos pins s1 σ H1 _ I1 q1
  rw [hs] at hA ⊢
  refine Calls.callWith_builtin (by show (false || (backTo cpos (starEach es X.env)).any (·.1)) = false; rw [hplain] <;> rfl) (Calls.evalArgs_plain ?_)
  exact thn hA fun us s2 ⟨vs, H2, I2, r2, q2⟩ => hm pins s2 σ H2 _ vs v us Q I2 r1 r2 q2
theorem m_tcount (hK : X.K = G.K) (hvs : ∀ es, PA X es (tVs G W (evVs E sc n es))) {x : Str} {p p2 pos : Pos} {i : Nat} {a : Expr} (hx : PE X (.Name x p) (tVar i)) (hs : nostar [a] = true) (hl : (p2.endLine == pos.line) = true) :
    PE X (.Call (.Attribute (.Name x p) "count" p2) [a] [] pos) (tMe G W E sc n "count" 1 i [a]) := by
  have hst := (nostar_cons hs X.env).1
  refine peI (pe_bmZ PySem.F.plainAttrs_tuple PySem.F.slot_tuple_count PySem.F.type_tuple_count mt_tcount hx (hvs [a]) rfl (by rw [Bool.and_eq_true, Bool.and_eq_true]; exact ⟨⟨nostar_all hs _ _, rfl⟩, rfl⟩) hl hst rfl) ?_
  intro σ H Q ⟨Z, fr, ph, t, F, et, kt, h⟩
  obtain ⟨v0, eb, r0⟩ := F.at_ i t (getS_at et)
  obtain ⟨ds, rfl⟩ := kind1 kt
  have r0 := r0.fz
  rw [fz] at r0
  cases r0 with
    | @tup b _ ws h0 rs =>
      refine ⟨_, eb, ⟨_, _, rfl, by rw [hK]; exact h0⟩, ?_⟩
      refine meth_args F h fun ts fr1 vs H1 Z1 ph1 gs t1 F1 hh s1 e1 k1 h1 => ?_
      obtain ⟨d, em, hp⟩ := meth_count (k := 0) h1
      obtain ⟨ds1, rfl⟩ := kind1 k1
      obtain ⟨v1, ev1, rt⟩ := F1.at_ i _ (getS_at e1)
      rw [eb] at ev1
      cases ev1
      have rt := rt.fz
      rw [fz] at rt
      cases rt with
        | @tup _ _ ws1 h3 rs1 =>
          rw [methD_count, fz] at em
          split at em
          · rename_i ds2 k ea eb2
            cases ea
            rw [Option.map_eq_some_iff] at em
            obtain ⟨ns, en, em⟩ := em
            subst em
            have evs := held_int hh eb2
            subst evs
            have ew := ints_rd rs1 en
            subst ew
            exact ⟨b, ns, k, rfl, rfl, by rw [hK]; exact h3.sq, hp _ _ _ _ [] F1 (Val.of_rd (.int _)) s1.drop⟩
          · rename_i ea _; cases ea
          · cases em
theorem m_lcount (hK : X.K = G.K) (hvs : ∀ es, PA X es (tVs G W (evVs E sc n es))) {x : Str} {p p2 pos : Pos} {i : Nat} {a : Expr} (hx : PE X (.Name x p) (tVar i)) (hs : nostar [a] = true) (hl : (p2.endLine == pos.line) = true) :
    PE X (.Call (.Attribute (.Name x p) "count" p2) [a] [] pos) (tMe G W E sc n "count" 0 i [a]) := by
  have hst := (nostar_cons hs X.env).1
  refine peI (pe_bm PySem.F.plainAttrs_list PySem.F.slot_list_count PySem.F.type_list_count mt_lcount hx (hvs [a]) rfl (by rw [Bool.and_eq_true, Bool.and_eq_true]; exact ⟨⟨nostar_all hs _ _, rfl⟩, rfl⟩) hl hst rfl) ?_
  intro σ H Q ⟨Z, fr, ph, t, F, et, kt, h⟩
  obtain ⟨b, vs0, eb, hb⟩ := slot_list F et kt
  refine ⟨_, eb, .inl ⟨rfl, vs0, by rw [hK]; exact hb⟩, ?_⟩
  refine meth_args F h fun ts fr1 vs H1 Z1 ph1 gs t1 F1 hh s1 e1 k1 h1 => ?_
  obtain ⟨d, em, hp⟩ := meth_count (k := 0) h1
  obtain ⟨v1, ev1, rt⟩ := F1.at_ i _ (getS_at e1)
  rw [eb] at ev1
  cases ev1
  have rd := rt.fz
  rcases kind0 k1 with ⟨us, rfl⟩ | ⟨ds1, rfl⟩
  · rw [methD_count, fz] at em
    rw [fz] at rd
    cases rd with
    | lst h3 rs1 =>
      split at em
      · rename_i ea _; cases ea
      · rename_i ds2 k ea eb2
        cases ea
        rw [Option.map_eq_some_iff] at em
        obtain ⟨ns, en, em⟩ := em
        subst em
        have evs := held_int hh eb2
        subst evs
        have ew := ints_rd rs1 en
        subst ew
        exact ⟨b, ns, k, rfl, rfl, by rw [hK]; exact h3.sq, hp _ _ _ _ [] F1 (Val.of_rd (.int _)) s1.drop⟩
      · cases em
  · rw [methD_count, fz] at em
    rw [fz] at rd
    cases rd with
    | lst h3 rs1 =>
      split at em
      · rename_i ea _; cases ea
      · rename_i ds2 k ea eb2
        cases ea
        rw [Option.map_eq_some_iff] at em
        obtain ⟨ns, en, em⟩ := em
        subst em
        have evs := held_int hh eb2
        subst evs
        have ew := ints_rd rs1 en
        subst ew
        exact ⟨b, ns, k, rfl, rfl, by rw [hK]; exact h3.sq, hp _ _ _ _ [] F1 (Val.of_rd (.int _)) s1.drop⟩
      · cases em
/-! ### setdefault -/
def rSetd : V → List V → Hp → VK → Prop := fun x xs H Q => ∃ (a : Addr) (kvs : List (Key × V)) (k : Key) (z : V), x = .ref a ∧ xs = [kV k, z] ∧ H a = some (.dK kvs) ∧ kvs.length < sizeLine ∧
  (∀ v, valV kvs k = some v → Q v H) ∧ (valV kvs k = none → Q z (upd H a (.dK (putK kvs k z))))
theorem mt_setd : MtR X "dict.setdefault" rSetd := by
  intro pins s σ H x xs v us Q I rx rxs h
  obtain ⟨a, kvs, k, z, rfl, rfl, ea, hl, q1, q2⟩ := h
  cases rx
  obtain ⟨u1, u2, rfl, ru1, ru2⟩ := vals2 rxs
  exact d_setd I ea ru1 ru2 hl (fun v hv w' s4 I4 rw' => ⟨v, _, I4, rw', q1 v hv⟩) fun hn w' s4 I4 rw' => ⟨z, _, I4, rw', q2 hn⟩
theorem find_put {kvs : List (Key × V)} {k : Key} {z : V} (h : valV kvs k = none) : putK kvs k z = kvs ++ [(k, z)] := by
  unfold putK
  rw [if_neg]
  intro h2
  rw [List.any_eq_true] at h2
  obtain ⟨p, hp, e⟩ := h2
  unfold valV at h
  rw [Option.map_eq_none_iff, List.find?_eq_none] at h
  exact h p hp e
theorem mutT_setd {kvs : List (Key × D)} {as : List T} : mutT "setdefault" (.dic kvs) as = (match as with
      | [.d k, .d v] => (keyD k).bind fun k => if Nat.blt kvs.length 16777216 then (match findK k kvs with
        | some w => some (.d w, .dic kvs)
        | none => some (.d v, .dic (kvs ++ [(k, v)]))) else none
      | _ => none) := rfl
theorem m_setd (hK : X.K = G.K) (hvs : ∀ es, PA X es (tVs G W (evVs E sc n es))) {x : Str} {p p2 pos : Pos} {i : Nat} {a b : Expr} (hx : PE X (.Name x p) (tVar i)) (hs : nostar [a, b] = true) (hl : (p2.endLine == pos.line) = true) :
    PE X (.Call (.Attribute (.Name x p) "setdefault" p2) [a, b] [] pos) (tMe G W E sc n "setdefault" 2 i [a, b]) := by
  obtain ⟨hst, hs2⟩ := nostar_cons hs X.env
  refine peI (pe_bm PySem.F.plainAttrs_dict PySem.F.slot_dict_setdefault PySem.F.type_dict_setdefault mt_setd hx (hvs [a, b]) rfl (by rw [Bool.and_eq_true, Bool.and_eq_true]; exact ⟨⟨nostar_all hs _ _, rfl⟩, rfl⟩) hl hst (nostar_plain hs2 _ _)) ?_
  intro σ H Q ⟨Z, fr, ph, t, F, et, kt, h⟩
  obtain ⟨v0, eb, r0⟩ := F.at_ i t (getS_at et)
  obtain ⟨ds, rfl⟩ := kind2 kt
  generalize ph i = gp at r0
  cases r0 with
  | @dic b2 _ ws0 h0 e0 r0 =>
    refine ⟨_, eb, .inr (.inr (.inl ⟨rfl, .inl ⟨ws0, h0⟩⟩)), ?_⟩
    refine meth_args F h fun ts fr1 vs H1 Z1 ph1 gs t1 F1 hh s1 e1 k1 h1 => ?_
    unfold methA at h1
    rw [if_neg (by decide)] at h1
    cases em : mutT "setdefault" t1 ts with
    | none => rw [em] at h1; exact h1.elim
    | some r =>
      obtain ⟨r, t'⟩ := r
      rw [em] at h1
      obtain ⟨kvs, rfl⟩ := kind2 k1
      rw [mutT_setd] at em
      split at em
      · rename_i dk dv
        obtain ⟨v1, ev1, rt⟩ := F1.at_ i _ (getS_at e1)
        rw [eb] at ev1
        cases ev1
        generalize hg : ph1 i = gp1 at rt
        rw [Option.bind_eq_some_iff] at em
        obtain ⟨k, ek, em⟩ := em
        cases hh with
        | @cons _ vk gk _ vs1 gs1 hu hr ap =>
        cases hr with
        | @cons _ vv gv _ vs2 gs2 hu2 hr2 ap2 =>
        cases hr2 with
        | nil =>
        split at em
        rotate_left
        · cases em
        rename_i hz
        have ru1 := hu.rt
        have ru2 := hu2.rt
        generalize gk = gk' at ru1
        generalize gv = gv' at ru2
        cases ru1 with
        | d ru1 =>
        cases ru2 with
        | d ru2 =>
        have evk := key_rd ru1 ek
        subst evk
        cases rt with
        | @dic _ _ ws ha hkey hrs =>
          have hll : kvs.length = ws.length := by
            have := congrArg List.length hkey
            simpa using this
          rcases find_kv k hkey hrs with ⟨f1, f2⟩ | ⟨d', v', f1, f2, rd'⟩
          · rw [f1] at em
            simp only at em
            · cases em
              have hz' : ws.length < sizeLine := by rw [← hll, sizeLine_eq]; exact Nat.le_of_ble_eq_true hz
              refine ⟨b2, ws, k, vv, rfl, rfl, ha, hz', fun v hv => (by rw [f2] at hv; cases hv), fun _ => ?_⟩
              rw [find_put f2]
              have hdz : ¬ Z1 b2 := F1.dz i b2 (by rw [hg]; exact List.mem_cons_self)
              have hsub : Sub Z1 H1 Z1 (upd H1 b2 (.dK (ws ++ [(k, vv)]))) := (sub_upd (g := []) ha True.intro hdz (fun m => nomatch m)).s
              obtain ⟨F2, s2, _⟩ := slot_write (o' := .dK (ws ++ [(k, vv)])) (t' := .dic (kvs ++ [(k, dv)])) (g' := [b2]) (gr := []) (gh := []) F1 s1.drop (fun _ m => nomatch m) (fun _ m => nomatch m) (getS_lt e1) eb (by rw [hg]; exact List.mem_cons_self)
                (.dic upd_same (by rw [List.map_append, List.map_append, hkey]; rfl) (by rw [List.map_append, List.map_append]; exact (hrs.mono hsub).append (.cons (ru2.mono hsub) .nil)))
                (by simp) (by
                  intro c m
                  exact .inl (by rw [hg]; simpa using m))
              exact h1 _ _ _ _ [] F2 (Val.of_rd (ru2.mono hsub)) s2
          · rw [f1] at em
            simp only at em
            · cases em
              refine ⟨b2, ws, k, vv, rfl, rfl, ha, ?_, fun v hv => ?_, fun hn => (by rw [f2] at hn; cases hn)⟩
              · rw [← hll, sizeLine_eq]; exact Nat.le_of_ble_eq_true hz
              · rw [f2] at hv
                cases hv
                exact h1 _ _ _ _ [] (by
                  have : fr1.set i (some (.dic kvs)) = fr1 := by
                    apply List.ext_getElem?
                    intro j
                    by_cases q : j = i
                    · subst q
                      rw [List.getElem?_set_self (getS_lt e1), getS_at e1]
                    · rw [List.getElem?_set_ne (Ne.symm q)]
                  rw [this]
                  exact F1) (Val.of_rd rd') s1.drop
      · cases em
end Bw

set_option maxHeartbeats 4000000
namespace Bw
open PySem PySem.Spec PyProof.Rows L2
variable {G : Gx} {E : Ev} {X : Cx} {sc : Scope} {W : WX} {Z Z' Z0 Z1 Z2 : Addr → Prop} {H H' H0 H1 H2 : Hp} {σ : L2.St} {fr fr' fr1 fr2 : Fr} {ph ph' ph0 ph1 ph2 : Nat → List Addr} {o : Opd} {v : V} {d : D} {g g1 g2 : List Addr} {t : T} {n : Nat}
/-- methods, all -/
theorem c_meth (L : Lk G E X sc) (hvs : ∀ es, PA X es (tVs G W (evVs E sc n es))) {x m : Str} {p p2 pos : Pos} {as : List Expr} :
    PE X (.Call (.Attribute (.Name x p) m p2) as [] pos) (tV G W (evC E sc (n + 1) (.Call (.Attribute (.Name x p) m p2) as [] pos))) := by
  refine ⟨fun pins s σ H Q I ⟨Z, fr, ph, F, h⟩ => ?_⟩
  rw [evC] at h
  split at h
  · rename_i hc
    rw [Bool.and_eq_true, Bool.and_eq_true, Bool.and_eq_true, Bool.and_eq_true] at hc
    obtain ⟨⟨⟨⟨hs, ho⟩, hst⟩, hl⟩, _⟩ := hc
    cases hi : slotOf E.N x with
    | none => rw [hi] at h; exact h.elim
    | some i =>
      rw [hi] at h
      simp only at h
      cases hg : getS fr i with
      | none => rw [hg] at h; exact h.elim
      | some t =>
        rw [hg] at h
        simp only at h
        split at h
        · rename_i hm
          have hx : PE X (.Name x p) (tVar i) := name_slot L hs ho hi
          have hr : tMe G W E sc n m (kindT t) i as σ H Q := ⟨Z, fr, ph, t, F, hg, rfl, h⟩
          generalize hk : kindT t = k at hm hr
          match k, hm with
          | 0, hm =>
            simp only [okMeth, Bool.or_eq_true, Bool.and_eq_true, decide_eq_true_eq, beq_iff_eq] at hm
            rcases hm with ((⟨rfl, e⟩ | ⟨rfl, e⟩) | ⟨rfl, e⟩) | ⟨rfl, e⟩
            · match as, e with
              | [a], _ => exact (m_append L.K hvs hx hst hl).run pins s σ H Q I hr
            · match as, e with
              | [], _ => exact (m_pop L.K hvs hx hl).run pins s σ H Q I hr
            · match as, e with
              | [], _ => exact (m_reverse L.K hvs hx hl).run pins s σ H Q I hr
            · match as, e with
              | [a], _ => exact (m_lcount L.K hvs hx hst hl).run pins s σ H Q I hr
          | 1, hm =>
            simp only [okMeth, Bool.and_eq_true, decide_eq_true_eq, beq_iff_eq] at hm
            obtain ⟨rfl, e⟩ := hm
            match as, e with
            | [a], _ => exact (m_tcount L.K hvs hx hst hl).run pins s σ H Q I hr
          | 2, hm =>
            simp only [okMeth, Bool.and_eq_true, decide_eq_true_eq, beq_iff_eq] at hm
            obtain ⟨rfl, e⟩ := hm
            match as, e with
            | [a, b], _ => exact (m_setd L.K hvs hx hst hl).run pins s σ H Q I hr
          | k + 3, hm => cases hm
        · exact h.elim
  · exact h.elim

/-! ### arguments -/
def ArgOk (G : Gx) (Z : Addr → Prop) (H : Hp) (ph : Nat → List Addr) (σ : L2.St) : ArgT → V → List Addr → Prop
  | .ref i, v, g => σ[i]? = some (some v) ∧ g = []
  | .val t, v, g => Val G Z H ph t v g
inductive HeldA (G : Gx) (Z : Addr → Prop) (H : Hp) (ph : Nat → List Addr) (σ : L2.St) : List ArgT → List V → List (List Addr) → Prop
  | nil : HeldA G Z H ph σ [] [] []
  | cons {a v g as vs gs} (h : ArgOk G Z H ph σ a v g) (r : HeldA G Z H ph σ as vs gs) (ap : ∀ g', g' ∈ gs → ∀ a, a ∈ g → a ∉ g') : HeldA G Z H ph σ (a :: as) (v :: vs) (g :: gs)
theorem ArgOk.step {a : ArgT} (h : ArgOk G Z H ph σ a v g) (F : FrOk G Z H σ fr ph) (s : Stp Z H ph Z1 H1 ph1 g1) : ArgOk G Z1 H1 ph1 σ a v g := by
  cases a with
  | ref i => exact h
  | val t => exact Val.step h F s
theorem ArgOk.apart {a : ArgT} (h : ArgOk G Z H ph σ a v g) (s : Stp Z H ph Z1 H1 ph1 g1) : ∀ a, a ∈ g → a ∉ g1 := by
  cases a with
  | ref i => obtain ⟨_, rfl⟩ := h; exact fun _ m => nomatch m
  | val t => exact Val.apart h s
theorem HeldA.step {as : List ArgT} {vs : List V} {gs : List (List Addr)} (h : HeldA G Z H ph σ as vs gs) (F : FrOk G Z H σ fr ph) (s : Stp Z H ph Z1 H1 ph1 g1) : HeldA G Z1 H1 ph1 σ as vs gs := by
  induction h with
  | nil => exact .nil
  | cons h r ap ih => exact .cons (h.step F s) ih ap
theorem HeldA.apart {as : List ArgT} {vs : List V} {gs : List (List Addr)} (h : HeldA G Z H ph σ as vs gs) (s : Stp Z H ph Z1 H1 ph1 g1) : ∀ g, g ∈ gs → ∀ a, a ∈ g → a ∉ g1 := by
  induction h with
  | nil => exact fun _ m => nomatch m
  | cons h r ap ih =>
    intro g' mg
    rcases List.mem_cons.mp mg with e | mg
    · subst e; exact h.apart s
    · exact ih g' mg
theorem HeldA.append {as : List ArgT} {vs : List V} {gs : List (List Addr)} {ts : List T} {ws : List V} {gs2 : List (List Addr)} (h : HeldA G Z H ph σ as vs gs) (k : Held G Z H ph ts ws gs2) (ap : ∀ g, g ∈ gs → ∀ a, a ∈ g → a ∉ gs2.flatten) : HeldA G Z H ph σ (as ++ ts.map .val) (vs ++ ws) (gs ++ gs2) := by
  induction h with
  | nil =>
    clear ap
    induction k with
    | nil => exact .nil
    | cons h r ap ih => exact .cons h ih ap
  | cons h r ap0 ih =>
    refine .cons h (ih fun g mg => ap g (List.mem_cons_of_mem _ mg)) fun g' mg a m q => ?_
    rcases List.mem_append.mp mg with mg | mg
    · exact ap0 g' mg a m q
    · exact ap _ List.mem_cons_self a m (List.mem_flatten.mpr ⟨g', mg, q⟩)
/-- pointwise -/
structure HeldP (G : Gx) (Z : Addr → Prop) (H : Hp) (ph : Nat → List Addr) (σ : L2.St) (as : List ArgT) (vs : List V) (gs : List (List Addr)) : Prop where
  l1 : as.length = vs.length
  l2 : as.length = gs.length
  at_ : ∀ (k : Nat) a, as[k]? = some a → ∃ v g, vs[k]? = some v ∧ gs[k]? = some g ∧ ArgOk G Z H ph σ a v g
  dj : ∀ (k l : Nat) g g', gs[k]? = some g → gs[l]? = some g' → k ≠ l → ∀ x, x ∈ g → x ∉ g'
theorem HeldA.p {as : List ArgT} {vs : List V} {gs : List (List Addr)} (h : HeldA G Z H ph σ as vs gs) : HeldP G Z H ph σ as vs gs := by
  induction h with
  | nil => exact ⟨rfl, rfl, fun k a e => (by simp at e), fun k l g g' e => (by simp at e)⟩
  | cons h r ap ih =>
    refine ⟨by rw [List.length_cons, List.length_cons, ih.l1], by rw [List.length_cons, List.length_cons, ih.l2], fun k a e => ?_, fun k l g g' e1 e2 ne x m q => ?_⟩
    · cases k with
      | zero => simp at e; subst e; exact ⟨_, _, rfl, rfl, h⟩
      | succ k => exact ih.at_ k a (by simpa using e)
    · cases k with
      | zero =>
        cases l with
        | zero => exact ne rfl
        | succ l =>
          simp at e1 e2
          subst e1
          exact ap g' (List.mem_of_getElem? e2) x m q
      | succ k =>
        cases l with
        | zero =>
          simp at e1 e2
          subst e2
          exact ap g (List.mem_of_getElem? e1) x q m
        | succ l => exact ih.dj k l g g' (by simpa using e1) (by simpa using e2) (fun z => ne (by rw [z])) x m q
/-- what the parameters get -/
inductive ShV (G : Gx) (ws : List V) : Shape → List V → Prop
  | nil : ShV G ws [] []
  | arg {k v sh out} (h : ws[k]? = some v) (r : ShV G ws sh out) : ShV G ws (.inl k :: sh) (v :: out)
  | dfl {d v sh out} (h : ∀ H, RD G (fun _ => False) H d v) (r : ShV G ws sh out) : ShV G ws (.inr d :: sh) (v :: out)
theorem nodupN_iff : ∀ {l : List Nat}, nodupN l = true → l.Nodup
  | [], _ => List.nodup_nil
  | a :: r, h => by
    rw [nodupN, Bool.and_eq_true] at h
    refine List.nodup_cons.mpr ⟨fun m => ?_, nodupN_iff h.2⟩
    have := h.1
    rw [List.contains_iff_mem.mpr m] at this
    cases this
theorem params_held {as : List ArgT} {vs : List V} {gs : List (List Addr)} (P : HeldP G Z H ph σ as vs gs) : ∀ {sh : Shape} {ps : List ArgT} {out : List V}, params as sh = some ps → ShV G vs sh out → (inls sh).Nodup →
    ∃ gs', HeldA G Z H ph σ ps out gs' ∧ ∀ g, g ∈ gs' → g = [] ∨ ∃ k, k ∈ inls sh ∧ gs[k]? = some g
  | [], ps, out, e, s, _ => by
    cases e
    cases s
    exact ⟨[], .nil, fun _ m => nomatch m⟩
  | .inl k :: sh, ps, out, e, s, nd => by
    cases s with
    | arg hv s =>
    rw [params] at e
    cases e1 : as[k]? with
    | none => simp only [e1] at e; cases e
    | some a =>
      cases e2 : params as sh with
      | none => simp only [e1, e2] at e; cases e
      | some ps' =>
        simp only [e1, e2] at e
        cases e
        rw [inls, List.nodup_cons] at nd
        obtain ⟨gs', h1, h2⟩ := params_held P e2 s nd.2
        obtain ⟨v', g, e3, e4, h3⟩ := P.at_ k a e1
        rw [hv] at e3
        cases e3
        refine ⟨g :: gs', .cons h3 h1 fun g' mg x m q => ?_, fun g' mg => ?_⟩
        · rcases h2 g' mg with z | ⟨k', mk, ek⟩
          · subst z; cases q
          · exact P.dj k k' g g' e4 ek (fun z => nd.1 (z ▸ mk)) x m q
        · rcases List.mem_cons.mp mg with z | mg
          · subst z
            exact .inr ⟨k, by rw [inls]; exact List.mem_cons_self, e4⟩
          · rcases h2 g' mg with z | ⟨k', mk, ek⟩
            · exact .inl z
            · exact .inr ⟨k', by rw [inls]; exact List.mem_cons_of_mem _ mk, ek⟩
  | .inr d :: sh, ps, out, e, s, nd => by
    cases s with
    | dfl hv s =>
    rw [params] at e
    rw [Option.map_eq_some_iff] at e
    obtain ⟨ps', e2, e⟩ := e
    subst e
    rw [inls] at nd
    obtain ⟨gs', h1, h2⟩ := params_held P e2 s nd
    refine ⟨[] :: gs', .cons (show Val G Z H ph (.d d) _ [] from Val.of_rd ((hv H).false)) h1 (fun _ _ _ m => nomatch m), fun g' mg => ?_⟩
    rcases List.mem_cons.mp mg with z | mg
    · exact .inl z
    · rcases h2 g' mg with z | ⟨k', mk, ek⟩
      · exact .inl z
      · exact .inr ⟨k', by rw [inls]; exact mk, ek⟩
end Bw

set_option maxHeartbeats 4000000
namespace Bw
open PySem PySem.Spec PyProof.Rows L2
variable {G : Gx} {E : Ev} {X : Cx} {sc : Scope} {W : WX} {Z Z' Z0 Z1 Z2 : Addr → Prop} {H H' H0 H1 H2 : Hp} {σ : L2.St} {fr fr' fr1 fr2 : Fr} {ph ph' ph0 ph1 ph2 pa' : Nat → List Addr} {o : Opd} {v : V} {d : D} {g g1 g2 gh : List Addr} {t : T} {n : Nat} {ps : List ArgT} {out : List V} {gs : List (List Addr)} {ts : List T} {cs : Fr}
/-- what the callee's parameters own -/
def pcall (ph : Nat → List Addr) (ps : List ArgT) (gs : List (List Addr)) : Nat → List Addr := fun j => match ps[j]? with
  | some (.ref i) => ph i
  | some (.val _) => (gs[j]?).getD []
  | none => []
def refAt : List ArgT → Nat → Option Nat
  | [], _ => none
  | .ref k :: r, i => if k = i then some 0 else (refAt r i).map (· + 1)
  | .val _ :: r, i => (refAt r i).map (· + 1)
theorem refAt_some : ∀ {ps : List ArgT} {i j : Nat}, refAt ps i = some j → ps[j]? = some (.ref i)
  | [], _, _, e => by cases e
  | .ref k :: r, i, j, e => by
    rw [refAt] at e
    split at e
    · rename_i q
      cases e
      subst q
      rfl
    · rw [Option.map_eq_some_iff] at e
      obtain ⟨j', e, rfl⟩ := e
      exact refAt_some (ps := r) e
  | .val _ :: r, i, j, e => by
    rw [refAt, Option.map_eq_some_iff] at e
    obtain ⟨j', e, rfl⟩ := e
    exact refAt_some (ps := r) e
theorem refAt_none : ∀ {ps : List ArgT} {i : Nat}, refAt ps i = none → ∀ j : Nat, ps[j]? ≠ some (.ref i)
  | [], _, _, j, e => by simp at e
  | .ref k :: r, i, h, j, e => by
    rw [refAt] at h
    split at h
    · cases h
    · rename_i q
      rw [Option.map_eq_none_iff] at h
      cases j with
      | zero => simp at e; exact q e
      | succ j => exact refAt_none h j (by simpa using e)
  | .val _ :: r, i, h, j, e => by
    rw [refAt, Option.map_eq_none_iff] at h
    cases j with
    | zero => simp at e
    | succ j => exact refAt_none h j (by simpa using e)
theorem mem_refs : ∀ {ps : List ArgT} {i j : Nat}, ps[j]? = some (.ref i) → i ∈ refsOf ps
  | [], _, _, e => by simp at e
  | .ref k :: r, i, j, e => by
    rw [refsOf]
    cases j with
    | zero => simp at e; subst e; exact List.mem_cons_self
    | succ j => exact List.mem_cons_of_mem _ (mem_refs (by simpa using e))
  | .val _ :: r, i, j, e => by
    rw [refsOf]
    cases j with
    | zero => simp at e
    | succ j => exact mem_refs (by simpa using e)
theorem refs_inj : ∀ {ps : List ArgT} {i j j' : Nat}, (refsOf ps).Nodup → ps[j]? = some (.ref i) → ps[j']? = some (.ref i) → j = j'
  | [], _, _, _, _, e, _ => by simp at e
  | .ref k :: r, i, j, j', nd, e, e' => by
    rw [refsOf, List.nodup_cons] at nd
    cases j with
    | zero =>
      cases j' with
      | zero => rfl
      | succ j' =>
        simp at e
        subst e
        exact absurd (mem_refs (j := j') (by simpa using e')) nd.1
    | succ j =>
      cases j' with
      | zero =>
        simp at e'
        subst e'
        exact absurd (mem_refs (j := j) (by simpa using e)) nd.1
      | succ j' => exact congrArg Nat.succ (refs_inj (ps := r) (i := i) (j := j) (j' := j') nd.2 (by simpa using e) (by simpa using e'))
  | .val _ :: r, i, j, j', nd, e, e' => by
    rw [refsOf] at nd
    cases j with
    | zero => simp at e
    | succ j =>
      cases j' with
      | zero => simp at e'
      | succ j' => exact congrArg Nat.succ (refs_inj (ps := r) (i := i) (j := j) (j' := j') nd (by simpa using e) (by simpa using e'))
theorem mapM_at {α β : Type} {f : α → Option β} : ∀ {l : List α} {r : List β}, l.mapM f = some r → l.length = r.length ∧ ∀ j : Nat, (l[j]?).bind f = r[j]?
  | [], r, e => by
    simp at e
    subst e
    exact ⟨rfl, fun j => by simp⟩
  | a :: l, r, e => by
    rw [List.mapM_cons] at e
    cases e1 : f a with
    | none => rw [e1] at e; cases e
    | some b =>
      rw [e1] at e
      cases e2 : l.mapM f with
      | none => rw [e2] at e; cases e
      | some r' =>
        rw [e2] at e
        cases e
        obtain ⟨h1, h2⟩ := mapM_at e2
        refine ⟨by rw [List.length_cons, List.length_cons, h1], fun j => ?_⟩
        cases j with
        | zero => simpa using e1
        | succ j => simpa using h2 j
/-- where an address of the callee's comes from -/
theorem pcall_mem {j : Nat} {a : Addr} (m : a ∈ pcall ph ps gs j) : (∃ i, ps[j]? = some (.ref i) ∧ a ∈ ph i) ∨ ∃ g, gs[j]? = some g ∧ a ∈ g := by
  unfold pcall at m
  split at m
  · rename_i i e
    exact .inl ⟨i, e, m⟩
  · cases e : gs[j]? with
    | none => rw [e] at m; cases m
    | some g => rw [e] at m; exact .inr ⟨g, rfl, m⟩
  · cases m
theorem callee_frame (P : HeldP G Z H ph σ ps out gs) (F : FrOk G Z H σ fr ph) (nd : (refsOf ps).Nodup) (e : ps.mapM (argT fr) = some ts) : FrOk G Z H (out.map some) (ts.map some) (pcall ph ps gs) := by
  obtain ⟨l, at_⟩ := mapM_at e
  have held : ∀ {j : Nat} {t : T} {g : List Addr}, ps[j]? = some (.val t) → gs[j]? = some g → ∃ v, Val G Z H ph t v g := fun {j t g} e1 e2 => by
    obtain ⟨v, g', _, e3, h⟩ := P.at_ j _ e1
    rw [e2] at e3
    cases e3
    exact ⟨v, h⟩
  have refnil : ∀ {j i : Nat} {g : List Addr}, ps[j]? = some (.ref i) → gs[j]? = some g → g = [] := fun {j i g} e1 e2 => by
    obtain ⟨v, g', _, e3, h⟩ := P.at_ j _ e1
    rw [e2] at e3
    cases e3
    exact h.2
  have gsval : ∀ {j : Nat} {g : List Addr} {a : Addr}, gs[j]? = some g → a ∈ g → ∃ t v, ps[j]? = some (.val t) ∧ Val G Z H ph t v g := fun {j g a} e2 m => by
    have hj : j < ps.length := by rw [P.l2]; exact (List.getElem?_eq_some_iff.mp e2).1
    have e1 := List.getElem?_eq_getElem hj
    cases e3 : ps[j] with
    | ref i =>
      rw [e3] at e1
      rw [refnil e1 e2] at m
      cases m
    | val t =>
      rw [e3] at e1
      obtain ⟨v, h⟩ := held e1 e2
      exact ⟨t, v, e1, h⟩
  refine ⟨by rw [List.length_map, List.length_map, ← l, P.l1], fun j t ej => ?_, fun j ej => ?_, fun j => ?_, fun j k a m1 m2 => ?_, fun j a m => ?_, F.zt⟩
  · rw [List.getElem?_map, Option.map_eq_some_iff] at ej
    obtain ⟨t', ej, e2⟩ := ej
    cases e2
    have hb := at_ j
    rw [ej, Option.bind_eq_some_iff] at hb
    obtain ⟨a, ea, eb⟩ := hb
    obtain ⟨v, g, ev, eg, h⟩ := P.at_ j a ea
    refine ⟨v, by rw [List.getElem?_map, ev]; rfl, ?_⟩
    unfold pcall
    rw [ea]
    cases a with
    | ref i =>
      obtain ⟨v', ev', r⟩ := F.at_ i t (getS_at eb)
      rw [h.1] at ev'
      cases ev'
      exact r
    | val t' =>
      cases eb
      simp only [eg]
      exact h.rt
  · have hj : ps[j]? = none := by
      cases e3 : ps[j]? with
      | none => rfl
      | some a =>
        have hj : j < ts.length := by rw [← l]; exact (List.getElem?_eq_some_iff.mp e3).1
        exact absurd (by rw [List.getElem?_map, List.getElem?_eq_getElem hj]; rfl) (ej ts[j])
    unfold pcall
    rw [hj]
  · unfold pcall
    split
    · exact F.nd _
    · rename_i t e1
      cases e2 : gs[j]? with
      | none => exact List.nodup_nil
      | some g => obtain ⟨v, h⟩ := held e1 e2; exact h.nd
    · exact List.nodup_nil
  · rcases pcall_mem m1 with ⟨i, e1, m1⟩ | ⟨g, e1, m1⟩
    · rcases pcall_mem m2 with ⟨i', e2, m2⟩ | ⟨g', e2, m2⟩
      · have := F.dj i i' a m1 m2
        subst this
        exact refs_inj nd e1 e2
      · obtain ⟨t, v, _, h⟩ := gsval e2 m2
        exact absurd m1 (h.dp a m2 i)
    · rcases pcall_mem m2 with ⟨i', e2, m2⟩ | ⟨g', e2, m2⟩
      · obtain ⟨t, v, _, h⟩ := gsval e1 m1
        exact absurd m2 (h.dp a m1 i')
      · by_cases q : j = k
        · exact q
        · exact absurd m2 (P.dj j k g g' e1 e2 q a m1)
  · rcases pcall_mem m with ⟨i, e1, m1⟩ | ⟨g, e1, m1⟩
    · exact F.dz i a m1
    · obtain ⟨t, v, _, h⟩ := gsval e1 m1
      exact h.dz a m1
theorem wb_len : ∀ (ps : List ArgT) (cs : Fr), (wb fr ps cs).length = fr.length
  | [], cs => by unfold wb; rfl
  | .ref i :: r, c :: cs => by rw [wb, List.length_set, wb_len r cs]
  | .val _ :: r, _ :: cs => by rw [wb, wb_len r cs]
  | .ref _ :: _, [] => by unfold wb; rfl
  | .val _ :: _, [] => by unfold wb; rfl
theorem wb_at : ∀ (ps : List ArgT) (cs : Fr) {i : Nat}, cs.length = ps.length → i < fr.length → (wb fr ps cs)[i]? = (match refAt ps i with | some j => cs[j]? | none => fr[i]?)
  | [], cs, i, _, _ => by unfold wb refAt; rfl
  | .ref k :: r, c :: cs, i, l, hi => by
    rw [wb, refAt]
    by_cases q : k = i
    · subst q
      rw [List.getElem?_set_self (by rw [wb_len]; exact hi), if_pos rfl]
      rfl
    · rw [List.getElem?_set_ne q, wb_at r cs (by simpa using l) hi, if_neg q]
      cases refAt r i with
      | none => rfl
      | some j => rfl
  | .val _ :: r, _ :: cs, i, l, hi => by
    rw [wb, refAt, wb_at r cs (by simpa using l) hi]
    cases refAt r i with
    | none => rfl
    | some j => rfl
  | .ref _ :: _, [], _, l, _ => by cases l
  | .val _ :: _, [], _, l, _ => by cases l
/-- what the caller's slots own afterwards -/
def pback (ph : Nat → List Addr) (ps : List ArgT) (pa' : Nat → List Addr) (len : Nat) : Nat → List Addr := fun i => if i < len then (match refAt ps i with
  | some j => pa' j
  | none => ph i) else []
theorem call_back (P : HeldP G Z H ph σ ps out gs) (F : FrOk G Z H σ fr ph) (s1 : Stp Z0 H0 ph0 Z H ph gh) (hgs : ∀ g, g ∈ gs → ∀ a, a ∈ g → a ∈ gh)
    (l : cs.length = ps.length) (F' : FrOk G Z' H' (out.map some) cs pa') (s2 : Stp Z H (pcall ph ps gs) Z' H' pa' g) (Fc : FrOk G Z H (out.map some) (ts.map some) (pcall ph ps gs)) :
    FrOk G Z' H' σ (wb fr ps cs) (pback ph ps pa' fr.length) ∧ Stp Z0 H0 ph0 Z' H' (pback ph ps pa' fr.length) g ∧ ∀ {t v}, Val G Z' H' pa' t v g → Val G Z' H' (pback ph ps pa' fr.length) t v g := by
  have gsval : ∀ {j : Nat} {g : List Addr} {a : Addr}, gs[j]? = some g → a ∈ g → ∃ t v, ps[j]? = some (.val t) ∧ Val G Z H ph t v g := fun {j g a} e2 m => by
    have hj : j < ps.length := by rw [P.l2]; exact (List.getElem?_eq_some_iff.mp e2).1
    have e1 := List.getElem?_eq_getElem hj
    obtain ⟨v, g', _, e3, h⟩ := P.at_ j _ e1
    rw [e2] at e3
    cases e3
    cases e4 : ps[j] with
    | ref i =>
      rw [e4] at h
      rw [h.2] at m
      cases m
    | val t =>
      rw [e4] at h e1
      exact ⟨t, v, e1, h⟩
  -- an address of a slot that is not handed over is not the callee's
  have apart : ∀ {i : Nat} {a : Addr} {j : Nat}, refAt ps i = none → a ∈ ph i → a ∉ pcall ph ps gs j := fun {i a j} hn m q => by
    rcases pcall_mem q with ⟨i', e1, m1⟩ | ⟨g, e1, m1⟩
    · have := F.dj i i' a m m1
      subst this
      exact refAt_none hn j e1
    · obtain ⟨t, v, _, h⟩ := gsval e1 m1
      exact h.dp a m1 i m
  have from_ : ∀ {a : Addr} {j : Nat}, a ∈ pcall ph ps gs j → (∃ i, a ∈ ph0 i) ∨ H0 a = none := fun {a j} q => by
    rcases pcall_mem q with ⟨i', e1, m1⟩ | ⟨g, e1, m1⟩
    · exact s1.new i' a m1
    · exact s1.newg a (hgs g (List.mem_of_getElem? e1) a m1)
  have inphi : ∀ {i : Nat} {a : Addr}, a ∈ ph i → i < fr.length := fun {i a} m => by
    by_cases hi : i < fr.length
    · exact hi
    · rw [F.emp i (fun t e => by rw [List.getElem?_eq_none (by omega)] at e; cases e)] at m
      cases m
  refine ⟨⟨by rw [wb_len]; exact F.len, fun i t e => ?_, fun i e => ?_, fun i => ?_, fun i k a m1 m2 => ?_, fun i a m => ?_, F'.zt⟩, ⟨fun a z => s2.z a (s1.z a z), fun a o e n => ?_, fun a o e => ?_, fun a xs e => s2.t a xs (s1.t a xs e), fun a o u e => s2.f a o u (s1.f a o u e), fun i a m => ?_, fun a m => ?_, fun a z => ?_⟩, fun {t v} hv => ⟨hv.rt, hv.nd, hv.dz, fun a m i q => ?_⟩⟩
  · have hi : i < fr.length := by
      have := (List.getElem?_eq_some_iff.mp e).1
      rw [wb_len] at this
      exact this
    rw [wb_at ps cs l hi] at e
    unfold pback
    rw [if_pos hi]
    cases hr : refAt ps i with
    | some j =>
      rw [hr] at e
      obtain ⟨v, ev, r⟩ := F'.at_ j t e
      rw [List.getElem?_map, Option.map_eq_some_iff] at ev
      obtain ⟨v', ev, e2⟩ := ev
      cases e2
      obtain ⟨v2, g2, e3, _, h⟩ := P.at_ j _ (refAt_some hr)
      rw [ev] at e3
      cases e3
      exact ⟨v, h.1, r⟩
    | none =>
      rw [hr] at e
      obtain ⟨v, ev, r⟩ := F.at_ i t e
      exact ⟨v, ev, r.mono ⟨s2.sub Fc, fun a o m e => s2.keep a o e fun j => apart hr m⟩⟩
  · unfold pback
    by_cases hi : i < fr.length
    · rw [if_pos hi]
      cases hr : refAt ps i with
      | some j => exact F'.emp j fun t e' => e t (by rw [wb_at ps cs l hi, hr]; exact e')
      | none => exact F.emp i fun t e' => e t (by rw [wb_at ps cs l hi, hr]; exact e')
    · rw [if_neg hi]
  · unfold pback
    split
    · split
      · exact F'.nd _
      · exact F.nd i
    · exact List.nodup_nil
  · unfold pback at m1 m2
    split at m1
    rotate_left
    · cases m1
    split at m2
    rotate_left
    · cases m2
    cases h1 : refAt ps i with
    | some j =>
      rw [h1] at m1
      cases h2 : refAt ps k with
      | some j' =>
        rw [h2] at m2
        have := F'.dj j j' a m1 m2
        subst this
        have e1 := refAt_some h1
        rw [refAt_some h2] at e1
        cases e1
        rfl
      | none =>
        rw [h2] at m2
        rcases s2.new j a m1 with ⟨j', q⟩ | q
        · exact absurd q (apart h2 m2)
        · obtain ⟨o, eo, _⟩ := F.there m2
          rw [q] at eo; cases eo
    | none =>
      rw [h1] at m1
      cases h2 : refAt ps k with
      | some j' =>
        rw [h2] at m2
        rcases s2.new j' a m2 with ⟨j, q⟩ | q
        · exact absurd q (apart h1 m1)
        · obtain ⟨o, eo, _⟩ := F.there m1
          rw [q] at eo; cases eo
      | none =>
        rw [h2] at m2
        exact F.dj i k a m1 m2
  · unfold pback at m
    split at m
    rotate_left
    · cases m
    cases h1 : refAt ps i with
    | some j => rw [h1] at m; exact F'.dz j a m
    | none =>
      rw [h1] at m
      intro z
      rcases s2.zn a z with z | ⟨j, q⟩ | q
      · exact F.dz i a m z
      · exact apart h1 m q
      · obtain ⟨o, eo, _⟩ := F.there m
        rw [q] at eo; cases eo
  · exact s2.keep a o (s1.keep a o e n) fun j q => by
      rcases from_ q with ⟨i, m⟩ | m
      · exact n i m
      · rw [e] at m; cases m
  · obtain ⟨o1, e1⟩ := s1.there a o e
    exact s2.there a o1 e1
  · unfold pback at m
    split at m
    rotate_left
    · cases m
    cases h1 : refAt ps i with
    | some j =>
      rw [h1] at m
      rcases s2.new j a m with ⟨j', q⟩ | q
      · exact from_ q
      · exact .inr (s1.none_of q)
    | none => rw [h1] at m; exact s1.new i a m
  · rcases s2.newg a m with ⟨j, q⟩ | q
    · exact from_ q
    · exact .inr (s1.none_of q)
  · rcases s2.zn a z with z | ⟨j, q⟩ | q
    · exact s1.zn a z
    · exact .inr (from_ q)
    · exact .inr (.inr (s1.none_of q))
  · unfold pback at q
    split at q
    rotate_left
    · cases q
    cases h1 : refAt ps i with
    | some j => rw [h1] at q; exact hv.dp a m j q
    | none =>
      rw [h1] at q
      rcases s2.newg a m with ⟨j, q2⟩ | q2
      · exact apart h1 q q2
      · obtain ⟨o, eo, _⟩ := F.there q
        rw [q2] at eo; cases eo
end Bw

set_option maxHeartbeats 4000000
namespace Bw
open PySem PySem.Spec PyProof.Rows L2
variable {G : Gx} {E : Ev} {X : Cx} {sc : Scope} {W : WX} {Z Z' Z0 Z1 Z2 : Addr → Prop} {H H' H0 H1 H2 : Hp} {σ : L2.St} {fr fr' fr1 fr2 : Fr} {ph ph' ph0 ph1 ph2 pa' : Nat → List Addr} {o : Opd} {v : V} {d : D} {g g1 g2 gh : List Addr} {t : T} {n : Nat} {ps : List ArgT} {out : List V} {gs : List (List Addr)} {ts : List T} {cs : Fr}
/-- what a def promises, by its answer on data -/
def spF (G : Gx) (call : List T → CRes) : Sp := fun vs H Q Ex => ∃ Z ts pa, FrOk G Z H (vs.map some) (ts.map some) pa ∧ match call ts with
  | .ok t cs => cs.length = ts.length ∧ ∀ v H' Z' pa' g, FrOk G Z' H' (vs.map some) cs pa' → Val G Z' H' pa' t v g → Stp Z H pa Z' H' pa' g → Q v H'
  | .exn x cs => cs.length = ts.length ∧ ∀ cls dx H' Z' pa', FrOk G Z' H' (vs.map some) cs pa' → Stp Z H pa Z' H' pa' [] → ExR G H' x cls dx → Ex cls dx H'
  | .stuck => False
/-- an own def as the context knows it -/
def FnC (G : Gx) (E : Ev) (X : Cx) (g : Str) (n : Nat) (ks : List Str) (sh : Shape) : Prop :=
  ∃ (k : Nat) (f : Addr) (fd : FuncData) (qs : List Str) (gg : List Value → List Value → List Value) (gV : List V → List V → List V),
    FnOk X.prog X.w X.K X.mg X.base (L2.CX X.prog X.w) k f fd qs (spF G (E.call g)) ∧ Room k X.A ∧ X.mg g = some (.ref f) ∧ PySem.W.keepIn X.K (.ref f) = true ∧ KBn X.K fd qs n ks gg gV ∧ ∀ vs zs, vs.length = n → zs.length = ks.length → ShV G (vs ++ zs) sh (gV vs zs)
structure Cw (G : Gx) (E : Ev) (X : Cx) (sc : Scope) (W : WX) : Prop extends Lk G E X sc where
  calm : X.calm = true
  tk : Takes X W
  fn : ∀ g n ks sh, E.shape g n ks = some sh → FnC G E X g n ks sh
def tCallNS (n m : Nat) (sp : Sp) (gV : List V → List V → List V) (Ex : L2.St → XK) (t tk : TA) : TE := fun σ H Q => t σ H fun vs H1 => tk σ H1 fun zs H2 => vs.length = n ∧ zs.length = m ∧ sp (gV vs zs) H2 Q (Ex σ)
section
variable {CX : CXT} {k m : Nat} {f : Addr} {fd : FuncData} {qs ks : List Str} {sp : Sp} {Ex : L2.St → XK} {x : Str} {p pos : Pos} {e : Expr} {es : List Expr} {kws : List Keyword} {tt tk : TA} {gg : List Value → List Value → List Value} {gV : List V → List V → List V}
theorem run_fnNS {pins : List (Addr × Obj)} {σ : L2.St} {H : Hp} {s : Shared} {Q : VK} {us ws : List Value} {vs zs : List V} (F : FnOk X.prog X.w X.K X.mg X.base CX k f fd qs sp) (hr : Room k X.A) (hb : KBn X.K fd qs n ks gg gV) (hx : PassesAt CX X σ (Ex σ))
    (I : Inv X pins σ H s) (r : Vals vs us) (rz : Vals zs ws) (l1 : vs.length = n) (l2 : zs.length = ks.length) (h : sp (gV vs zs) H Q (Ex σ)) : wpAny (model X.prog X.w) X.A (call (.ref f) us (ks.zip ws)) (EP X pins σ Q) X.xe s := by
  have r2 := hb.rel r rz
  refine wpAny_call (codeAny_mono (F.run X.A X.stack s H ⟨us, ks.zip ws⟩ (gg us ws) (gV vs zs) Q (Ex σ) hr I.env0 (hb.to s us ws I.kIn (r.length.symm.trans l1) (rz.length.symm.trans l2)) r2 h) fun r s' hq => ?_)
  cases r with
  | error e => exact hx pins H s e s' I hq
  | ok fl =>
    cases fl with
    | ret u => exact I.after hq
    | next => exact False.elim hq
    | brk => exact False.elim hq
    | cont => exact False.elim hq
theorem pe_callNS (F : FnOk X.prog X.w X.K X.mg X.base CX k f fd qs sp) (hr : Room k X.A) (hg : Gl X x) (hm : X.mg x = some (.ref f)) (hk : PySem.W.keepIn X.K (.ref f) = true) (hb : KBn X.K fd qs n ks gg gV) (hx : ∀ σ, PassesAt CX X σ (Ex σ))
    (ha : PA X (e :: es) tt) (hkw : PK X kws tk) (hall : (backToKw pos (keywordEach kws X.env)).all (·.1.isSome) = true) (hks : (backToKw pos (keywordEach kws X.env)).filterMap (·.1) = ks)
    (hdb : (x == ("__debug__" : Str)) = false) (he : starEach (e :: es) X.env = (false, eval e X.env) :: starEach es X.env)
    (hpl : ((backTo pos (starEach (e :: es) X.env)).any (·.1) || (backToKw pos (keywordEach kws X.env)).any (·.1.isNone)) = false) :
    PE X (.Call (.Name x p) (e :: es) kws pos) (tCallNS n ks.length sp gV Ex tt tk) := by
  refine ⟨fun pins s σ H Q I h => ?_⟩
  refine wpAny_Call_Name_kw (ld_glob I hg hm ?_ hdb)
  refine PySem.W.callWith_KW (h₀ := X.base) I.ok.mod.kin hk hall (thn (ha.run pos pins s σ H _ I h) fun us s1 ⟨vs, H1, I1, r, q⟩ => ?_) hpl he
  refine thn (hkw.run pos pins s1 σ H1 _ I1 q) fun ws s2 ⟨zs, H2, I2, rz, l1, l2, q2⟩ => ⟨I2.kIn, ?_⟩
  rw [hks]
  exact run_fnNS F hr hb (hx σ) I2 r rz l1 l2 q2
end
theorem kw_facts {env : Env} {pos : Pos} : ∀ {kws : List Keyword} {ks : List Str}, kwNames kws = some ks → (backToKw pos (keywordEach kws env)).all (·.1.isSome) = true ∧ (backToKw pos (keywordEach kws env)).filterMap (·.1) = ks ∧ (backToKw pos (keywordEach kws env)).any (·.1.isNone) = false ∧ kws.length = ks.length
  | [], ks, e => by cases e; exact ⟨rfl, rfl, rfl, rfl⟩
  | ⟨some x, v, p⟩ :: r, ks, e => by
    rw [kwNames, Option.map_eq_some_iff] at e
    obtain ⟨ks', e, rfl⟩ := e
    obtain ⟨h1, h2, h3, h4⟩ := kw_facts e
    refine ⟨?_, ?_, ?_, by rw [List.length_cons, List.length_cons, h4]⟩
    · show (true && (backToKw pos (keywordEach r env)).all (·.1.isSome)) = true
      rw [h1]; rfl
    · show x :: (backToKw pos (keywordEach r env)).filterMap (·.1) = _
      rw [h2]
    · show (false || (backToKw pos (keywordEach r env)).any (·.1.isNone)) = false
      rw [h3]; rfl
  | ⟨none, v, p⟩ :: r, ks, e => by cases e
theorem pk_vs (hv : ∀ m, m ≤ n → ∀ e, PE X e (tV G W (evV E sc m e))) : ∀ (m : Nat), m ≤ n → ∀ kws : List Keyword, PK X kws (tVs G W (evVs E sc m (kwVals kws))) := by
  intro m
  induction m with
  | zero =>
    intro _ kws
    cases kws with
    | nil =>
      refine ⟨fun pos pins s σ H Q I ⟨Z, fr, ph, F, h⟩ => pk_nil.run pos pins s σ H Q I ?_⟩
      exact h [] H Z ph [] F .nil Stp.refl
    | cons e es => exact ⟨fun pos pins s σ H Q I ⟨Z, fr, ph, F, h⟩ => h.elim⟩
  | succ m ih =>
    intro hm kws
    cases kws with
    | nil =>
      refine ⟨fun pos pins s σ H Q I ⟨Z, fr, ph, F, h⟩ => pk_nil.run pos pins s σ H Q I ?_⟩
      exact h [] H Z ph [] F .nil Stp.refl
    | cons e es =>
      obtain ⟨nm, e, kp⟩ := e
      refine ⟨fun pos pins s σ H Q I ⟨Z, fr, ph, F, h⟩ => (pk_cons (hv m (by omega) e) (ih (by omega) es)).run pos pins s σ H Q I ?_⟩
      refine ⟨Z, fr, ph, F, GR.mono (GR.bind h) (fun _ _ z => z) fun t fr1 h1 => fun v H1 Z1 ph1 g1 F1 hv1 s1 => ?_⟩
      refine ⟨Z1, fr1, ph1, F1, GR.mono (GR.bind h1) (fun _ _ z => z.shift s1.drop) fun ts fr2 h2 => fun vs H2 Z2 ph2 gs F2 hs s2 => ?_⟩
      refine h2 (v :: vs) H2 Z2 ph2 (g1 :: gs) F2 (.cons (hv1.step F1 s2) hs fun g' mg a m q => hv1.apart s2 a m (List.mem_flatten.mpr ⟨g', mg, q⟩)) ((s1.trans s2).with_g fun a m => ?_)
      rw [List.flatten_cons] at m
      rcases List.mem_append.mp m with m | m
      · exact s1.newg a m
      · exact (s1.trans s2).newg a m
/-- an argument -/
def tArg (G : Gx) (W : WX) (m : M ArgT) : TE := fun σ H Q => ∃ Z fr ph, FrOk G Z H σ fr ph ∧ GR (m fr) (XW G W Z H ph σ) fun a fr' => ∀ v H' Z' ph' g, FrOk G Z' H' σ fr' ph' → ArgOk G Z' H' ph' σ a v g → Stp Z H ph Z' H' ph' g → Q v H'
def tArgs (G : Gx) (W : WX) (m : M (List ArgT)) : TA := fun σ H Q => ∃ Z fr ph, FrOk G Z H σ fr ph ∧ GR (m fr) (XW G W Z H ph σ) fun as fr' => ∀ vs H' Z' ph' gs, FrOk G Z' H' σ fr' ph' → HeldA G Z' H' ph' σ as vs gs → Stp Z H ph Z' H' ph' gs.flatten → Q vs H'
def arg1 (E : Ev) (sc : Scope) (n : Nat) (br : Bool) (e : Expr) : M ArgT := fun fr => match refName E sc fr br e with
      | some i => .ok (ArgT.ref i) fr
      | none => ((evV E sc n e).bind fun t => .pure (ArgT.val t)) fr
theorem pe_arg (L : Lk G E X sc) (hv : ∀ e, PE X e (tV G W (evV E sc n e))) (br : Bool) (e : Expr) : PE X e (tArg G W (arg1 E sc n br e)) := by
  refine ⟨fun pins s σ H Q I ⟨Z, fr, ph, F, h⟩ => ?_⟩
  unfold arg1 at h
  cases hr : refName E sc fr br e with
  | none =>
    simp only [hr] at h
    refine (hv e).run pins s σ H Q I ⟨Z, fr, ph, F, GR.mono (GR.bind h) (fun _ _ z => z) fun t fr1 h1 => fun v H1 Z1 ph1 g F1 hv1 s1 => h1 v H1 Z1 ph1 g F1 hv1 s1⟩
  | some i =>
    simp only [hr] at h
    cases e with
    | Name x p =>
      rw [refName] at hr
      split at hr
      · rename_i hc
        rw [Bool.and_eq_true, Bool.and_eq_true] at hc
        cases hi : slotOf E.N x with
        | none => rw [hi] at hr; cases hr
        | some i' =>
          rw [hi] at hr
          simp only at hr
          cases hg : getS fr i' with
          | none => rw [hg] at hr; cases hr
          | some t =>
            have : i' = i := by
              rw [hg] at hr
              cases t with
              | d x => cases hr
              | _ => exact Option.some.inj hr
            subst this
            obtain ⟨v, ev, r⟩ := F.at_ i' t (getS_at hg)
            exact (name_slot (p := p) L hc.1.2 hc.2 hi).run pins s σ H Q I ⟨v, ev, h v H Z ph [] F ⟨ev, rfl⟩ Stp.refl⟩
      · cases hr
    | _ => cases hr
theorem pa_args (L : Lk G E X sc) (hv : ∀ m, m ≤ n → ∀ e, PE X e (tV G W (evV E sc m e))) : ∀ (m : Nat), m ≤ n → ∀ (es : List Expr) (gn : Str) (k : Nat), nostar es = true → PA X es (tArgs G W (evArgs E sc m (withFlags E gn k es))) := by
  intro m
  induction m with
  | zero =>
    intro _ es gn k hst
    cases es with
    | nil =>
      refine ⟨fun pos pins s σ H Q I ⟨Z, fr, ph, F, h⟩ => pa_nil.run pos pins s σ H Q I ?_⟩
      exact h [] H Z ph [] F .nil Stp.refl
    | cons e es => exact ⟨fun pos pins s σ H Q I ⟨Z, fr, ph, F, h⟩ => h.elim⟩
  | succ m ih =>
    intro hm es gn k hst
    cases es with
    | nil =>
      refine ⟨fun pos pins s σ H Q I ⟨Z, fr, ph, F, h⟩ => pa_nil.run pos pins s σ H Q I ?_⟩
      exact h [] H Z ph [] F .nil Stp.refl
    | cons e es =>
      obtain ⟨hst1, hst2⟩ := nostar_cons hst X.env
      refine ⟨fun pos pins s σ H Q I ⟨Z, fr, ph, F, h⟩ => (pa_cons (pe_arg L (hv m (by omega)) (E.byref gn k) e) (ih (by omega) es gn (k + 1) hst2) hst1).run pos pins s σ H Q I ?_⟩
      rw [withFlags, evArgs] at h
      refine ⟨Z, fr, ph, F, GR.mono (GR.bind h) (fun _ _ z => z) fun a fr1 h1 => fun v H1 Z1 ph1 g1 F1 hv1 s1 => ?_⟩
      refine ⟨Z1, fr1, ph1, F1, GR.mono (GR.bind h1) (fun _ _ z => z.shift s1.drop) fun as fr2 h2 => fun vs H2 Z2 ph2 gs F2 hs s2 => ?_⟩
      refine h2 (v :: vs) H2 Z2 ph2 (g1 :: gs) F2 (.cons (hv1.step F1 s2) hs fun g' mg a m q => hv1.apart s2 a m (List.mem_flatten.mpr ⟨g', mg, q⟩)) ((s1.trans s2).with_g fun a m => ?_)
      rw [List.flatten_cons] at m
      rcases List.mem_append.mp m with m | m
      · exact s1.newg a m
      · exact (s1.trans s2).newg a m
/-- the call itself -/
theorem call_sp {gn : Str} {Q : VK} (P : HeldP G Z1 H1 ph1 σ ps out gs) (F : FrOk G Z1 H1 σ fr1 ph1) (s1 : Stp Z H ph Z1 H1 ph1 gh) (hgs : ∀ g, g ∈ gs → ∀ a, a ∈ g → a ∈ gh)
    (h : GR (callM E gn ps fr1) (XW G W Z H ph σ) (VPost G Z H ph σ Q)) : spF G (E.call gn) out H1 Q (WE W σ) := by
  unfold callM at h
  split at h
  · rename_i hn
    cases em : ps.mapM (argT fr1) with
    | none => simp only [em] at h; exact h.elim
    | some ts =>
      simp only [em] at h
      have Fc := callee_frame P F (nodupN_iff hn) em
      have hl : ps.length = ts.length := (mapM_at em).1
      refine ⟨Z1, ts, _, Fc, ?_⟩
      cases ec : E.call gn ts with
      | stuck => rw [ec] at h; exact h.elim
      | ok t cs =>
        rw [ec] at h
        simp only at h
        split at h
        · rename_i hc
          refine ⟨hc.trans hl, fun v H' Z' pa' g F' hv s2 => ?_⟩
          obtain ⟨k1, k2, k3⟩ := call_back P F s1 hgs hc F' s2 Fc
          exact h v H' Z' _ g k1 (k3 hv) k2
        · exact h.elim
      | exn x cs =>
        rw [ec] at h
        simp only at h
        split at h
        · rename_i hc
          refine ⟨hc.trans hl, fun cls dx H' Z' pa' F' s2 hx => ?_⟩
          obtain ⟨k1, k2, k3⟩ := call_back P F s1 hgs hc F' s2 Fc
          exact h cls dx H' Z' _ k1 k2 hx
        · exact h.elim
  · exact h.elim
end Bw

set_option maxHeartbeats 4000000
namespace Bw
open PySem PySem.Spec PyProof.Rows L2
variable {G : Gx} {E : Ev} {X : Cx} {sc : Scope} {W : WX} {Z Z' Z0 Z1 Z2 : Addr → Prop} {H H' H0 H1 H2 : Hp} {σ : L2.St} {fr fr' fr1 fr2 : Fr} {ph ph' ph0 ph1 ph2 pa' : Nat → List Addr} {o : Opd} {v : V} {d : D} {g g1 g2 gh : List Addr} {t : T} {n : Nat} {ps : List ArgT} {out : List V} {gs : List (List Addr)} {ts : List T} {cs : Fr}
theorem evC_call {g : Str} {p pos : Pos} {as : List Expr} {kws : List Keyword} : evC E sc (n + 1) (.Call (.Name g p) as kws pos) = ( if isGlob sc g && okName g && nostar as then
      (match kwNames kws with
      | some ks => (match E.shape g as.length ks with
        | some sh => if as.isEmpty then (fun _ => .stuck) else (evArgs E sc n (withFlags E g 0 as)).bind fun a1 => (evVs E sc n (kwVals kws)).bind fun a2 => (match if a1.length == as.length && a2.length == ks.length && nodupN (inls sh) then params (a1 ++ a2.map .val) sh else none with
          | some ps => callM E g ps
          | none => fun _ => .stuck)
        | none => if E.blt g && ks.isEmpty then (match as with
          | [a] => if isB1 g then (evO E sc n a).bind fun x => .ofO (blt1 g x) else fun _ => .stuck
          | [a, b] => if isB2 g then (ev2 E sc n a b).bind fun xy => .ofO (blt2 g xy.1.1 xy.2.1) else fun _ => .stuck
          | _ => fun _ => .stuck) else fun _ => .stuck)
      | none => fun _ => .stuck) else fun _ => .stuck) := rfl
theorem c_call (C : Cw G E X sc W) (hv : ∀ m, m ≤ n → ∀ e, PE X e (tV G W (evV E sc m e))) (ho : ∀ m, m ≤ n → ∀ e, PE X e (tO G W (evO E sc m e))) {gn : Str} {p pos : Pos} {as : List Expr} {kws : List Keyword} :
    PE X (.Call (.Name gn p) as kws pos) (tV G W (evC E sc (n + 1) (.Call (.Name gn p) as kws pos))) := by
  refine ⟨fun pins s σ H Q I ⟨Z, fr, ph, F, h⟩ => ?_⟩
  rw [evC_call] at h
  split at h
  rotate_left
  · exact h.elim
  rename_i hc
  rw [Bool.and_eq_true, Bool.and_eq_true] at hc
  obtain ⟨⟨hg, hn⟩, hst⟩ := hc
  have gl := isGlob_gl hg C.sc
  obtain ⟨nd1, nd2, nd3⟩ := okName_ne hn
  cases hk : kwNames kws with
  | none => simp only [hk] at h; exact h.elim
  | some ks =>
    simp only [hk] at h
    obtain ⟨f1, f2, f3, f4⟩ := kw_facts (env := X.env) (pos := pos) hk
    cases hs : E.shape gn as.length ks with
    | none =>
      simp only [hs] at h
      split at h
      rotate_left
      · exact h.elim
      rename_i hb
      rw [Bool.and_eq_true] at hb
      obtain ⟨hb, hke⟩ := hb
      have hk0 : kws = [] := by
        cases kws with
        | nil => rfl
        | cons k r =>
          cases ks with
          | nil => cases f4
          | cons _ _ => cases hke
      subst hk0
      match as, h with
      | [], h => exact h.elim
      | [a], h =>
        simp only at h
        split at h
        · rename_i hi
          exact (c_blt1 C.toLk C.calm (ho n (Nat.le_refl _)) hg hb hst hi).run pins s σ H Q I ⟨Z, fr, ph, F, h⟩
        · exact h.elim
      | [a, b], h =>
        simp only at h
        split at h
        · rename_i hi
          cases n with
          | zero => exact h.elim
          | succ k => exact (c_blt2 C.toLk C.calm (ho k (by omega)) hg hb hst hi).run pins s σ H Q I ⟨Z, fr, ph, F, h⟩
        · exact h.elim
      | a :: b :: c :: r, h => exact h.elim
    | some sh =>
      simp only [hs] at h
      split at h
      · exact h.elim
      obtain ⟨k, f, fd, qs, gg, gV, Fn, hr, hm, hkp, hb, hsh⟩ := C.fn gn as.length ks sh hs
      cases as with
      | nil => rename_i ne; exact absurd rfl ne
      | cons e es =>
      obtain ⟨he, hst2⟩ := nostar_cons hst X.env
      have hpl : ((backTo pos (starEach (e :: es) X.env)).any (·.1) || (backToKw pos (keywordEach kws X.env)).any (·.1.isNone)) = false := by
        rw [nostar_plain hst, f3]; rfl
      refine (pe_callNS (Ex := fun σ => WE W σ) Fn hr gl hm hkp hb (fun σ => passAt C.tk σ) (pa_args C.toLk hv n (Nat.le_refl _) (e :: es) gn 0 hst) (pk_vs hv n (Nat.le_refl _) kws) f1 f2 (by simpa using nd1) he hpl).run pins s σ H Q I ?_
      refine ⟨Z, fr, ph, F, GR.mono (GR.bind h) (fun _ _ z => z) fun a1 fr1 h1 => fun vs H1 Z1 ph1 gs1 F1 hh1 s1 => ?_⟩
      refine ⟨Z1, fr1, ph1, F1, GR.mono (GR.bind h1) (fun _ _ z => z.shift s1.drop) fun a2 fr2 h2 => fun zs H2 Z2 ph2 gs2 F2 hh2 s2 => ?_⟩
      have h2 : GR ((match (if (a1.length == (e :: es).length && a2.length == ks.length && nodupN (inls sh)) = true then params (a1 ++ a2.map ArgT.val) sh else none) with | some ps => callM E gn ps | none => fun _ => .stuck) fr2) (XW G W Z H ph σ) (VPost G Z H ph σ Q) := h2
      generalize hps : (if (a1.length == (e :: es).length && a2.length == ks.length && nodupN (inls sh)) = true then params (a1 ++ a2.map ArgT.val) sh else none) = op at h2
      cases op with
      | none => exact h2.elim
      | some ps =>
      split at hps
      rotate_left
      · cases hps
      rename_i hnd
      rw [Bool.and_eq_true, Bool.and_eq_true, beq_iff_eq, beq_iff_eq] at hnd
      obtain ⟨⟨n1, n2⟩, hnd⟩ := hnd
      have hA := (hh1.step F1 s2).append hh2 (hh1.apart s2)
      have hP := hA.p
      have e1 : vs.length = (e :: es).length := hh1.p.l1.symm.trans n1
      have e2 : zs.length = ks.length := hh2.length.symm.trans n2
      refine ⟨e1, e2, ?_⟩
      obtain ⟨gs', k1, k2⟩ := params_held hP hps (hsh vs zs e1 e2) (nodupN_iff hnd)
      refine call_sp (gh := (gs1 ++ gs2).flatten) k1.p F2 ((s1.trans s2).with_g fun a m => ?_) (fun g mg a m => ?_) h2
      · rw [List.flatten_append] at m
        rcases List.mem_append.mp m with m | m
        · exact s1.newg a m
        · exact (s1.trans s2).newg a m
      · rcases k2 g mg with z | ⟨k, _, ek⟩
        · subst z; cases m
        · exact List.mem_flatten.mpr ⟨g, List.mem_of_getElem? ek, m⟩
end Bw

set_option maxHeartbeats 4000000
namespace Bw
open PySem PySem.Spec PyProof.Rows L2
variable {G : Gx} {E : Ev} {X : Cx} {sc : Scope} {W : WX} {Z Z' Z0 Z1 Z2 : Addr → Prop} {H H' H0 H1 H2 : Hp} {σ σ' : L2.St} {fr fr' fr1 fr2 : Fr} {ph ph' ph0 ph1 ph2 pa' : Nat → List Addr} {o : Opd} {v : V} {d : D} {g g1 g2 gh : List Addr} {t : T} {n : Nat} {tg : Expr}
/-- what is walked, as it is seen -/
def SeesD (G : Gx) (ds : List D) (v : V) (isL : Bool) (gd : Option (Nat × T)) (σ : L2.St) (Z : Addr → Prop) (H : Hp) : Prop := match gd with
  | none => RD G Z H (if isL = true then .lst ds else .tup ds) v
  | some (i, t) => isL = true ∧ σ[i]? = some (some v) ∧ (∃ ts, t = .lst ts ∧ fzs ts = ds) ∧ imms ds = true
theorem SeesD.sub {ds : List D} {isL : Bool} {gd : Option (Nat × T)} (h : SeesD G ds v isL gd σ Z H) (s : Sub Z H Z' H') : SeesD G ds v isL gd σ Z' H' := by
  cases gd with
  | none => exact RD.mono s h
  | some p => exact h
def GdAt (gd : Option (Nat × T)) (fr : Fr) : Prop := match gd with
  | none => True
  | some (i, t) => ∃ u, getS fr i = some u ∧ u = t
theorem SeesD.use {ds : List D} {isL : Bool} {gd : Option (Nat × T)} (h : SeesD G ds v isL gd σ Z H) (F : FrOk G Z H σ fr ph) (hg : GdAt gd fr) :
    ∃ a vs, v = .ref a ∧ (if isL = true then SqL G.K H a vs else SqT G.K H a vs) ∧ RDs G Z H ds vs := by
  cases gd with
  | none =>
    cases isL with
    | true =>
      cases (show RD G Z H (.lst ds) v from h) with
      | lst h1 r => exact ⟨_, _, rfl, h1.sq, r⟩
    | false =>
      cases (show RD G Z H (.tup ds) v from h) with
      | tup h1 r => exact ⟨_, _, rfl, h1.sq, r⟩
  | some p =>
    obtain ⟨i, t⟩ := p
    obtain ⟨rfl, ev, ⟨ts, rfl, rfl⟩, him⟩ := h
    obtain ⟨u, eu, rfl⟩ := hg
    obtain ⟨v', ev', r⟩ := F.at_ i _ (getS_at eu)
    rw [ev] at ev'
    cases ev'
    generalize ph i = gp at r
    cases r with
    | lst h1 r => exact ⟨_, _, rfl, .inl (.inl h1), (RTs.fz r).imm ⟨fun _ _ _ e => e⟩ him⟩
theorem guard_at {s : Src} (h : guardOk s fr = true) : GdAt s.guard fr := by
  obtain ⟨its, gd, pr⟩ := s
  cases gd with
  | none => exact True.intro
  | some it =>
    obtain ⟨i, t⟩ := it
    have h : (match getS fr i with
      | some u => beqT u t
      | none => false) = true := h
    cases e2 : getS fr i with
    | none => rw [e2] at h; cases h
    | some u => rw [e2] at h; exact ⟨u, e2, beqT_eq h⟩
/-- a walked operand -/
def tWk (G : Gx) (W : WX) (m : M Src) : TE := fun σ H Q => ∃ Z fr ph, FrOk G Z H σ fr ph ∧ GR (m fr) (XW G W Z H ph σ) fun s fr' => ∀ v H' Z' ph' isL, FrOk G Z' H' σ fr' ph' → Stp Z H ph Z' H' ph' [] → SeesD G s.items v isL s.guard σ Z' H' → s.pairs = false → guardOk s fr' = true → Q v H'
theorem seq_sees {d : D} {ds : List D} {P : Addr → Prop} (r : RD G P H d v) (e : seqD d = some ds) : ∃ isL : Bool, RD G P H (if isL = true then .lst ds else .tup ds) v := by
  cases d with
  | lst ds' => cases e; exact ⟨true, r⟩
  | tup ds' => cases e; exact ⟨false, r⟩
  | _ => cases e
theorem seq_fz {ds : List D} {t : T} (e : seqD (fz t) = some ds) : (∃ ts, t = .lst ts ∧ fzs ts = ds) ∨ ∃ d, t = .d d := by
  cases t with
  | d x => exact .inr ⟨x, rfl⟩
  | lst ts => rw [fz] at e; cases e; exact .inl ⟨ts, rfl, rfl⟩
  | _ => rw [fz] at e; cases e
theorem c_walk (L : Lk G E X sc) (hc : ∀ e, PE X e (tV G W (evC E sc n e))) (e : Expr) : PE X e (tWk G W (evWalk E sc (n + 1) e)) := by
  refine ⟨fun pins s σ H Q I ⟨Z, fr, ph, F, h⟩ => ?_⟩
  by_cases hpure : pureX E sc n e = true
  rotate_left
  · rw [evWalk, if_neg hpure] at h
    refine (hc e).run pins s σ H Q I ⟨Z, fr, ph, F, GR.mono h.bind (fun _ _ z => z) fun t fr1 h1 => fun v H' Z' ph' g F' hv st => ?_⟩
    cases hs : seqD (fz t) with
    | none => rw [hs] at h1; exact h1.elim
    | some ds =>
      rw [hs] at h1
      obtain ⟨F2, rd⟩ := hv.freeze F'
      obtain ⟨isL, rd2⟩ := seq_sees rd hs
      exact h1 v H' _ ph' isL F2 st.freeze rd2 rfl rfl
  rw [evWalk, if_pos hpure] at h
  cases he : evP E sc fr n e with
  | none => simp only [he] at h; exact h.elim
  | some x =>
    simp only [he] at h
    cases hs : seqD x.1 with
    | none => simp only [hs] at h; exact h.elim
    | some ds =>
      simp only [hs] at h
      have frz : GR (frzWalk E sc n e fr) (XW G W Z H ph σ) (fun s fr' => ∀ v H' Z' ph' isL, FrOk G Z' H' σ fr' ph' → Stp Z H ph Z' H' ph' [] → SeesD G s.items v isL s.guard σ Z' H' → s.pairs = false → guardOk s fr' = true → Q v H') → wpAny (model X.prog X.w) X.A (eval e X.env) (EP X pins σ Q) X.xe s := fun h => by
        unfold frzWalk at h
        cases hi : (rootE e).bind (slotOf E.N) with
        | none => simp only [hi] at h; exact h.elim
        | some i =>
          simp only [hi] at h
          cases hg : getS fr i with
          | none => simp only [hg] at h; exact h.elim
          | some t =>
            simp only [hg] at h
            obtain ⟨v0, Z', ev, F', rd0, st⟩ := frz_slot F hg
            cases he2 : evP E sc (fr.set i (some (.d (fz t)))) n e with
            | none => simp only [he2] at h; exact h.elim
            | some y =>
              obtain ⟨d, p⟩ := y
              cases p with
              | true => simp only [he2] at h; exact h.elim
              | false =>
                simp only [he2] at h
                cases hs2 : seqD d with
                | none => simp only [hs2] at h; exact h.elim
                | some ds2 =>
                  simp only [hs2] at h
                  refine ((pure_ok L n).e e).run pins s σ H Q I ⟨Z', _, _, _, F', he2, fun v H' k r => ?_⟩
                  obtain ⟨isL, rd2⟩ := seq_sees (show RD G Z' H' d v from r) hs2
                  exact h v H' Z' _ isL (F'.grow k) (st.trans (stp_of_grow k)) rd2 rfl rfl
      split at h
      · rename_i hp
        have hp : x.2 = false := by simpa using hp
        refine ((pure_ok L n).e e).run pins s σ H Q I ⟨Z, fr, ph, x, F, he, fun v H' k r => ?_⟩
        have r2 : RD G Z H' x.1 v := r.frz (by rw [hp]; rfl)
        obtain ⟨isL, rd2⟩ := seq_sees r2 hs
        exact h v H' Z ph isL (F.grow k) (stp_of_grow k) rd2 rfl rfl
      · rename_i hp
        have hp : x.2 = true := by simpa using hp
        cases hw : walkName E e fr with
        | none => simp only [hw] at h; exact frz h
        | some it =>
          obtain ⟨i, t⟩ := it
          simp only [hw] at h
          split at h
          · rename_i him
            cases e with
            | Name y p =>
              rw [walkName, Option.bind_eq_some_iff] at hw
              obtain ⟨i', hi, hw⟩ := hw
              rw [Option.map_eq_some_iff] at hw
              obtain ⟨t', hg, hw⟩ := hw
              cases hw
              have hh : isSlot sc y = true ∧ okName y = true ∧ opdT t = x := by
                cases n with
                | zero => cases he
                | succ m =>
                  rw [evP] at he
                  unfold nameP at he
                  split at he
                  · cases he
                  · rename_i hn
                    split at he
                    · rename_i hsl
                      refine ⟨hsl, by simpa using hn, ?_⟩
                      rw [hi] at he
                      simpa [hg] using he
                    · split at he
                      · rw [Option.map_eq_some_iff] at he
                        obtain ⟨d, _, e2⟩ := he
                        rw [← e2] at hp
                        cases hp
                      · cases he
              obtain ⟨hsl, hn, ht⟩ := hh
              obtain ⟨v, ev, r⟩ := F.at_ i t (getS_at hg)
              have hts : ∃ ts, t = .lst ts ∧ fzs ts = ds := by
                have e1 : fz t = x.1 := by
                  rw [← ht]
                  cases t <;> rfl
                rw [← e1] at hs
                rcases seq_fz hs with z | ⟨d, rfl⟩
                · exact z
                · rw [← ht] at hp
                  cases hp
              exact (name_slot (p := p) L hsl hn hi).run pins s σ H Q I ⟨v, ev, h v H Z ph true F Stp.refl ⟨rfl, ev, hts, him⟩ rfl (by unfold guardOk; simp only [hg]; exact beqT_refl t)⟩
            | _ => cases hw
          · exact frz h
/-! ### what yields -/
/-- an item as it is handed out -/
def ItemR (G : Gx) (Z : Addr → Prop) (H : Hp) (pairs : Bool) (d : D) (x : V) : Prop := if pairs = true then (∃ T ds vs, d = .tup ds ∧ x = .ref T ∧ SqT G.K H T vs ∧ RDs G Z H ds vs) else RD G Z H d x
structure SrcOk (G : Gx) (s : Src) (J : It) (S : L2.St → (Addr → Prop) → Hp → Prop) : Prop where
  sub : ∀ {σ Z H Z' H'}, S σ Z H → Sub Z H Z' H' → S σ Z' H'
  sig : ∀ {σ σ' Z H}, S σ Z H → (∀ i t, s.guard = some (i, t) → σ'[i]? = σ[i]?) → S σ' Z H
  at_ : ∀ {σ Z H fr ph}, S σ Z H → FrOk G Z H σ fr ph → guardOk s fr = true → ∀ i : Nat, (∀ d, s.items[i]? = some d → J.go i H ∧ ∀ x H', J.yld i H x H' → Grow H H' ∧ ItemR G Z H' s.pairs d x) ∧ (s.items.length ≤ i → J.stop i H)
theorem SrcOk.step {s : Src} {J : It} {S : L2.St → (Addr → Prop) → Hp → Prop} (O : SrcOk G s J S) (h : S σ Z H) (F : FrOk G Z H σ' fr ph) (st : Stp Z H ph Z' H' ph' g) : S σ Z' H' := O.sub h (st.sub F)
def tSrc (G : Gx) (W : WX) (m : M Src) : TI := fun σ H R => ∃ Z fr ph, FrOk G Z H σ fr ph ∧ GR (m fr) (XW G W Z H ph σ) fun s fr' => ∀ J H' Z' ph' (S : L2.St → (Addr → Prop) → Hp → Prop), FrOk G Z' H' σ fr' ph' → Stp Z H ph Z' H' ph' [] → S σ Z' H' → SrcOk G s J S → R J H'
theorem piI {iter : Expr} {t t' : TI} (h : PI X tg iter t) (i : ∀ σ H R, t' σ H R → t σ H R) : PI X tg iter t' := ⟨fun pins s σ H R I q => h.run pins s σ H R I (i σ H R q)⟩
/-- a list or a tuple -/
def iSeq (K : PySem.W.Frag) (tl : TE) : TI := fun σ H R => tl σ H fun x H1 => ∃ a, x = .ref a ∧ (((∃ xs, SqL K H1 a xs) ∧ R (Itl K a) H1) ∨ ((∃ xs, SqT K H1 a xs) ∧ R (Itt K a) H1))
theorem pi_seq {l : Expr} {tl : TE} (hl : PE X l tl) : PI X tg l (iSeq X.K tl) := by
  refine ⟨fun pins s σ H R I h => ?_⟩
  refine thn (hl.run pins s σ H _ I h) fun v s1 ⟨x, H1, I1, r1, q1⟩ => ?_
  obtain ⟨a, e, q1⟩ := q1
  subst e
  cases r1
  rcases q1 with ⟨⟨xs, hq⟩, q⟩ | ⟨⟨xs, hq⟩, q⟩
  · obtain ⟨its, rv, p, hz⟩ := I1.list hq
    refine wpAny_pyIter_list p.isList ?_
    refine ⟨s1.heap.objs.size, [s1.heap.objs.size], _, _, H1, rfl, I1.kept (t' := s1.toks) fun b o e => Heap.get?_push_of_some _ e, turn_list a _, ⟨_, Heap.get?_push_size _ rfl, rfl, rfl⟩, fun b hb => ?_, q⟩
    have e : b = s1.heap.objs.size := by simpa using hb
    subst e
    exact I1.fpOk (Nat.le_refl _) (I1.hok.fresh (Nat.le_refl _))
  · obtain ⟨its, rv, p, hz⟩ := I1.tuple hq
    refine wpAny_pyIter_tuple (show s1.heap.IsTuple a its.toArray from p) ?_
    refine ⟨s1.heap.objs.size, [s1.heap.objs.size], _, _, H1, rfl, I1.kept (t' := s1.toks) fun b o e => Heap.get?_push_of_some _ e, turn_tuple a _, ⟨_, Heap.get?_push_size _ rfl, rfl, rfl⟩, fun b hb => ?_, q⟩
    have e : b = s1.heap.objs.size := by simpa using hb
    subst e
    exact I1.fpOk (Nat.le_refl _) (I1.hok.fresh (Nat.le_refl _))
/-- by values: the items of a walk -/
theorem items_of {s : Src} {isL : Bool} (h : SeesD G s.items v isL s.guard σ Z H) (F : FrOk G Z H σ fr ph) (hg : guardOk s fr = true) : ∃ a vs, v = .ref a ∧ (if isL = true then SqL G.K H a vs else SqT G.K H a vs) ∧ RDs G Z H s.items vs := h.use F (guard_at hg)
theorem src_list {s : Src} {a : Addr} (hp : s.pairs = false) : SrcOk G s (Itl G.K a) (fun σ Z H => SeesD G s.items (.ref a) true s.guard σ Z H) where
  sub := fun h st => h.sub st
  sig := fun {σ σ' Z H} h e => by
    unfold SeesD at *
    split at h
    · exact h
    · rename_i i t q
      obtain ⟨h1, h2, h3, h4⟩ := h
      exact ⟨h1, by rw [e i t q]; exact h2, h3, h4⟩
  at_ := fun {σ Z H fr ph} h F hg i => by
    obtain ⟨a', vs, ea, hs, rs⟩ := items_of h F hg
    cases ea
    have hs : SqL G.K H a vs := hs
    refine ⟨fun d ed => ?_, fun hl => ⟨vs, hs, by rw [← rs.length]; exact hl⟩⟩
    obtain ⟨x, ex, rx⟩ := rs.get ed
    refine ⟨⟨vs, x, hs, ex⟩, fun y H' hy => ?_⟩
    obtain ⟨rfl, hy⟩ := hy
    have := hy vs hs
    rw [ex] at this
    cases this
    exact ⟨Grow.refl, by unfold ItemR; rw [hp]; exact rx⟩
theorem src_tup {s : Src} {a : Addr} (hp : s.pairs = false) : SrcOk G s (Itt G.K a) (fun σ Z H => SeesD G s.items (.ref a) false s.guard σ Z H) where
  sub := fun h st => h.sub st
  sig := fun {σ σ' Z H} h e => by
    unfold SeesD at *
    split at h
    · exact h
    · rename_i i t q
      obtain ⟨h1, _⟩ := h
      cases h1
  at_ := fun {σ Z H fr ph} h F hg i => by
    obtain ⟨a', vs, ea, hs, rs⟩ := items_of h F hg
    cases ea
    have hs : SqT G.K H a vs := hs
    refine ⟨fun d ed => ?_, fun hl => ⟨vs, hs, by rw [← rs.length]; exact hl⟩⟩
    obtain ⟨x, ex, rx⟩ := rs.get ed
    refine ⟨⟨vs, x, hs, ex⟩, fun y H' hy => ?_⟩
    obtain ⟨rfl, hy⟩ := hy
    have := hy vs hs
    rw [ex] at this
    cases this
    exact ⟨Grow.refl, by unfold ItemR; rw [hp]; exact rx⟩
theorem pi_walk (hK : X.K = G.K) {e : Expr} (hw : PE X e (tWk G W (evWalk E sc n e))) : PI X tg e (tSrc G W (evWalk E sc n e)) := by
  refine piI (pi_seq hw) fun σ H R ⟨Z, fr, ph, F, h⟩ => ⟨Z, fr, ph, F, GR.mono h (fun _ _ z => z) fun s fr1 h1 => fun v H1 Z1 ph1 isL F1 s1 sd hp hgd => ?_⟩
  -- what is seen now
  have val : ∃ a, v = .ref a ∧ (if isL = true then (∃ xs, SqL G.K H1 a xs) else ∃ xs, SqT G.K H1 a xs) := by
    obtain ⟨a, vs, ea, hs, _⟩ := items_of sd F1 hgd
    refine ⟨a, ea, ?_⟩
    cases isL with
    | true => exact ⟨vs, hs⟩
    | false => exact ⟨vs, hs⟩
  obtain ⟨a, rfl, hv⟩ := val
  rw [hK]
  cases isL with
  | true => exact ⟨a, rfl, .inl ⟨hv, h1 _ H1 Z1 ph1 _ F1 s1 sd (src_list hp)⟩⟩
  | false => exact ⟨a, rfl, .inr ⟨hv, h1 _ H1 Z1 ph1 _ F1 s1 sd (src_tup hp)⟩⟩
end Bw

set_option maxHeartbeats 4000000
namespace Bw
open PySem PySem.Spec PyProof.Rows L2
set_option maxHeartbeats 1000000 in
theorem meets_enumerate_newT (l : Addr) (items : Array Value) :
    Meets (Builtin.«enumerate.__new__» ⟨[.type "enumerate", .ref l], []⟩) (fun _ R s => s.heap.IsTuple l items ∧
      R (.ok (.ret (.ref (s.heap.push { cls := .type "tuple_iterator", data := .fields #[.ref l, .int 0 0] }).objs.size)))
        { s with heap := (s.heap.push { cls := .type "tuple_iterator", data := .fields #[.ref l, .int 0 0] }).push { cls := .type "enumerate", data := .fields #[.none, .bool false, .ref s.heap.objs.size, rawInt 0, .none, .none] } }) :=
  .of_wp fun prog w A R s h => by
    obtain ⟨hp, g, d, tk, os⟩ := s; obtain ⟨hl, h⟩ := h
    have hsub := sub_enumerate
    wp_walk
    refine wpAny_stack_any fun st => wpAny_pure ?_
    split
    · rename_i c _ _ _ _ _
      cases (c == Value.type "enumerate")
      · wp_walk using wpAny_pyIter_tuple hl
        exact ⟨_, rfl, h⟩
      · wp_walk using wpAny_pyIter_tuple hl
        exact ⟨_, rfl, h⟩
    · wp_walk using wpAny_pyIter_tuple hl
      exact ⟨_, rfl, h⟩
section
variable {prog : Program} {w : World} {A : Around} {E : Value → Shared → Prop} {s : Shared}
theorem call_enumerate_tuple {l : Addr} {items : Array Value} {Q : Value → Shared → Prop} (hL : s.heap.IsTuple l items)
    (h : ∀ h', IsEnum h' (s.heap.objs.size + 1) s.heap.objs.size 0 .none → h'.IsTupleIter s.heap.objs.size l 0 → h'.objs.size = s.heap.objs.size + 2 →
      (∀ b o, s.heap.get? b = some o → h'.get? b = some o) → Q (.ref (s.heap.objs.size + 1)) { s with heap := h' }) :
    wpAny (model prog w) A (call (.type "enumerate") [.ref l]) Q E s := by
  refine callType_new F.called_enumerate (by decide) (F.typeCall_enumerate_1 _) (F.newCall_enumerate_1 _) (fun obj => F.args_object_init_2 obj _) F.entry_enumerate_new
    (meets_enumerate_newT l items) ⟨hL, ?_⟩
  have hz : (s.heap.push { cls := .type "tuple_iterator", data := .fields #[.ref l, .int 0 0] }).objs.size = s.heap.objs.size + 1 := Heap.size_push ..
  show _ ∧ _
  rw [hz]
  have he : IsEnum ((s.heap.push { cls := .type "tuple_iterator", data := .fields #[.ref l, .int 0 0] }).push
      { cls := .type "enumerate", data := .fields #[.none, .bool false, .ref s.heap.objs.size, rawInt 0, .none, .none] }) (s.heap.objs.size + 1) s.heap.objs.size 0 .none := by
    have := Heap.get?_push_size (s.heap.push { cls := .type "tuple_iterator", data := .fields #[.ref l, .int 0 0] })
      (o := { cls := .type "enumerate", data := .fields #[.none, .bool false, .ref s.heap.objs.size, rawInt 0, .none, .none] }) rfl
    rw [hz] at this; exact this
  refine ⟨⟨_, he, rfl⟩, h _ he ⟨_, Heap.get?_push_of_some _ (Heap.get?_push_size _ rfl), rfl, rfl⟩ (by rw [Heap.size_push, hz]) fun b o x => Heap.get?_push_of_some _ (Heap.get?_push_of_some _ x)⟩
theorem enum_endT {e it l : Addr} {i : Nat} {items : Array Value} {old : Value} {Q : Option Value → Shared → Prop} (hh : A.handled = none)
    (he : IsEnum s.heap e it i old) (hit : s.heap.IsTupleIter it l i) (hl : s.heap.IsTuple l items) (hx : items[i]? = none)
    (hQ : ∀ h', Heap.ExtBut it s.heap h' → Q none { s with heap := h' }) : wpAny (model prog w) A (pyNext (.ref e)) Q E s := by
  have hT : s.TypeIs (.ref e) "enumerate" := ⟨_, he, rfl⟩
  unfold pyNext
  refine wpAny_bind (wpAny_attempt (wpAny_callSpecial?_slot (name := Str.ofString "__next__") hT F.slot_enumerate_next
    (wpAny_call_entry F.slot_enumerate_next hT F.entry_enumerate_next ?_ (F.args_enumerate_next_1 _))))
  show wpAny _ _ (field (.ref e) 2 >>= _) _ _ _
  refine wpAny_bind (wpAny_field he rfl (x := .ref it) rfl ?_)
  refine wpAny_bind (wpAny_nextOf_tuple_end hh hit hl hx fun h' x he' hx' => ?_)
  obtain ⟨o, ho, hc⟩ := hx'
  refine wpAny_bind (wpAny_isInstance (T := "StopIteration") (b := true) ⟨o, ho, hc⟩ isSubtype_stop ?_)
  exact wpAny_pure (hQ _ he')
end
/-- the tuple at a, each item in a new pair -/
def IteT (K : PySem.W.Frag) (a : Addr) : It :=
  ⟨fun i H => ∃ (xs : List V) (x : V), SqT K H a xs ∧ xs[i]? = some x, fun i H v H' => ∃ T x, v = .ref T ∧ H T = none ∧ H' = upd H T (.tup [.int (i : Nat), x]) ∧ ∀ xs, SqT K H a xs → xs[i]? = some x, fun i H => ∃ xs : List V, SqT K H a xs ∧ xs.length ≤ i⟩
theorem turn_enumT {P : Program} {w : World} {K : PySem.W.Frag} {elts : List Expr} {kk : Nat} {tpos : Pos} (a e it : Addr) :
    Turn P w K (.Tuple elts kk tpos) (IteT K a) [e, it] e (fun i h => (∃ old, IsEnum h e it ((i : Nat) : Int) old) ∧ h.IsTupleIter it a i ∧ e ≠ it ∧ a ≠ it ∧ e ≠ a) where
  mem := by simp
  obj := fun i h st b hb => by
    obtain ⟨⟨old, he⟩, ⟨o, ho, hc, hd⟩, _⟩ := st
    have e' : b = e ∨ b = it := by simpa using hb
    rcases e' with z | z
    · rw [z]; exact ⟨_, he, fun v q => nomatch q⟩
    · rw [z]; exact ⟨o, ho, fun v q => by rw [hd] at q; cases q⟩
  keep := fun i h h' st k => let ⟨⟨old, he⟩, hi, hne⟩ := st; ⟨⟨old, k e (by simp) _ he⟩, hi.at fun o q => k it (by simp) o q, hne⟩
  item := by
    intro X hP hw hK hc i pins s σ H E I hf st hg
    subst hP hw hK
    obtain ⟨⟨old, he⟩, hit, hne, hai, hea⟩ := st
    obtain ⟨xs, x, hq, hx⟩ := hg
    obtain ⟨its, rv, p, hz⟩ := I.tuple hq
    obtain ⟨u, hu, ru⟩ := rv.get hx
    have hel : e < s.heap.objs.size := Heap.lt_size he
    have hil : it < s.heap.objs.size := by obtain ⟨_, q, _⟩ := hit; exact Heap.lt_size q
    have hlt : i < its.toArray.size := by
      have := (List.getElem?_eq_some_iff.mp hu).1
      simpa using this
    refine wpAny_pyNext_enum_itemD (Draws.tuple (A := X.A.in1) (I.ok.hd hc) it a hai its.toArray) he ⟨hit, show s.heap.IsTuple a its.toArray from p⟩ hlt hne (by simp [hne, hea]) fun u' h' tk hu' ho hst hT hsz hk => ?_
    have eu : u' = u := by
      have h1 : its.toArray[i]? = some u' := hu'
      rw [List.getElem?_toArray, hu] at h1
      exact (Option.some.inj h1).symm
    subst eu
    refine ⟨_, rfl, wpAny_letOwnedTupleGo_enum (s := { s with heap := h', toks := tk + 1 }) ho fun h'' he' sb => ?_⟩
    have hT2 : h''.get? s.heap.objs.size = some { cls := .type "tuple", data := .seq #[.int i tk, u'] } := (sb.2 _ (Nat.ne_of_gt hel)).trans hT
    have new : ObjOk X.prog X.w (upd H s.heap.objs.size (.tup [.int (i : Nat), x])) h'' s.heap.objs.size (.tup [.int (i : Nat), x]) :=
      ⟨by show 2 ≤ sizeLine; decide, [.int i tk, u'], .cons ⟨_, rfl⟩ (.cons ru .nil), ⟨_, hT2, rfl, _, rfl⟩⟩
    have I1 : Inv X pins σ (upd H s.heap.objs.size (.tup [.int (i : Nat), x])) { s with heap := h'', toks := tk + 1 } :=
      I.turnedNew (ch := [e, it]) (fun b ob hb q => (sb.2 b (fun z => hb (by simp [z]))).trans (hk b ob (fun z => hb (by simp [z])) (fun z => hb (by simp [z])) q)) hf (Nat.le_refl _) new
    refine ⟨.ref s.heap.objs.size, _, I1, rfl, ⟨_, x, rfl, I.hok.fresh (Nat.le_refl _), rfl, fun ys hy => by rw [I.tuple_inj hy hq]; exact hx⟩, ⟨⟨u', ?_⟩, hst.1.at fun o q => (sb.2 it (Ne.symm hne)).trans q, hne, hai, hea⟩, fun b hb => ?_⟩
    · have e1 : ((i + 1 : Nat) : Int) = (i : Int) + 1 := by omega
      rw [e1]; exact he'
    · have hb' : b < s.heap.objs.size := by
        have e' : b = e ∨ b = it := by simpa using hb
        rcases e' with z | z
        · rw [z]; exact hel
        · rw [z]; exact hil
      rw [upd_ne (Nat.ne_of_lt hb')]
      exact (hf b hb).1
  done := by
    intro X hP hw hK hc i pins s σ H E I hf st hg
    subst hP hw hK
    obtain ⟨⟨old, he⟩, hit, hne, hai, hea⟩ := st
    obtain ⟨xs, hq, hx⟩ := hg
    obtain ⟨its, rv, p, hz⟩ := I.tuple hq
    obtain ⟨f0, f1, f2, f3, f4, f5⟩ := hf it (by simp)
    have hl := rv.length
    exact enum_endT (I.ok.hd hc) he hit (show s.heap.IsTuple a its.toArray from p) (by simp; omega) fun h' eb => ⟨rfl, I.turned (t' := s.toks) (fun b o hb q => eb b o hb q) f0 f1 f3 f4 f5⟩
  self := fun A i s Q E st h => let ⟨⟨_, he⟩, _⟩ := st; wpAny_pyIter_enum he h
def iEnumA (K : PySem.W.Frag) (te : TE) : TI := fun σ H R => te σ H fun v H1 => ∃ a xs, v = .ref a ∧ ((SqL K H1 a xs ∧ R (Ite K a) H1) ∨ (SqT K H1 a xs ∧ R (IteT K a) H1))
theorem pi_enumA {X : Cx} {e : Expr} {te : TE} {p pos tpos : Pos} {elts : List Expr} {kk : Nat} (hg : Gl X "enumerate") (hm : X.mg "enumerate" = none) (he : PE X e te) (hs : starEach [e] X.env = [(false, eval e X.env)]) :
    PI X (.Tuple elts kk tpos) (.Call (.Name "enumerate" p) [e] [] pos) (iEnumA X.K te) := by
  refine ⟨fun pins s σ H R I h => ?_⟩
  refine Call_ (ld_blt I hg hm boot_enumerate (PyProof.Rows.callWith_type1 (args_cons (thn (he.run pins s σ H _ I h) fun u s1 ⟨v, H1, I1, r1, q1⟩ => args_nil ?_) hs) hs rfl))
  obtain ⟨a, xs, ex, hq⟩ := q1
  subst ex
  cases r1
  rcases hq with ⟨hq, q⟩ | ⟨hq, q⟩
  · obtain ⟨its, rv, p', hz⟩ := I1.list hq
    refine call_enumerate_list p'.isList fun h' he hit hsz hk => wpAny_pyIter_enum he ?_
    have I2 : Inv X pins σ H1 { s1 with heap := h' } := I1.kept (t' := s1.toks) hk
    refine ⟨s1.heap.objs.size + 1, [s1.heap.objs.size + 1, s1.heap.objs.size], _, _, H1, rfl, I2, turn_enum a (s1.heap.objs.size + 1) s1.heap.objs.size, ⟨⟨.none, he⟩, hit, Nat.succ_ne_self _⟩, fun b hb => ?_, q⟩
    have e' : b = s1.heap.objs.size + 1 ∨ b = s1.heap.objs.size := by simpa using hb
    have hle : s1.heap.objs.size ≤ b := by
      rcases e' with z | z
      · rw [z]; exact Nat.le_add_right _ _
      · rw [z]; exact Nat.le_refl _
    exact I1.fpOk hle (I1.hok.fresh hle)
  · obtain ⟨its, rv, p', hz⟩ := I1.tuple hq
    have hal : a < s1.heap.objs.size := by obtain ⟨o, ho, _⟩ := p'; exact Heap.lt_size ho
    refine call_enumerate_tuple (show s1.heap.IsTuple a its.toArray from p') fun h' he hit hsz hk => wpAny_pyIter_enum he ?_
    have I2 : Inv X pins σ H1 { s1 with heap := h' } := I1.kept (t' := s1.toks) hk
    refine ⟨s1.heap.objs.size + 1, [s1.heap.objs.size + 1, s1.heap.objs.size], _, _, H1, rfl, I2, turn_enumT a (s1.heap.objs.size + 1) s1.heap.objs.size, ⟨⟨.none, he⟩, hit, Nat.succ_ne_self _, Nat.ne_of_lt hal, Nat.ne_of_gt (Nat.lt_succ_of_lt hal)⟩, fun b hb => ?_, q⟩
    have e' : b = s1.heap.objs.size + 1 ∨ b = s1.heap.objs.size := by simpa using hb
    have hle : s1.heap.objs.size ≤ b := by
      rcases e' with z | z
      · rw [z]; exact Nat.le_add_right _ _
      · rw [z]; exact Nat.le_refl _
    exact I1.fpOk hle (I1.hok.fresh hle)
end Bw

set_option maxHeartbeats 4000000
namespace Bw
open PySem PySem.Spec PyProof.Rows L2
variable {G : Gx} {E : Ev} {X : Cx} {sc : Scope} {W : WX} {Z Z' Z0 Z1 Z2 : Addr → Prop} {H H' H0 H1 H2 : Hp} {σ σ' : L2.St} {fr fr' fr1 fr2 : Fr} {ph ph' ph0 ph1 ph2 pa' : Nat → List Addr} {o : Opd} {v : V} {d : D} {g g1 g2 gh : List Addr} {t : T} {n : Nat} {tg : Expr}
theorem sees_sig {ds : List D} {isL : Bool} {gd : Option (Nat × T)} (h : SeesD G ds v isL gd σ Z H) (e : ∀ i t, gd = some (i, t) → σ'[i]? = σ[i]?) : SeesD G ds v isL gd σ' Z H := by
  unfold SeesD at *
  split at h
  · exact h
  · rename_i i t
    obtain ⟨h1, h2, h3, h4⟩ := h
    exact ⟨h1, by rw [e i t rfl]; exact h2, h3, h4⟩
theorem enum_at {ds : List D} {i : Nat} {d : D} (e : (enumD ds)[i]? = some d) : ∃ d0, ds[i]? = some d0 ∧ d = .tup [.int (i : Nat), d0] := by
  unfold enumD at e
  rw [List.getElem?_map, List.getElem?_zipIdx, Option.map_eq_some_iff] at e
  obtain ⟨p, e, e2⟩ := e
  rw [Option.map_eq_some_iff] at e
  obtain ⟨d0, e, e3⟩ := e
  subst e3
  exact ⟨d0, e, by rw [← e2]; simp⟩
theorem enum_len {ds : List D} : (enumD ds).length = ds.length := by
  unfold enumD
  rw [List.length_map, List.length_zipIdx]
theorem src_range {lo hi : Int} : SrcOk G ⟨rangeI lo hi, none, false⟩ (Itr lo (hi - lo).toNat) (fun _ _ _ => True) where
  sub := fun _ _ => trivial
  sig := fun _ _ => trivial
  at_ := fun {σ Z H fr ph} h F hg i => by
    refine ⟨fun d ed => ?_, fun hl => ?_⟩
    · unfold rangeI at ed
      rw [List.getElem?_map, Option.map_eq_some_iff] at ed
      obtain ⟨k, ek, ed⟩ := ed
      have hk := (List.getElem?_eq_some_iff.mp ek).1
      rw [List.length_range] at hk
      rw [List.getElem?_range hk] at ek
      cases ek
      refine ⟨hk, fun x H' hy => ?_⟩
      obtain ⟨rfl, rfl⟩ := hy
      refine ⟨Grow.refl, ?_⟩
      unfold ItemR
      rw [if_neg (by simp), ← ed]
      exact .int _
    · unfold rangeI at hl
      rw [List.length_map, List.length_range] at hl
      exact hl
theorem src_enumL {ds : List D} {gd : Option (Nat × T)} {a : Addr} : SrcOk G ⟨enumD ds, gd, true⟩ (Ite G.K a) (fun σ Z H => SeesD G ds (.ref a) true gd σ Z H) where
  sub := fun h st => h.sub st
  sig := fun h e => sees_sig h e
  at_ := fun {σ Z H fr ph} h F hg i => by
    obtain ⟨a', vs, ea, hs, rs⟩ := h.use F (guard_at hg)
    cases ea
    have hs : SqL G.K H a vs := hs
    refine ⟨fun d ed => ?_, fun hl => ⟨vs, hs, by rw [← rs.length, ← enum_len]; exact hl⟩⟩
    obtain ⟨d0, e0, rfl⟩ := enum_at ed
    obtain ⟨x, ex, rx⟩ := rs.get e0
    refine ⟨⟨vs, x, hs, ex⟩, fun y H' hy => ?_⟩
    obtain ⟨T, x', rfl, hn, rfl, hy⟩ := hy
    have := hy vs hs
    rw [ex] at this
    cases this
    refine ⟨keep_upd hn, ?_⟩
    unfold ItemR
    rw [if_pos rfl]
    exact ⟨T, _, _, rfl, rfl, .inl (.inl upd_same), .cons (.int _) (.cons (rx.mono (Grow.sub (keep_upd hn))) .nil)⟩
theorem src_enumT {ds : List D} {gd : Option (Nat × T)} {a : Addr} : SrcOk G ⟨enumD ds, gd, true⟩ (IteT G.K a) (fun σ Z H => SeesD G ds (.ref a) false gd σ Z H) where
  sub := fun h st => h.sub st
  sig := fun h e => sees_sig h e
  at_ := fun {σ Z H fr ph} h F hg i => by
    obtain ⟨a', vs, ea, hs, rs⟩ := h.use F (guard_at hg)
    cases ea
    have hs : SqT G.K H a vs := hs
    refine ⟨fun d ed => ?_, fun hl => ⟨vs, hs, by rw [← rs.length, ← enum_len]; exact hl⟩⟩
    obtain ⟨d0, e0, rfl⟩ := enum_at ed
    obtain ⟨x, ex, rx⟩ := rs.get e0
    refine ⟨⟨vs, x, hs, ex⟩, fun y H' hy => ?_⟩
    obtain ⟨T, x', rfl, hn, rfl, hy⟩ := hy
    have := hy vs hs
    rw [ex] at this
    cases this
    refine ⟨keep_upd hn, ?_⟩
    unfold ItemR
    rw [if_pos rfl]
    exact ⟨T, _, _, rfl, rfl, .inl (.inl upd_same), .cons (.int _) (.cons (rx.mono (Grow.sub (keep_upd hn))) .nil)⟩
theorem src_revL {ds : List D} {gd : Option (Nat × T)} {a : Addr} {k : Nat} (hk : k = ds.length) : SrcOk G ⟨ds.reverse, gd, false⟩ (Itv G.K a k) (fun σ Z H => SeesD G ds (.ref a) true gd σ Z H) where
  sub := fun h st => h.sub st
  sig := fun h e => sees_sig h e
  at_ := fun {σ Z H fr ph} h F hg i => by
    obtain ⟨a', vs, ea, hs, rs⟩ := h.use F (guard_at hg)
    cases ea
    have hs : SqL G.K H a vs := hs
    refine ⟨fun d ed => ?_, fun hl => (by rw [List.length_reverse] at hl; rw [hk]; exact hl)⟩
    have hi : i < ds.length := by
      have := (List.getElem?_eq_some_iff.mp ed).1
      rw [List.length_reverse] at this
      exact this
    have ed : ds.reverse[i]? = some d := ed
    rw [List.getElem?_reverse hi] at ed
    obtain ⟨x, ex, rx⟩ := rs.get ed
    refine ⟨⟨by rw [hk]; exact hi, vs, x, hs, by rw [hk]; exact ex⟩, fun y H' hy => ?_⟩
    obtain ⟨rfl, hy⟩ := hy
    have := hy vs hs
    rw [hk, ex] at this
    cases this
    exact ⟨Grow.refl, rx⟩
theorem src_revT {ds : List D} {gd : Option (Nat × T)} {a : Addr} {k : Nat} (hk : k = ds.length) : SrcOk G ⟨ds.reverse, gd, false⟩ (RT.ItvT G.K a k) (fun σ Z H => SeesD G ds (.ref a) false gd σ Z H) where
  sub := fun h st => h.sub st
  sig := fun h e => sees_sig h e
  at_ := fun {σ Z H fr ph} h F hg i => by
    obtain ⟨a', vs, ea, hs, rs⟩ := h.use F (guard_at hg)
    cases ea
    have hs : SqT G.K H a vs := hs
    refine ⟨fun d ed => ?_, fun hl => (by rw [List.length_reverse] at hl; rw [hk]; exact hl)⟩
    have hi : i < ds.length := by
      have := (List.getElem?_eq_some_iff.mp ed).1
      rw [List.length_reverse] at this
      exact this
    have ed : ds.reverse[i]? = some d := ed
    rw [List.getElem?_reverse hi] at ed
    obtain ⟨x, ex, rx⟩ := rs.get ed
    refine ⟨⟨by rw [hk]; exact hi, vs, x, hs, by rw [hk]; exact ex⟩, fun y H' hy => ?_⟩
    obtain ⟨rfl, hy⟩ := hy
    have := hy vs hs
    rw [hk, ex] at this
    cases this
    exact ⟨Grow.refl, rx⟩
theorem evSrc_call {tt : Bool} {f : Expr} {as : List Expr} {p : Pos} : evSrc E sc (n + 1) tt (.Call f as [] p) = (if isGl E sc f "range" && nostar as then (match as with
      | [a] => (evO E sc n a).bind fun x => .ofO (range1 x.1)
      | [a, b] => (ev2 E sc n a b).bind fun xy => .ofO (range2 xy.1.1 xy.2.1)
      | _ => fun _ => .stuck)
    else if isGl E sc f "enumerate" && nostar as then (match as with
      | [a] => if tt then (evWalk E sc n a).bind fun s => .pure ⟨enumD s.items, s.guard, true⟩ else fun _ => .stuck
      | _ => fun _ => .stuck)
    else if isGl E sc f "reversed" && nostar as then (match as with
      | [a] => (evWalk E sc n a).bind fun s => .pure ⟨s.items.reverse, s.guard, false⟩
      | _ => fun _ => .stuck)
    else evWalk E sc n (.Call f as [] p)) := rfl
theorem fit_of {i : Int} (h : fit62 i = true) : -(2 ^ 62) ≤ i ∧ i < 2 ^ 62 := by
  unfold fit62 at h
  rw [Bool.and_eq_true] at h
  exact ⟨of_decide_eq_true h.1, of_decide_eq_true h.2⟩
theorem c_srcCall (L : Lk G E X sc) (ho : ∀ m, m ≤ n → ∀ e, PE X e (tO G W (evO E sc m e))) (hw : ∀ e, PE X e (tWk G W (evWalk E sc n e))) {f : Expr} {as : List Expr} {p : Pos} : PI X tg (.Call f as [] p) (tSrc G W (evSrc E sc (n + 1) (isTup tg) (.Call f as [] p))) := by
  refine ⟨fun pins s σ H R I ⟨Z, fr, ph, F, h⟩ => ?_⟩
  rw [evSrc_call] at h
  split at h
  · rename_i hc
    rw [Bool.and_eq_true] at hc
    obtain ⟨p1, rfl, hg, hb⟩ := isGl_name hc.1
    match as, hc.2, h with
    | [], _, h => exact h.elim
    | [a], hst, h =>
      have hst := (nostar_cons hst X.env).1
      refine (pi_range1 (isGlob_gl hg L.sc) (L.blt _ hb) (pa_cons (ho n (Nat.le_refl _) a) pa_nil hst) hst).run pins s σ H R I ?_
      refine ⟨Z, fr, ph, F, GR.mono (GR.bind h) (fun _ _ z => z) fun x fr1 h1 => fun v H1 Z1 ph1 F1 r1 s1 => ?_⟩
      obtain ⟨sr, e, h2⟩ := h1.ofO
      have ra := r1.any
      cases hx : x.1 with
      | int j =>
        rw [hx] at e ra
        rw [range1] at e
        split at e
        · rename_i hf
          cases e
          cases ra
          obtain ⟨q1, q2⟩ := fit_of hf
          refine ⟨j, rfl, q1, q2, ?_⟩
          have := h2 (Itr 0 (j - 0).toNat) H1 Z1 ph1 (fun _ _ _ => True) F1 s1 trivial src_range
          rw [Int.sub_zero] at this
          exact this
        · cases e
      | _ => rw [hx] at e; cases e
    | [a, b], hst, h =>
      obtain ⟨hst, hs2⟩ := nostar_cons hst X.env
      have hst2 := (nostar_cons hs2 X.env).1
      cases n with
      | zero => exact h.elim
      | succ k =>
      refine (pi_range2 (isGlob_gl hg L.sc) (L.blt _ hb) (pa_cons (ho k (by omega) a) (pa_cons (pe_o2 L (ho k (by omega) b)) pa_nil hst2) hst) (by rw [hst, hst2]; rfl) hst2).run pins s σ H R I ?_
      refine two_eff (Q := fun _ _ => True) (r := fun v1 v2 H2 _ => ∃ i j : Int, [v1, v2] = [V.int i, V.int j] ∧ (-(2 ^ 62) ≤ i ∧ i < 2 ^ 62 ∧ -(2 ^ 62) ≤ j ∧ j < 2 ^ 62) ∧ R (Itr i (j - i).toNat) H2) F (GR.bind h) fun x y v1 v2 H2 Z2 fr2 ph2 F2 r1 r2 st p => ?_
      obtain ⟨sr, e, p⟩ := GR.ofO p
      have ra1 := r1.any
      have ra2 := r2.any
      dsimp only at e
      cases hx : x.1 with
      | int i =>
        cases hy : y.1 with
        | int j =>
          rw [hx] at ra1
          rw [hy] at ra2
          rw [hx, hy, range2] at e
          split at e
          · rename_i hf
            cases e
            cases ra1
            cases ra2
            rw [Bool.and_eq_true] at hf
            obtain ⟨q1, q2⟩ := fit_of hf.1
            obtain ⟨q3, q4⟩ := fit_of hf.2
            exact ⟨i, j, rfl, ⟨q1, q2, q3, q4⟩, p _ H2 Z2 ph2 (fun _ _ _ => True) F2 st trivial src_range⟩
          · cases e
        | _ => rw [hx, hy] at e; cases e
      | _ => rw [hx] at e; cases e
    | a :: b :: c :: r, _, h => exact h.elim
  split at h
  · rename_i hc
    rw [Bool.and_eq_true] at hc
    obtain ⟨p1, rfl, hg, hb⟩ := isGl_name hc.1
    match as, hc.2, h with
    | [], _, h => exact h.elim
    | [a], hst, h =>
      have hst := (nostar_cons hst X.env).1
      simp only at h
      cases tg with
      | Tuple elts kk tpos =>
        rw [show isTup (.Tuple elts kk tpos) = true from rfl, if_pos rfl] at h
        refine (pi_enumA (isGlob_gl hg L.sc) (L.blt _ hb) (hw a) hst).run pins s σ H R I ?_
        refine ⟨Z, fr, ph, F, GR.mono h.bind (fun _ _ z => z) fun s0 fr1 h1 => fun v H1 Z1 ph1 isL F1 s1 sd hp hgd => ?_⟩
        obtain ⟨a', vs, rfl, hs, _⟩ := sd.use F1 (guard_at hgd)
        rw [L.K]
        cases isL with
        | true => exact ⟨a', vs, rfl, .inl ⟨hs, h1 _ H1 Z1 ph1 _ F1 s1 sd src_enumL⟩⟩
        | false => exact ⟨a', vs, rfl, .inr ⟨hs, h1 _ H1 Z1 ph1 _ F1 s1 sd src_enumT⟩⟩
      | _ => exact h.elim
    | a :: b :: r, _, h => exact h.elim
  split at h
  · rename_i hc
    rw [Bool.and_eq_true] at hc
    obtain ⟨p1, rfl, hg, hb⟩ := isGl_name hc.1
    match as, hc.2, h with
    | [], _, h => exact h.elim
    | [a], hst, h =>
      have hst := (nostar_cons hst X.env).1
      simp only at h
      refine (RT.pi_revA (isGlob_gl hg L.sc) (L.blt _ hb) (hw a) hst).run pins s σ H R I ?_
      refine ⟨Z, fr, ph, F, GR.mono h.bind (fun _ _ z => z) fun s0 fr1 h1 => fun v H1 Z1 ph1 isL F1 s1 sd hp hgd => ?_⟩
      obtain ⟨a', vs, rfl, hs, rs⟩ := sd.use F1 (guard_at hgd)
      rw [L.K]
      cases isL with
      | true => exact ⟨a', vs, rfl, .inl ⟨hs, h1 _ H1 Z1 ph1 _ F1 s1 sd (src_revL rs.length.symm)⟩⟩
      | false => exact ⟨a', vs, rfl, .inr ⟨hs, h1 _ H1 Z1 ph1 _ F1 s1 sd (src_revT rs.length.symm)⟩⟩
    | a :: b :: r, _, h => exact h.elim
  · exact (pi_walk L.K (hw _)).run pins s σ H R I ⟨Z, fr, ph, F, h⟩
theorem c_src (L : Lk G E X sc) (ho : ∀ m, m ≤ n → ∀ e, PE X e (tO G W (evO E sc m e))) (hw : ∀ e, PE X e (tWk G W (evWalk E sc n e))) (iter : Expr) : PI X tg iter (tSrc G W (evSrc E sc (n + 1) (isTup tg) iter)) := by
  by_cases hc : ∃ f as p, iter = .Call f as [] p
  · obtain ⟨f, as, p, rfl⟩ := hc
    exact c_srcCall L ho hw
  · have e : evSrc E sc (n + 1) (isTup tg) iter = evWalk E sc n iter := by
      cases iter with
      | Call f as ks p =>
        cases ks with
        | nil => exact absurd ⟨f, as, p, rfl⟩ hc
        | cons _ _ => rfl
      | _ => rfl
    rw [e]
    exact pi_walk L.K (hw iter)
end Bw

set_option maxHeartbeats 4000000
namespace Bw
open PySem PySem.Spec PyProof.Rows L2
variable {G : Gx} {E : Ev} {X : Cx} {sc : Scope} {W : WX} {Z Z' Z0 Z1 Z2 : Addr → Prop} {H H' H0 H1 H2 : Hp} {σ σ' : L2.St} {fr fr' fr1 fr2 : Fr} {ph ph' ph0 ph1 ph2 pa' : Nat → List Addr} {o : Opd} {v : V} {d : D} {g g1 g2 gh : List Addr} {t : T} {n : Nat} {tg : Expr} {own : List Nat}
theorem stp_sub (k : Grow H H') (h : ∀ j a, a ∈ ph' j → a ∈ ph j) : Stp Z H ph Z H' ph' [] :=
  ⟨fun _ z => z, fun a o e _ => k a o e, fun a o e => ⟨o, k a o e⟩, fun a _ e => k a _ e, fun a _ _ e => k a _ e, fun i a m => .inl ⟨i, h i a m⟩, (fun _ m => nomatch m), fun _ z => .inl z⟩
/-! ### wiped slots -/
def phW (ph : Nat → List Addr) (own : List Nat) : Nat → List Addr := fun i => if i ∈ own then [] else ph i
theorem phW_sub {j : Nat} {a : Addr} (m : a ∈ phW ph own j) : a ∈ ph j := by
  unfold phW at m
  split at m
  · cases m
  · exact m
theorem wipeF_len : ∀ own : List Nat, (wipeF fr own).length = fr.length
  | [] => rfl
  | i :: r => by rw [wipeF, List.length_set, wipeF_len r]
theorem wipeF_at : ∀ {own : List Nat} {i : Nat}, (wipeF fr own)[i]? = if i ∈ own then (if i < fr.length then some none else none) else fr[i]?
  | [], i => by simp [wipeF]
  | j :: r, i => by
    rw [wipeF]
    by_cases q : j = i
    · subst q
      by_cases hi : j < fr.length
      · rw [List.getElem?_set_self (by rw [wipeF_len]; exact hi), if_pos List.mem_cons_self, if_pos hi]
      · rw [List.getElem?_eq_none (by rw [List.length_set, wipeF_len]; omega), if_pos List.mem_cons_self, if_neg hi]
    · rw [List.getElem?_set_ne q, wipeF_at]
      by_cases m : i ∈ r
      · rw [if_pos m, if_pos (List.mem_cons_of_mem _ m)]
      · rw [if_neg m, if_neg (fun z => (List.mem_cons.mp z).elim (fun e => q e.symm) m)]
theorem wipe_at : ∀ {own : List Nat} {i : Nat}, (wipe σ own)[i]? = if i ∈ own then (if i < σ.length then some none else none) else σ[i]?
  | [], i => by simp [wipe]
  | j :: r, i => by
    rw [wipe]
    by_cases q : j = i
    · subst q
      by_cases hi : j < σ.length
      · rw [List.getElem?_set_self (by rw [wipe_length]; exact hi), if_pos List.mem_cons_self, if_pos hi]
      · rw [List.getElem?_eq_none (by rw [List.length_set, wipe_length]; omega), if_pos List.mem_cons_self, if_neg hi]
    · rw [List.getElem?_set_ne q, wipe_at]
      by_cases m : i ∈ r
      · rw [if_pos m, if_pos (List.mem_cons_of_mem _ m)]
      · rw [if_neg m, if_neg (fun z => (List.mem_cons.mp z).elim (fun e => q e.symm) m)]
theorem wipe_eq (hl : σ'.length = σ.length) (h : ∀ j, j ∉ own → σ'[j]? = σ[j]?) : wipe σ' own = wipe σ own := by
  apply List.ext_getElem?
  intro i
  rw [wipe_at, wipe_at, hl]
  by_cases m : i ∈ own
  · rw [if_pos m, if_pos m]
  · rw [if_neg m, if_neg m, h i m]
/-- the frame wiped: over any store that agrees beside own -/
theorem wipe_ok (F : FrOk G Z H σ' fr ph) (hl : σ'.length = σ.length) (h : ∀ j, j ∉ own → σ'[j]? = σ[j]?) : FrOk G Z H (wipe σ own) (wipeF fr own) (phW ph own) where
  len := by rw [wipeF_len, wipe_length, ← hl]; exact F.len
  at_ := fun i t e => by
    rw [wipeF_at] at e
    split at e
    · split at e <;> cases e
    · rename_i m
      obtain ⟨v, ev, r⟩ := F.at_ i t e
      unfold phW
      rw [wipe_at, if_neg m, if_neg m, ← h i m]
      exact ⟨v, ev, r⟩
  emp := fun i e => by
    unfold phW
    split
    · rfl
    · rename_i m
      exact F.emp i fun t e' => e t (by rw [wipeF_at, if_neg m]; exact e')
  nd := fun i => by
    unfold phW
    split
    · exact List.nodup_nil
    · exact F.nd i
  dj := fun i j a m1 m2 => F.dj i j a (phW_sub m1) (phW_sub m2)
  dz := fun i a m => F.dz i a (phW_sub m)
  zt := F.zt
theorem backF_len {old : Fr} : ∀ own : List Nat, (backF old fr own).length = fr.length
  | [] => rfl
  | i :: r => by rw [backF, List.length_set, backF_len r]
theorem backF_at {old : Fr} : ∀ {own : List Nat} {i : Nat}, (backF old fr own)[i]? = if i ∈ own then (if i < fr.length then some (old[i]?.join) else none) else fr[i]?
  | [], i => by simp [backF]
  | j :: r, i => by
    rw [backF]
    by_cases q : j = i
    · subst q
      by_cases hi : j < fr.length
      · rw [List.getElem?_set_self (by rw [backF_len]; exact hi), if_pos List.mem_cons_self, if_pos hi]
      · rw [List.getElem?_eq_none (by rw [List.length_set, backF_len]; omega), if_pos List.mem_cons_self, if_neg hi]
    · rw [List.getElem?_set_ne q, backF_at]
      by_cases m : i ∈ r
      · rw [if_pos m, if_pos (List.mem_cons_of_mem _ m)]
      · rw [if_neg m, if_neg (fun z => (List.mem_cons.mp z).elim (fun e => q e.symm) m)]
/-- the block's slots get back what they held: data, or nothing -/
theorem back_ok {old : Fr} (F0 : FrOk G Z0 H0 σ old ph0) (ho : ownOk old own = true) (F : FrOk G Z H (wipe σ own) fr ph) (st : Stp Z0 H0 ph1 Z H ph g) (hp : ∀ j a, a ∈ ph1 j → a ∈ ph0 j) : FrOk G Z H σ (backF old fr own) (phW ph own) where
  len := by rw [backF_len, F.len, wipe_length]
  at_ := fun i t e => by
    rw [backF_at] at e
    split at e
    · rename_i m
      split at e
      · rename_i hi
        unfold ownOk at ho
        rw [List.all_eq_true] at ho
        have := ho i m
        cases e2 : old[i]? with
        | none => rw [e2] at e; cases e
        | some x =>
          cases x with
          | none => rw [e2] at e; cases e
          | some t' =>
            rw [e2] at e this
            cases e
            cases t with
            | d x =>
              obtain ⟨v, ev, r⟩ := F0.at_ i _ e2
              generalize ph0 i = gp at r
              cases r with
              | d r =>
                refine ⟨v, ev, ?_⟩
                unfold phW
                rw [if_pos m]
                exact .d (r.mono ⟨fun a o p q => ⟨st.z a p, st.keep a o q fun j mj => F0.dz j a (hp j a mj) p⟩, st.t, st.f⟩)
            | _ => cases this
      · cases e
    · rename_i m
      obtain ⟨v, ev, r⟩ := F.at_ i t e
      unfold phW
      rw [if_neg m]
      rw [wipe_at, if_neg m] at ev
      exact ⟨v, ev, r⟩
  emp := fun i e => by
    unfold phW
    split
    · rfl
    · rename_i m
      exact F.emp i fun t e' => e t (by rw [backF_at, if_neg m]; exact e')
  nd := fun i => by
    unfold phW
    split
    · exact List.nodup_nil
    · exact F.nd i
  dj := fun i j a m1 m2 => F.dj i j a (phW_sub m1) (phW_sub m2)
  dz := fun i a m => F.dz i a (phW_sub m)
  zt := F.zt
/-- a held object is written -/
theorem held_write {a : Addr} {o' : HO} {t t' : T} {gD g' : List Addr} (F : FrOk G Z H σ fr ph) (hv : Val G Z H ph t (.ref a) gD) (ha : a ∈ gD) (s : Stp Z0 H0 ph0 Z H ph gh) (hsub : ∀ b, b ∈ gD → b ∈ gh) (nz : ∀ b, b ∈ gh → ¬ Z b) (np : ∀ b, b ∈ gh → ∀ j, b ∉ ph j)
    (r : RT G Z (upd H a o') t' (.ref a) g') (nd : g'.Nodup) (sub : ∀ b, b ∈ g' → b ∈ gh) :
    FrOk G Z (upd H a o') σ fr ph ∧ Val G Z (upd H a o') ph t' (.ref a) g' ∧ Stp Z0 H0 ph0 Z (upd H a o') ph g' := by
  obtain ⟨oa, ea, ma⟩ := hv.rt.there a ha
  have hz : ¬ Z a := hv.dz a ha
  have net : ∀ b xs, H b = some (.tup xs) → b ≠ a := fun b xs e z => by subst z; rw [ea] at e; cases e; exact ma
  have nef : ∀ b ob u, H b = some (.frz ob u) → b ≠ a := fun b ob u e z => by subst z; rw [ea] at e; cases e; exact ma
  have hS : Sub Z H Z (upd H a o') := (sub_upd (g := []) ea ma hz (fun m => nomatch m)).s
  refine ⟨⟨F.len, fun j t e => ?_, F.emp, F.nd, F.dj, F.dz, fun b z => ?_⟩, ⟨r, nd, fun b m => nz b (sub b m), fun b m => np b (sub b m)⟩, ⟨s.z, fun b ob e n => ?_, fun b ob e => ?_, fun b xs e => ?_, fun b ob u e => ?_, s.new, fun b m => s.newg b (sub b m), s.zn⟩⟩
  · obtain ⟨v2, e2, r2⟩ := F.at_ j t e
    exact ⟨v2, e2, r2.mono ⟨hS, fun b ob m e => by rw [upd_ne (show b ≠ a from fun z => by subst z; exact hv.dp b ha j m)]; exact e⟩⟩
  · by_cases q : b = a
    · exact absurd z (q ▸ hz)
    · rw [upd_ne q]; exact F.zt b z
  · have e1 := s.keep b ob e n
    have q : b ≠ a := fun z => by
      subst z
      rcases s.newg b (hsub b ha) with ⟨j, m⟩ | m
      · exact n j m
      · rw [e] at m; cases m
    rw [upd_ne q]; exact e1
  · obtain ⟨o1, e1⟩ := s.there b ob e
    by_cases q : b = a
    · subst q; exact ⟨_, upd_same⟩
    · exact ⟨o1, by rw [upd_ne q]; exact e1⟩
  · have e1 := s.t b xs e
    rw [upd_ne (net b xs e1)]; exact e1
  · have e1 := s.f b ob u e
    rw [upd_ne (nef b ob u e1)]; exact e1
/-- a list that is held gets one item more -/
theorem held_push {D : Addr} {acc : List T} {gD gy : List Addr} {y : V} (F : FrOk G Z H σ fr ph) (hv : Val G Z H ph (.lst acc) (.ref D) gD) (hy : Val G Z H ph t y gy) (ap : ∀ a, a ∈ gD → a ∉ gy) (s : Stp Z0 H0 ph0 Z H ph (gD ++ gy)) :
    ∃ vacc, H D = some (.lst vacc) ∧ vacc.length = acc.length ∧ FrOk G Z (upd H D (.lst (vacc ++ [y]))) σ fr ph ∧ Val G Z (upd H D (.lst (vacc ++ [y]))) ph (.lst (acc ++ [t])) (.ref D) (gD ++ gy) ∧ Stp Z0 H0 ph0 Z (upd H D (.lst (vacc ++ [y]))) ph (gD ++ gy) := by
  have hrt := hv.rt
  have hnd := hv.nd
  have nz : ∀ b, b ∈ gD ++ gy → ¬ Z b := fun b m => (List.mem_append.mp m).elim (hv.dz b) (hy.dz b)
  have np : ∀ b, b ∈ gD ++ gy → ∀ j, b ∉ ph j := fun b m => (List.mem_append.mp m).elim (hv.dp b) (hy.dp b)
  cases hrt with
  | @lst _ _ vacc g0 ha hr =>
    refine ⟨vacc, ha, hr.length.symm, held_write F hv List.mem_cons_self s (fun b m => List.mem_append_left _ m) nz np ?_ ?_ (fun b m => m)⟩
    · have hD1 : D ∉ g0 := (List.nodup_cons.mp hnd).1
      have hD2 : D ∉ gy := ap D List.mem_cons_self
      exact .lst upd_same ((hr.append (RTs.one hy.rt)).mono (sub_upd ha True.intro (hv.dz D List.mem_cons_self) fun m => (List.mem_append.mp m).elim hD1 hD2))
    · exact List.nodup_append.mpr ⟨hnd, hy.nd, fun a m b m' e => by subst e; exact ap a m m'⟩
/-! ### targets -/
def gTg (G : Gx) (g : Sum Nat (List Nat)) : TG := fun x σ H Q => ∃ Z fr ph d pairs fr1, FrOk G Z H σ fr ph ∧ ItemR G Z H pairs d x ∧ storeTg g pairs d fr = some fr1 ∧ ∀ σ1 ph1, FrOk G Z H σ1 fr1 ph1 → σ1.length = σ.length → (∀ j, j ∉ tgIx g → σ1[j]? = σ[j]?) → (∀ j a, a ∈ ph1 j → a ∈ ph j) → Q σ1 H
/-- which names a block or a def may store -/
structure TgC (E : Ev) (X : Cx) (s0 : Scope) : Prop where
  N : X.N = E.N
  nd : X.N.Nodup
  loc : ∀ x, s0.names.lookup x = some .local → X.env.scope.names.lookup x = some .local
  cell : ∀ x, s0.names.lookup x = some .cell → X.env.scope.names.lookup x = some .cell ∧ X.fn x = true
theorem slotOf_at {N : List Str} {x : Str} {i : Nat} (h : slotOf N x = some i) : N[i]? = some x := by
  unfold slotOf at h
  split at h
  · rename_i e; cases h; exact e
  · cases h
theorem set_data (F : FrOk G Z H σ fr ph) {i : Nat} (r : RD G Z H d v) : ∃ ph1, FrOk G Z H (σ.set i (some v)) (fr.set i (some (.d d))) ph1 ∧ ∀ j a, a ∈ ph1 j → a ∈ ph j := by
  by_cases hi : i < fr.length
  · refine ⟨_, F.set (Val.of_rd r) hi, fun j a m => ?_⟩
    by_cases q : j = i
    · subst q; rw [setP_same] at m; cases m
    · rw [setP_ne q] at m; exact m
  · have h1 : fr.set i (some (.d d)) = fr := List.set_eq_of_length_le (by omega)
    have h2 : σ.set i (some v) = σ := List.set_eq_of_length_le (by rw [← F.len]; omega)
    rw [h1, h2]
    exact ⟨ph, F, fun _ _ m => m⟩
theorem pg_nm {s0 : Scope} (C : TgC E X s0) {x : Str} {p : Pos} {i : Nat} (hk : isLoc s0 x = true) (hi : slotOf E.N x = some i) : PG X (.Name x p) (gName i) := by
  have hn : X.N[i]? = some x := by rw [C.N]; exact slotOf_at hi
  unfold isLoc at hk
  split at hk
  · rename_i e
    exact pg_name C.nd hn (.inl (C.loc x e)) (.inr (C.loc x e))
  · rename_i e
    exact pg_name C.nd hn (.inr (C.cell x e).1) (.inl (C.cell x e).2)
  · cases hk
def gNames (is : List Nat) : TGs := match is with
  | [] => gNil
  | i :: r => gCons (gName i) (gNames r)
theorem assign_name {x : Str} {p : Pos} {es : List Expr} {env : Env} : (assignEach (.Name x p :: es) env).map (·.2) = assign (.Name x p) env :: (assignEach es env).map (·.2) ∧ (assignEach (.Name x p :: es) env).length = (assignEach es env).length + 1 ∧ ((assignEach es env).findIdx? (·.1) = none → (assignEach (.Name x p :: es) env).findIdx? (·.1) = none) := by
  refine ⟨rfl, rfl, fun h => ?_⟩
  show List.findIdx? (·.1) ((false, assign (.Name x p) env) :: assignEach es env) = none
  rw [List.findIdx?_cons]
  simp only [Bool.false_eq_true, if_false]
  rw [h]
  rfl
theorem pgs_names {s0 : Scope} (C : TgC E X s0) : ∀ {es : List Expr} {xs : List Str} {is : List Nat}, namesE es = some xs → (xs.mapM fun x => if isLoc s0 x then slotOf E.N x else none) = some is →
    PGs X es (gNames is) ∧ (assignEach es X.env).length = is.length ∧ (assignEach es X.env).findIdx? (·.1) = none
  | [], xs, is, e, h => by
    cases e
    simp at h
    subst h
    exact ⟨pgs_nil, rfl, rfl⟩
  | e :: es, xs, is, h1, h2 => by
    cases e with
    | Name x p =>
      rw [namesE] at h1
      cases e2 : namesE es with
      | none => rw [e2] at h1; cases h1
      | some ys =>
        rw [e2] at h1
        cases h1
        rw [List.mapM_cons] at h2
        by_cases hk : isLoc s0 x = true
        · rw [if_pos hk] at h2
          cases e3 : slotOf E.N x with
          | none => rw [e3] at h2; cases h2
          | some i =>
            rw [e3] at h2
            cases e4 : (ys.mapM fun x => if isLoc s0 x then slotOf E.N x else none) with
            | none => rw [e4] at h2; cases h2
            | some is' =>
              rw [e4] at h2
              cases h2
              obtain ⟨k1, k2, k3⟩ := pgs_names C e2 e4
              obtain ⟨a1, a2, a3⟩ := assign_name (x := x) (p := p) (es := es) (env := X.env)
              exact ⟨pgs_cons (pg_nm C hk e3) k1 a1, by rw [a2, k2]; rfl, a3 k3⟩
        · rw [if_neg hk] at h2
          cases h2
    | _ => cases h1
theorem set_many : ∀ {is : List Nat} {ds : List D} {vs : List V} {fr fr1 : Fr} {σ : L2.St} {ph : Nat → List Addr} {Q : L2.St → Hp → Prop}, FrOk G Z H σ fr ph → RDs G Z H ds vs → setMany fr is ds = some fr1 →
    (∀ σ1 ph1, FrOk G Z H σ1 fr1 ph1 → σ1.length = σ.length → (∀ j, j ∉ is → σ1[j]? = σ[j]?) → (∀ j a, a ∈ ph1 j → a ∈ ph j) → Q σ1 H) → gNames is vs σ H Q ∧ vs.length = is.length
  | [], [], _, fr, fr1, σ, ph, Q, F, .nil, e, q => by
    cases e
    exact ⟨⟨rfl, q σ ph F rfl (fun _ _ => rfl) fun _ _ m => m⟩, rfl⟩
  | i :: is, d :: ds, _, fr, fr1, σ, ph, Q, F, .cons (v := v) (vs := vs) h r, e, q => by
    rw [setMany] at e
    obtain ⟨ph1, F1, s1⟩ := set_data (i := i) F h
    obtain ⟨k1, k2⟩ := set_many (Q := Q) F1 r e fun σ1 ph2 F2 l2 a2 s2 => q σ1 ph2 F2 (by rw [l2, List.length_set]) (fun j nj => by
      rw [a2 j (fun m => nj (List.mem_cons_of_mem _ m)), List.getElem?_set_ne (show i ≠ j from fun z => by subst z; exact nj List.mem_cons_self)]) fun j a m => s1 j a (s2 j a m)
    exact ⟨⟨v, vs, rfl, k1⟩, by rw [List.length_cons, List.length_cons, k2]⟩
  | [], _ :: _, _, _, _, _, _, _, _, _, e, _ => by cases e
  | _ :: _, [], _, _, _, _, _, _, _, _, e, _ => by cases e
theorem pg_tgt {s0 : Scope} (C : TgC E X s0) (hc : X.calm = true) (hK : X.K = G.K) {tg : Expr} {g : Sum Nat (List Nat)} (h : tgt E.N s0 tg = some g) : PG X tg (gTg G g) := by
  cases tg with
  | Name x p =>
    rw [tgt] at h
    by_cases hk : isLoc s0 x = true
    · rw [if_pos hk] at h
      rw [Option.map_eq_some_iff] at h
      obtain ⟨i, hi, rfl⟩ := h
      refine ⟨fun pins s σ H v u Q I r ⟨Z, fr, ph, d, pairs, fr1, F, it, e, q⟩ => (pg_nm C hk hi).run pins s σ H v u Q I r ?_⟩
      unfold storeTg at e
      simp only at e
      split at e
      · cases e
      · rename_i hp
        cases e
        unfold ItemR at it
        rw [if_neg hp] at it
        obtain ⟨ph1, F1, s1⟩ := set_data (i := i) F it
        exact q _ ph1 F1 (by rw [List.length_set]) (fun j nj => List.getElem?_set_ne (fun z => nj (by rw [z]; exact List.mem_singleton.mpr rfl))) s1
    · rw [if_neg hk] at h
      cases h
  | Tuple es k p =>
    rw [tgt, Option.bind_eq_some_iff] at h
    obtain ⟨xs, h1, h⟩ := h
    rw [Option.map_eq_some_iff] at h
    obtain ⟨is, h2, rfl⟩ := h
    obtain ⟨k1, k2, k3⟩ := pgs_names C h1 h2
    refine ⟨fun pins s σ H v u Q I r ⟨Z, fr, ph, d, pairs, fr1, F, it, e, q⟩ => (pg_tup hc k1 k2 k3).run pins s σ H v u Q I r ?_⟩
    unfold storeTg at e
    cases d with
    | tup ds =>
      have hit : ∃ T vs, v = .ref T ∧ SqT G.K H T vs ∧ RDs G Z H ds vs := by
        unfold ItemR at it
        split at it
        · obtain ⟨T, ds', vs, e1, e2, e3, e4⟩ := it
          cases e1
          exact ⟨T, vs, e2, e3, e4⟩
        · cases it with
          | tup h1 h2 => exact ⟨_, _, rfl, h1.sq, h2⟩
      obtain ⟨T, vs, rfl, hT, rs⟩ := hit
      obtain ⟨m1, m2⟩ := set_many (Q := Q) F rs e fun σ1 ph1 F1 l1 a1 s1 => q σ1 ph1 F1 l1 a1 s1
      exact ⟨T, vs, rfl, by rw [hK]; exact hT, m2, m1⟩
    | _ => cases e
  | _ => cases h
end Bw

set_option maxHeartbeats 4000000
namespace Bw
open PySem PySem.Spec PyProof.Rows L2
variable {G : Gx} {E : Ev} {X : Cx} {sc : Scope} {W : WX} {Z Z' Z0 Z1 Z2 : Addr → Prop} {H H' H0 H1 H2 : Hp} {σ σ' : L2.St} {fr fr' fr0 fr1 fr2 : Fr} {ph ph' ph0 ph1 ph2 pa' : Nat → List Addr} {o : Opd} {v : V} {d : D} {g g1 g2 gh gD : List Addr} {t : T} {n : Nat} {tg : Expr} {own : List Nat}
abbrev WF : WX := fun _ _ _ _ => False
theorem Val.grow (hv : Val G Z H ph t v g) (F : FrOk G Z H σ fr ph) (k : Grow H H') (h : ∀ j a, a ∈ ph' j → a ∈ ph j) : Val G Z H' ph' t v g := hv.step F (stp_sub k h)
/-- turns of a comprehension -/
theorem compL_turns {tgi : Sum Nat (List Nat)} {test : M Bool} {elt : M T} {s : Src} {J : It} {S : L2.St → (Addr → Prop) → Hp → Prop} (SO : SrcOk G s J S) (hown : ∀ j, j ∈ tgIx tgi → j ∈ own) {Fin : Hp → Prop} {D : Addr} {acc0 ts : List T}
    (fin : ∀ Zf Hf phf g, FrOk G Zf Hf (wipe σ own) fr' phf → Val G Zf Hf phf (.lst ts) (.ref D) g → Stp Z0 H0 ph0 Zf Hf phf g → Fin Hf)
    (h : compL own tgi test elt s s.items acc0 fr0 = .ok ts fr') (F : FrOk G Z H (wipe σ own) fr0 ph) (hv : Val G Z H ph (.lst acc0) (.ref D) gD) (hs : Stp Z0 H0 ph0 Z H ph gD) (hS : S (wipe σ own) Z H) :
    ∃ Wv : Nat → Nat → Hp → Prop, (∃ m, Wv 0 m H) ∧ ∀ i m H, Wv i m H → (J.stop i H ∧ Fin H) ∨ (J.go i H ∧ ∃ Nx : Hp → Prop, (∀ H', Nx H' → ∃ m', m' < m ∧ Wv (i + 1) m' H') ∧
      ∀ x H', J.yld i H x H' → gTg G tgi x (wipe σ own) H' fun σ2 H2 => wipe σ2 own = wipe σ own ∧ tT G WF test σ2 H2 fun b H3 => if b = true then tV G WF elt σ2 H3 fun y H4 => ∃ acc, H4 D = some (.lst acc) ∧ acc.length < sizeLine ∧ Nx (upd H4 D (.lst (acc ++ [y]))) else Nx H3) := by
  refine ⟨fun i m H => m = s.items.length - i ∧ i ≤ s.items.length ∧ ∃ Z fr ph acc g, FrOk G Z H (wipe σ own) fr ph ∧ Val G Z H ph (.lst acc) (.ref D) g ∧ Stp Z0 H0 ph0 Z H ph g ∧ S (wipe σ own) Z H ∧ compL own tgi test elt s (s.items.drop i) acc fr = .ok ts fr', ⟨_, rfl, Nat.zero_le _, Z, fr0, ph, acc0, gD, F, hv, hs, hS, h⟩, ?_⟩
  rintro i m H1 ⟨rfl, hi, Z1, fr1, ph1, acc, g1, F1, hv1, hs1, hS1, h1⟩
  by_cases hlt : i < s.items.length
  · refine .inr ?_
    have e0 : s.items.drop i = s.items[i] :: s.items.drop (i + 1) := List.drop_eq_getElem_cons hlt
    rw [e0, compL] at h1
    dsimp only at h1
    split at h1
    rotate_left
    · cases h1
    rename_i hg
    obtain ⟨hgo, hy⟩ := (SO.at_ hS1 F1 hg i).1 _ (List.getElem?_eq_getElem hlt)
    refine ⟨hgo, fun H' => (s.items.length - (i + 1) = s.items.length - (i + 1) ∧ i + 1 ≤ s.items.length ∧ ∃ Z fr ph acc g, FrOk G Z H' (wipe σ own) fr ph ∧ Val G Z H' ph (.lst acc) (.ref D) g ∧ Stp Z0 H0 ph0 Z H' ph g ∧ S (wipe σ own) Z H' ∧ compL own tgi test elt s (s.items.drop (i + 1)) acc fr = .ok ts fr'), fun H' p => ⟨_, by omega, p⟩, fun x H' yl => ?_⟩
    obtain ⟨k, it⟩ := hy x H' yl
    cases hst : storeTg tgi s.pairs s.items[i] fr1 with
    | none => rw [hst] at h1; cases h1
    | some fr2 =>
      rw [hst] at h1
      dsimp only at h1
      refine ⟨Z1, fr1, ph1, _, _, fr2, F1.grow k, it, hst, fun σ2 ph2 F2 l2 a2 s2 => ?_⟩
      have hw : wipe σ2 own = wipe σ own := by
        refine wipe_eq (by rw [l2, wipe_length]) fun j nj => ?_
        rw [a2 j (fun m => nj (hown j m)), wipe_out nj]
      have st2 : Stp Z1 H1 ph1 Z1 H' ph2 [] := stp_sub k s2
      have hS2 : S (wipe σ own) Z1 H' := SO.step hS1 F1 st2
      have hv2 : Val G Z1 H' ph2 (.lst acc) (.ref D) g1 := hv1.step F1 st2
      have hl2 : σ2.length = σ.length := by rw [l2, wipe_length]
      have ha2 : ∀ j, j ∉ own → σ2[j]? = σ[j]? := fun j nj => by rw [a2 j (fun m => nj (hown j m)), wipe_out nj]
      -- the next turn's state, from a state behind the tests or the element
      have again : ∀ {Z5 H5 fr5 ph5 acc5 g5}, FrOk G Z5 H5 σ2 fr5 ph5 → Val G Z5 H5 ph5 (.lst acc5) (.ref D) g5 → Stp Z0 H0 ph0 Z5 H5 ph5 g5 → S (wipe σ own) Z5 H5 → compL own tgi test elt s (s.items.drop (i + 1)) acc5 (wipeF fr5 own) = .ok ts fr' →
          (s.items.length - (i + 1) = s.items.length - (i + 1) ∧ i + 1 ≤ s.items.length ∧ ∃ Z fr ph acc g, FrOk G Z H5 (wipe σ own) fr ph ∧ Val G Z H5 ph (.lst acc) (.ref D) g ∧ Stp Z0 H0 ph0 Z H5 ph g ∧ S (wipe σ own) Z H5 ∧ compL own tgi test elt s (s.items.drop (i + 1)) acc fr = .ok ts fr') := by
        intro Z5 H5 fr5 ph5 acc5 g5 F5 v5 s5 S5 c5
        have sw : ∀ j a, a ∈ phW ph5 own j → a ∈ ph5 j := fun j a m => phW_sub m
        refine ⟨rfl, hlt, Z5, _, _, acc5, g5, wipe_ok F5 hl2 ha2, v5.step F5 (stp_sub Grow.refl sw), ?_, S5, c5⟩
        exact ⟨s5.z, s5.keep, s5.there, s5.t, s5.f, fun j a m => s5.new j a (phW_sub m), s5.newg, s5.zn⟩
      have s02 : Stp Z0 H0 ph0 Z1 H' ph2 g1 := ⟨(hs1.trans st2).z, (hs1.trans st2).keep, (hs1.trans st2).there, (hs1.trans st2).t, (hs1.trans st2).f, (hs1.trans st2).new, hs1.newg, (hs1.trans st2).zn⟩
      refine ⟨hw, Z1, fr2, ph2, F2, ?_⟩
      cases ht : test fr2 with
      | stuck => rw [ht] at h1; cases h1
      | exn y fr3 => rw [ht] at h1; cases h1
      | ok b fr3 =>
        rw [ht] at h1
        intro H3 Z3 ph3 F3 st3
        have hv3 := hv2.step F2 st3
        have s03 : Stp Z0 H0 ph0 Z3 H3 ph3 g1 := ⟨(s02.trans st3).z, (s02.trans st3).keep, (s02.trans st3).there, (s02.trans st3).t, (s02.trans st3).f, (s02.trans st3).new, s02.newg, (s02.trans st3).zn⟩
        have hS3 : S (wipe σ own) Z3 H3 := SO.step hS2 F2 st3
        cases b with
        | false =>
          rw [if_neg (by decide)]
          exact again F3 hv3 s03 hS3 h1
        | true =>
          rw [if_pos rfl]
          dsimp only at h1
          refine ⟨Z3, fr3, ph3, F3, ?_⟩
          cases he : elt fr3 with
          | stuck => rw [he] at h1; cases h1
          | exn y fr4 => rw [he] at h1; cases h1
          | ok t fr4 =>
            rw [he] at h1
            intro y H4 Z4 ph4 gy F4 hy4 st4
            have hv4 := hv3.step F3 st4
            have ap := hv3.apart st4
            have s04 : Stp Z0 H0 ph0 Z4 H4 ph4 (g1 ++ gy) := (s03.trans st4).with_g fun a m => (List.mem_append.mp m).elim (s03.newg a) ((s03.trans st4).newg a)
            dsimp only at h1
            split at h1
            · rename_i hz
              obtain ⟨vacc, q1, q2, q3, q4, q5⟩ := held_push F4 hv4 hy4 ap s04
              refine ⟨vacc, q1, by rw [q2, sizeLine_eq]; exact Nat.le_of_ble_eq_true hz, ?_⟩
              have hS4 : S (wipe σ own) Z4 (upd H4 D (.lst (vacc ++ [y]))) := by
                have hS4' : S (wipe σ own) Z4 H4 := SO.step hS3 F3 st4
                exact SO.sub hS4' (sub_upd (g := []) q1 True.intro (hv4.dz D (by
                  have := hv4.rt
                  cases this with
                  | lst _ _ => exact List.mem_cons_self)) (fun m => nomatch m)).s
              exact again q3 q4 q5 hS4 h1
            · cases h1
  · have e : i = s.items.length := by omega
    subst e
    rw [List.drop_length, compL] at h1
    dsimp only at h1
    split at h1
    · rename_i hg
      cases h1
      exact .inl ⟨(SO.at_ hS1 F1 hg _).2 (Nat.le_refl _), fin Z1 H1 ph1 g1 F1 hv1 hs1⟩
    · cases h1
end Bw

set_option maxHeartbeats 4000000
namespace Bw
open PySem PySem.Spec PyProof.Rows L2
variable {G : Gx} {E : Ev} {X : Cx} {sc : Scope} {W : WX} {Z Z' Z0 Z1 Z2 : Addr → Prop} {H H' H0 H1 H2 : Hp} {σ σ' : L2.St} {fr fr' fr0 fr1 fr2 : Fr} {ph ph' ph0 ph1 ph2 pa' : Nat → List Addr} {o : Opd} {v : V} {d : D} {g g1 g2 gh gD : List Addr} {t : T} {n : Nat} {tg : Expr} {own : List Nat}
theorem evC_lc {elt iter : Expr} {ifs : List Expr} {scope : Scope} {pos : Pos} : evC E sc (n + 1) (.ListComp elt [⟨tg, iter, ifs, 0⟩] scope pos) = (if blkC E.N sc scope (ownOf E.N scope) && !isSet iter then (match tgt E.N scope tg with
    | some g => (evSrc E sc n (isTup tg) iter).bind fun s => fun fr =>
      if ownOk fr (ownIx E.N scope) && guardFree s (ownIx E.N scope) && (tgIx g).all (fun i => (ownIx E.N scope).contains i) then
      (match compL (ownIx E.N scope) g (evTs E (relS scope sc) n ifs) (evV E (relS scope sc) n elt) s s.items [] (wipeF fr (ownIx E.N scope)) with
      | .ok ts fr' => .ok (.lst ts) (backF fr fr' (ownIx E.N scope))
      | _ => .stuck) else .stuck
    | none => fun _ => .stuck) else fun _ => .stuck) := rfl
theorem blk_lk (L : Lk G E X sc) {s : Shared} {H : Hp} {scope : Scope} {C : Addr} {cl : List (Str × Addr)} {fp : List Addr} : Lk G E (X.blk s H scope (compEnvC scope cl C X.env) fp) (relS scope sc) := by
  obtain ⟨K, N, nd, hs, hu, cst, blt⟩ := L
  subst hs
  exact ⟨K, N, nd, rfl, hu, cst, blt⟩
theorem blk_cw (L : Cw G E X sc W) {s : Shared} {H : Hp} {scope : Scope} {C : Addr} {cl : List (Str × Addr)} {fp : List Addr} : Cw G E (X.blk s H scope (compEnvC scope cl C X.env) fp) (relS scope sc) WF where
  toLk := blk_lk L.toLk
  calm := L.calm
  tk := fun u s' ⟨a, B, sI, pins, σ, H, cls, d, e, I, nb, up, sky, na, os, ag, w⟩ => w.elim
  fn := L.fn
theorem blk_tg (L : Lk G E X sc) {s : Shared} {H : Hp} {scope : Scope} {C : Addr} {cl : List (Str × Addr)} {fp : List Addr} : TgC E (X.blk s H scope (compEnvC scope cl C X.env) fp) scope where
  N := L.N
  nd := L.nd
  loc := fun x e => by
    have := lookup_relS_keep (sc := X.env.scope) (k := .local) (by decide) e
    exact this
  cell := fun x e => by
    refine ⟨?_, ?_⟩
    · have := lookup_relS_keep (sc := X.env.scope) (k := .cell) (by decide) e
      exact this
    · show (scope.names.lookup x == some .cell) = true
      rw [e]
      rfl
theorem fold_no {iter : Expr} (h : isSet iter = false) (env : Env) : ∀ x, foldedSetIterable iter env x = pure x := by
  intro x
  cases iter <;> first
    | rfl
    | (cases h; done)
/-- the comprehension's reading, from the evaluator's answer -/
theorem lc_read {elt iter : Expr} {ifs : List Expr} {scope : Scope} {pos : Pos} {gt : Sum Nat (List Nat)} (ht : tgt E.N scope tg = some gt) {Q : VK} (F : FrOk G Z H σ fr ph) (h : GR (evC E sc (n + 1) (.ListComp elt [⟨tg, iter, ifs, 0⟩] scope pos) fr) (XW G W Z H ph σ) (VPost G Z H ph σ Q)) :
    tLc (tSrc G W (evSrc E sc n (isTup tg) iter)) (gTg G gt) (tT G WF (evTs E (relS scope sc) n ifs)) (tV G WF (evV E (relS scope sc) n elt)) ((ownOf E.N scope).map (·.2)) σ H Q := by
  rw [evC_lc] at h
  split at h
  rotate_left
  · exact h.elim
  rw [ht] at h
  refine ⟨Z, fr, ph, F, GR.mono (GR.bind h) (fun _ _ z => z) fun s fr1 h1 => fun J H1 Z1 ph1 S F1 s1 hS SO => fun D hD => ?_⟩
  split at h1
  rotate_left
  · exact h1.elim
  rename_i hc
  rw [Bool.and_eq_true, Bool.and_eq_true] at hc
  obtain ⟨⟨ho, hgf⟩, hin⟩ := hc
  have hin : ∀ j, j ∈ tgIx gt → j ∈ ownIx E.N scope := fun j m => by
    rw [List.all_eq_true] at hin
    exact List.contains_iff_mem.mp (hin j m)
  cases hc : compL (ownIx E.N scope) gt (evTs E (relS scope sc) n ifs) (evV E (relS scope sc) n elt) s s.items [] (wipeF fr1 (ownIx E.N scope)) with
  | stuck => rw [hc] at h1; exact h1.elim
  | exn x fr2 => rw [hc] at h1; exact h1.elim
  | ok ts fr2 =>
    rw [hc] at h1
    have Fw := wipe_ok (own := ownIx E.N scope) F1 rfl fun _ _ => rfl
    obtain ⟨Fw2, hv⟩ := val_lst (ts := []) (vs := []) (g := []) Fw .nil List.nodup_nil (fun _ m => nomatch m) (fun _ m => nomatch m) hD
    have hSw : S (wipe σ (ownIx E.N scope)) Z1 (upd H1 D (.lst [])) := by
      refine SO.sub (SO.sig hS fun i t e => ?_) (Grow.sub (keep_upd hD))
      unfold guardFree at hgf
      rw [e] at hgf
      have hgf : (!(ownIx E.N scope).contains i) = true := hgf
      refine wipe_out fun m => ?_
      rw [List.contains_iff_mem.mpr m] at hgf
      cases hgf
    refine compL_turns SO hin (Z0 := Z1) (H0 := H1) (ph0 := phW ph1 (ownIx E.N scope)) (gD := [D]) (fin := ?_) hc Fw2 hv (Stp.grow (keep_upd hD) (fun a m => by rw [List.mem_singleton] at m; subst m; exact hD)) hSw
    intro Zf Hf phf gf Ff hvf sf
    have Fb := back_ok F1 ho Ff sf fun j a m => phW_sub m
    refine h1 _ Hf Zf _ gf Fb ⟨hvf.rt, hvf.nd, hvf.dz, fun a m j q => hvf.dp a m j (phW_sub q)⟩ ?_
    have sw : Stp Z1 H1 ph1 Z1 H1 (phW ph1 (ownIx E.N scope)) [] := stp_sub Grow.refl fun j a m => phW_sub m
    have sb : Stp Z1 H1 ph1 Zf Hf phf gf := sw.trans sf
    have := s1.trans sb
    exact ⟨this.z, this.keep, this.there, this.t, this.f, fun j a m => this.new j a (phW_sub m), this.newg, this.zn⟩
/-- what a block's parts must be -/
structure BlkP (G : Gx) (E : Ev) (n : Nat) : Prop where
  v : ∀ {X sc W}, Cw G E X sc W → ∀ e, PE X e (tV G W (evV E sc n e))
  ts : ∀ {X sc W}, Cw G E X sc W → ∀ es, PTs X es (tT G W (evTs E sc n es))
  src : ∀ {X sc W}, Cw G E X sc W → ∀ tg iter, PI X tg iter (tSrc G W (evSrc E sc n (isTup tg) iter))
theorem c_lc (L : Cw G E X sc W) (B : BlkP G E n) {elt iter : Expr} {ifs : List Expr} {scope : Scope} {pos : Pos} : PE X (.ListComp elt [⟨tg, iter, ifs, 0⟩] scope pos) (tV G W (evC E sc (n + 1) (.ListComp elt [⟨tg, iter, ifs, 0⟩] scope pos))) := by
  refine ⟨fun pins s σ H Q I ⟨Z, fr, ph, F, h⟩ => ?_⟩
  have h0 := h
  rw [evC_lc] at h0
  split at h0
  rotate_left
  · exact h0.elim
  rename_i hc
  rw [Bool.and_eq_true] at hc
  cases ht : tgt E.N scope tg with
  | none => rw [ht] at h0; exact h0.elim
  | some gt =>
    have hb : BlkOk X.N X.env.scope scope (ownOf E.N scope) := by
      rw [L.N, L.sc]
      exact blkOk_by hc.1
    exact (pe_lc (own := ownOf E.N scope) L.calm L.nd (B.src L tg iter) hb (fun s H C cl fp => pg_tgt (blk_tg L.toLk) L.calm L.K ht) (fun s H C cl fp => B.ts (blk_cw L) ifs) (fun s H C cl fp => B.v (blk_cw L) elt) (fold_no (by simpa using hc.2) X.env)).run pins s σ H Q I (lc_read ht F h)
end Bw

set_option maxHeartbeats 4000000
namespace Bw
open PySem PySem.Spec PyProof.Rows L2
variable {G : Gx} {E : Ev} {X : Cx} {sc : Scope} {W : WX} {Z Z' Z0 Z1 Z2 : Addr → Prop} {H H' H0 H1 H2 : Hp} {σ σ' : L2.St} {fr fr' fr0 fr1 fr2 : Fr} {ph ph' ph0 ph1 ph2 pa' : Nat → List Addr} {o : Opd} {v : V} {d : D} {g g1 g2 gh gD : List Addr} {t : T} {n : Nat} {tg tg1 : Expr} {own own1 : List Nat}
theorem guard_sig {s : Src} (h : guardFree s own = true) : ∀ i t, s.guard = some (i, t) → (wipe σ own)[i]? = σ[i]? := fun i t e => by
  unfold guardFree at h
  rw [e] at h
  have h : (!own.contains i) = true := h
  refine wipe_out fun m => ?_
  rw [List.contains_iff_mem.mpr m] at h
  cases h
theorem compL2_turns {tgi tgj : Sum Nat (List Nat)} {test test1 : M Bool} {src1 : M Src} {elt : M T} {s : Src} {J : It} {S : L2.St → (Addr → Prop) → Hp → Prop} (SO : SrcOk G s J S) (hown : ∀ j, j ∈ tgIx tgi → j ∈ own) (hown1 : ∀ j, j ∈ tgIx tgj → j ∈ own1) (ho1 : ∀ j, j ∈ own1 → j ∈ own) {Fin : Hp → Prop} {D : Addr} {acc0 ts : List T}
    (fin : ∀ Zf Hf phf g, FrOk G Zf Hf (wipe σ own) fr' phf → Val G Zf Hf phf (.lst ts) (.ref D) g → Stp Z0 H0 ph0 Zf Hf phf g → Fin Hf)
    (h : compL2 own tgi test src1 own1 tgj test1 elt s s.items acc0 fr0 = .ok ts fr') (F : FrOk G Z H (wipe σ own) fr0 ph) (hv : Val G Z H ph (.lst acc0) (.ref D) gD) (hs : Stp Z0 H0 ph0 Z H ph gD) (hS : S (wipe σ own) Z H) :
    ∃ Wv : Nat → Nat → Hp → Prop, (∃ m, Wv 0 m H) ∧ ∀ i m H, Wv i m H → (J.stop i H ∧ Fin H) ∨ (J.go i H ∧ ∃ Nx : Hp → Prop, (∀ H', Nx H' → ∃ m', m' < m ∧ Wv (i + 1) m' H') ∧
      ∀ x H', J.yld i H x H' → gTg G tgi x (wipe σ own) H' fun σ2 H2 => wipe σ2 own = wipe σ own ∧ tT G WF test σ2 H2 fun b H3 => if b = true then tSrc G WF src1 σ2 H3 fun J1 H4 => ∃ W1 : Nat → Nat → Hp → Prop, (∃ m, W1 0 m H4) ∧ ∀ j k H, W1 j k H →
        (J1.stop j H ∧ Nx H) ∨ (J1.go j H ∧ ∃ Nx1 : Hp → Prop, (∀ H', Nx1 H' → ∃ k', k' < k ∧ W1 (j + 1) k' H') ∧ ∀ x H', J1.yld j H x H' → gTg G tgj x (wipe σ2 own1) H' fun σ3 H5 => wipe σ3 own1 = wipe σ2 own1 ∧ tT G WF test1 σ3 H5 fun b H6 =>
          if b = true then tV G WF elt σ3 H6 fun y H7 => ∃ acc, H7 D = some (.lst acc) ∧ acc.length < sizeLine ∧ Nx1 (upd H7 D (.lst (acc ++ [y]))) else Nx1 H6) else Nx H3) := by
  refine ⟨fun i m H => m = s.items.length - i ∧ i ≤ s.items.length ∧ ∃ Z fr ph acc g, FrOk G Z H (wipe σ own) fr ph ∧ Val G Z H ph (.lst acc) (.ref D) g ∧ Stp Z0 H0 ph0 Z H ph g ∧ S (wipe σ own) Z H ∧ compL2 own tgi test src1 own1 tgj test1 elt s (s.items.drop i) acc fr = .ok ts fr', ⟨_, rfl, Nat.zero_le _, Z, fr0, ph, acc0, gD, F, hv, hs, hS, h⟩, ?_⟩
  rintro i m H1 ⟨rfl, hi, Z1, fr1, ph1, acc, g1, F1, hv1, hs1, hS1, h1⟩
  by_cases hlt : i < s.items.length
  · refine .inr ?_
    have e0 : s.items.drop i = s.items[i] :: s.items.drop (i + 1) := List.drop_eq_getElem_cons hlt
    rw [e0, compL2] at h1
    dsimp only at h1
    split at h1
    rotate_left
    · cases h1
    rename_i hg
    obtain ⟨hgo, hy⟩ := (SO.at_ hS1 F1 hg i).1 _ (List.getElem?_eq_getElem hlt)
    refine ⟨hgo, fun H' => (s.items.length - (i + 1) = s.items.length - (i + 1) ∧ i + 1 ≤ s.items.length ∧ ∃ Z fr ph acc g, FrOk G Z H' (wipe σ own) fr ph ∧ Val G Z H' ph (.lst acc) (.ref D) g ∧ Stp Z0 H0 ph0 Z H' ph g ∧ S (wipe σ own) Z H' ∧ compL2 own tgi test src1 own1 tgj test1 elt s (s.items.drop (i + 1)) acc fr = .ok ts fr'), fun H' p => ⟨_, by omega, p⟩, fun x H' yl => ?_⟩
    obtain ⟨k, it⟩ := hy x H' yl
    cases hst : storeTg tgi s.pairs s.items[i] fr1 with
    | none => rw [hst] at h1; cases h1
    | some fr2 =>
      rw [hst] at h1
      dsimp only at h1
      refine ⟨Z1, fr1, ph1, _, _, fr2, F1.grow k, it, hst, fun σ2 ph2 F2 l2 a2 s2 => ?_⟩
      have hl2 : σ2.length = σ.length := by rw [l2, wipe_length]
      have ha2 : ∀ j, j ∉ own → σ2[j]? = σ[j]? := fun j nj => by rw [a2 j (fun m => nj (hown j m)), wipe_out nj]
      have hw : wipe σ2 own = wipe σ own := wipe_eq hl2 ha2
      have st2 : Stp Z1 H1 ph1 Z1 H' ph2 [] := stp_sub k s2
      have hS2 : S (wipe σ own) Z1 H' := SO.step hS1 F1 st2
      have hv2 : Val G Z1 H' ph2 (.lst acc) (.ref D) g1 := hv1.step F1 st2
      have again : ∀ {σ5 Z5 H5 fr5 ph5 acc5 g5}, FrOk G Z5 H5 σ5 fr5 ph5 → σ5.length = σ.length → (∀ j, j ∉ own → σ5[j]? = σ[j]?) → Val G Z5 H5 ph5 (.lst acc5) (.ref D) g5 → Stp Z0 H0 ph0 Z5 H5 ph5 g5 → S (wipe σ own) Z5 H5 → compL2 own tgi test src1 own1 tgj test1 elt s (s.items.drop (i + 1)) acc5 (wipeF fr5 own) = .ok ts fr' →
          (s.items.length - (i + 1) = s.items.length - (i + 1) ∧ i + 1 ≤ s.items.length ∧ ∃ Z fr ph acc g, FrOk G Z H5 (wipe σ own) fr ph ∧ Val G Z H5 ph (.lst acc) (.ref D) g ∧ Stp Z0 H0 ph0 Z H5 ph g ∧ S (wipe σ own) Z H5 ∧ compL2 own tgi test src1 own1 tgj test1 elt s (s.items.drop (i + 1)) acc fr = .ok ts fr') := by
        intro σ5 Z5 H5 fr5 ph5 acc5 g5 F5 l5 a5 v5 s5 S5 c5
        refine ⟨rfl, hlt, Z5, _, _, acc5, g5, wipe_ok F5 l5 a5, v5.step F5 (stp_sub Grow.refl fun j a m => phW_sub m), ?_, S5, c5⟩
        exact ⟨s5.z, s5.keep, s5.there, s5.t, s5.f, fun j a m => s5.new j a (phW_sub m), s5.newg, s5.zn⟩
      have s02 : Stp Z0 H0 ph0 Z1 H' ph2 g1 := (hs1.trans st2).with_g hs1.newg
      refine ⟨hw, Z1, fr2, ph2, F2, ?_⟩
      cases ht : test fr2 with
      | stuck => rw [ht] at h1; cases h1
      | exn y fr3 => rw [ht] at h1; cases h1
      | ok b fr3 =>
        rw [ht] at h1
        intro H3 Z3 ph3 F3 st3
        have hv3 := hv2.step F2 st3
        have s03 : Stp Z0 H0 ph0 Z3 H3 ph3 g1 := (s02.trans st3).with_g s02.newg
        have hS3 : S (wipe σ own) Z3 H3 := SO.step hS2 F2 st3
        cases b with
        | false =>
          rw [if_neg (by decide)]
          exact again F3 hl2 ha2 hv3 s03 hS3 h1
        | true =>
          rw [if_pos rfl]
          dsimp only at h1
          refine ⟨Z3, fr3, ph3, F3, ?_⟩
          cases he : src1 fr3 with
          | stuck => rw [he] at h1; cases h1
          | exn y fr4 => rw [he] at h1; cases h1
          | ok s1 fr4 =>
            rw [he] at h1
            intro J1 H4 Z4 ph4 S1 F4 st4 hSi SO1
            dsimp only at h1
            split at h1
            rotate_left
            · cases h1
            rename_i hgf1
            cases hc1 : compL own1 tgj test1 elt s1 s1.items acc (wipeF fr4 own1) with
            | stuck => rw [hc1] at h1; cases h1
            | exn y fr5 => rw [hc1] at h1; cases h1
            | ok acc' fr5 =>
              rw [hc1] at h1
              have hv4 := hv3.step F3 st4
              have s04 : Stp Z0 H0 ph0 Z4 H4 ph4 g1 := (s03.trans st4).with_g s03.newg
              have hS4 : S (wipe σ own) Z4 H4 := SO.step hS3 F3 st4
              have F4w : FrOk G Z4 H4 (wipe σ2 own1) (wipeF fr4 own1) (phW ph4 own1) := wipe_ok F4 rfl fun _ _ => rfl
              have hv4w : Val G Z4 H4 (phW ph4 own1) (.lst acc) (.ref D) g1 := hv4.step F4 (stp_sub Grow.refl fun j a m => phW_sub m)
              -- what the list owns counts as owned, from here
              have sE : Stp Z4 H4 (fun j => g1 ++ ph4 j) Z4 H4 (phW ph4 own1) g1 := ⟨fun _ z => z, fun _ _ e _ => e, fun a o e => ⟨o, e⟩, fun _ _ e => e, fun _ _ _ e => e, fun j a m => .inl ⟨j, List.mem_append_right _ (phW_sub m)⟩, fun a m => .inl ⟨0, List.mem_append_left _ m⟩, fun _ z => .inl z⟩
              have s0E : Stp Z0 H0 ph0 Z4 H4 (fun j => g1 ++ ph4 j) [] := ⟨s04.z, s04.keep, s04.there, s04.t, s04.f, fun j a m => (List.mem_append.mp m).elim (s04.newg a) (s04.new j a), (fun _ m => nomatch m), s04.zn⟩
              refine compL_turns SO1 hown1 (Z0 := Z4) (H0 := H4) (ph0 := fun j => g1 ++ ph4 j) (σ := σ2) (own := own1) (fr' := fr5) (ts := acc') (gD := g1) (fin := ?_) hc1 F4w hv4w sE (SO1.sig hSi (guard_sig hgf1))
              intro Zf Hf phf gf Ff hvf sf
              have hSub : Sub Z4 H4 Zf Hf := ⟨fun a o p e => ⟨sf.z a p, sf.keep a o e fun j m => (List.mem_append.mp m).elim (fun m => hv4.dz a m p) (fun m => F4.dz j a m p)⟩, sf.t, sf.f⟩
              refine again Ff (by rw [wipe_length]; exact hl2) (fun j nj => by rw [wipe_out (fun m => nj (ho1 j m))]; exact ha2 j nj) hvf (s0E.trans sf) (SO.sub hS4 hSub) h1
  · have e : i = s.items.length := by omega
    subst e
    rw [List.drop_length, compL2] at h1
    dsimp only at h1
    split at h1
    · rename_i hg
      cases h1
      exact .inl ⟨(SO.at_ hS1 F1 hg _).2 (Nat.le_refl _), fin Z1 H1 ph1 g1 F1 hv1 hs1⟩
    · cases h1
theorem evC_lc2 {elt iter iter1 : Expr} {ifs ifs1 : List Expr} {scope : Scope} {pos : Pos} : evC E sc (n + 1) (.ListComp elt [⟨tg, iter, ifs, 0⟩, ⟨tg1, iter1, ifs1, 0⟩] scope pos) = (if blkC E.N sc scope (ownOf E.N scope) && !isSet iter && !isSet iter1 then (match tgt E.N scope tg, tgt E.N scope tg1 with
    | some g, some g1 => if (tgIx g1).all (fun i => (ownIx E.N scope).contains i) then (evSrc E sc n (isTup tg) iter).bind fun s => fun fr =>
      if ownOk fr (ownIx E.N scope) && guardFree s (ownIx E.N scope) && (tgIx g).all (fun i => (ownIx E.N scope).contains i) then
      (match compL2 (ownIx E.N scope) g (evTs E (relS scope sc) n ifs) (evSrc E (relS scope sc) n (isTup tg1) iter1) (tgIx g1) g1 (evTs E (relS scope sc) n ifs1) (evV E (relS scope sc) n elt) s s.items [] (wipeF fr (ownIx E.N scope)) with
      | .ok ts fr' => .ok (.lst ts) (backF fr fr' (ownIx E.N scope))
      | _ => .stuck) else .stuck else fun _ => .stuck
    | _, _ => fun _ => .stuck) else fun _ => .stuck) := rfl
theorem lc2_read {elt iter iter1 : Expr} {ifs ifs1 : List Expr} {scope : Scope} {pos : Pos} {gt gt1 : Sum Nat (List Nat)} (ht : tgt E.N scope tg = some gt) (ht1 : tgt E.N scope tg1 = some gt1) {Q : VK} (F : FrOk G Z H σ fr ph) (h : GR (evC E sc (n + 1) (.ListComp elt [⟨tg, iter, ifs, 0⟩, ⟨tg1, iter1, ifs1, 0⟩] scope pos) fr) (XW G W Z H ph σ) (VPost G Z H ph σ Q)) :
    tLc2 (tSrc G W (evSrc E sc n (isTup tg) iter)) (gTg G gt) (tT G WF (evTs E (relS scope sc) n ifs)) (tSrc G WF (evSrc E (relS scope sc) n (isTup tg1) iter1)) (gTg G gt1) (tT G WF (evTs E (relS scope sc) n ifs1)) (tV G WF (evV E (relS scope sc) n elt)) ((ownOf E.N scope).map (·.2)) (tgIx gt1) σ H Q := by
  rw [evC_lc2] at h
  split at h
  rotate_left
  · exact h.elim
  rw [ht, ht1] at h
  dsimp only at h
  split at h
  rotate_left
  · exact h.elim
  rename_i hin1
  refine ⟨Z, fr, ph, F, GR.mono (GR.bind h) (fun _ _ z => z) fun s fr1 h1 => fun J H1 Z1 ph1 S F1 s1 hS SO => fun D hD => ?_⟩
  split at h1
  rotate_left
  · exact h1.elim
  rename_i hc
  rw [Bool.and_eq_true, Bool.and_eq_true] at hc
  obtain ⟨⟨ho, hgf⟩, hin⟩ := hc
  have hin : ∀ j, j ∈ tgIx gt → j ∈ ownIx E.N scope := fun j m => by
    rw [List.all_eq_true] at hin
    exact List.contains_iff_mem.mp (hin j m)
  have hin1 : ∀ j, j ∈ tgIx gt1 → j ∈ ownIx E.N scope := fun j m => by
    rw [List.all_eq_true] at hin1
    exact List.contains_iff_mem.mp (hin1 j m)
  cases hc : compL2 (ownIx E.N scope) gt (evTs E (relS scope sc) n ifs) (evSrc E (relS scope sc) n (isTup tg1) iter1) (tgIx gt1) gt1 (evTs E (relS scope sc) n ifs1) (evV E (relS scope sc) n elt) s s.items [] (wipeF fr1 (ownIx E.N scope)) with
  | stuck => rw [hc] at h1; exact h1.elim
  | exn x fr2 => rw [hc] at h1; exact h1.elim
  | ok ts fr2 =>
    rw [hc] at h1
    have Fw := wipe_ok (own := ownIx E.N scope) F1 rfl fun _ _ => rfl
    obtain ⟨Fw2, hv⟩ := val_lst (ts := []) (vs := []) (g := []) Fw .nil List.nodup_nil (fun _ m => nomatch m) (fun _ m => nomatch m) hD
    have hSw : S (wipe σ (ownIx E.N scope)) Z1 (upd H1 D (.lst [])) := SO.sub (SO.sig hS (guard_sig hgf)) (Grow.sub (keep_upd hD))
    refine compL2_turns SO hin (fun j m => m) hin1 (Z0 := Z1) (H0 := H1) (ph0 := phW ph1 (ownIx E.N scope)) (gD := [D]) (fin := ?_) hc Fw2 hv (Stp.grow (keep_upd hD) (fun a m => by rw [List.mem_singleton] at m; subst m; exact hD)) hSw
    intro Zf Hf phf gf Ff hvf sf
    have Fb := back_ok F1 ho Ff sf fun j a m => phW_sub m
    refine h1 _ Hf Zf _ gf Fb ⟨hvf.rt, hvf.nd, hvf.dz, fun a m j q => hvf.dp a m j (phW_sub q)⟩ ?_
    have sw : Stp Z1 H1 ph1 Z1 H1 (phW ph1 (ownIx E.N scope)) [] := stp_sub Grow.refl fun j a m => phW_sub m
    have sb : Stp Z1 H1 ph1 Zf Hf phf gf := sw.trans sf
    have := s1.trans sb
    exact ⟨this.z, this.keep, this.there, this.t, this.f, fun j a m => this.new j a (phW_sub m), this.newg, this.zn⟩
theorem c_lc2 (L : Cw G E X sc W) (B : BlkP G E n) {elt iter iter1 : Expr} {ifs ifs1 : List Expr} {scope : Scope} {pos : Pos} : PE X (.ListComp elt [⟨tg, iter, ifs, 0⟩, ⟨tg1, iter1, ifs1, 0⟩] scope pos) (tV G W (evC E sc (n + 1) (.ListComp elt [⟨tg, iter, ifs, 0⟩, ⟨tg1, iter1, ifs1, 0⟩] scope pos))) := by
  refine ⟨fun pins s σ H Q I ⟨Z, fr, ph, F, h⟩ => ?_⟩
  have h0 := h
  rw [evC_lc2] at h0
  split at h0
  rotate_left
  · exact h0.elim
  rename_i hc
  rw [Bool.and_eq_true, Bool.and_eq_true] at hc
  cases ht : tgt E.N scope tg with
  | none => rw [ht] at h0; exact h0.elim
  | some gt =>
    cases ht1 : tgt E.N scope tg1 with
    | none => rw [ht, ht1] at h0; exact h0.elim
    | some gt1 =>
      have hb : BlkOk X.N X.env.scope scope (ownOf E.N scope) := by
        rw [L.N, L.sc]
        exact blkOk_by hc.1.1
      have hin1 : ∀ i ∈ tgIx gt1, i ∈ (ownOf E.N scope).map (·.2) := by
        rw [ht, ht1] at h0
        dsimp only at h0
        split at h0
        · rename_i hin1
          rw [List.all_eq_true] at hin1
          exact fun i m => List.contains_iff_mem.mp (hin1 i m)
        · exact h0.elim
      exact (pe_lc2 (own := ownOf E.N scope) (vs1 := tgIx gt1) L.calm L.nd (B.src L tg iter) hb hin1 (fun s H C cl fp => pg_tgt (blk_tg L.toLk) L.calm L.K ht) (fun s H C cl fp => B.ts (blk_cw L) ifs) (fun s H C cl fp => B.src (blk_cw L) tg1 iter1) (fun s H C cl fp => pg_tgt (blk_tg L.toLk) L.calm L.K ht1) (fun s H C cl fp => B.ts (blk_cw L) ifs1) (fun s H C cl fp => B.v (blk_cw L) elt) (fold_no (by simpa using hc.1.2) X.env) (fun env => fold_no (by simpa using hc.2) env)).run pins s σ H Q I (lc2_read ht ht1 F h)
end Bw

set_option maxHeartbeats 4000000
namespace Bw
open PySem PySem.Spec PyProof.Rows L2
variable {G : Gx} {E : Ev} {X : Cx} {sc : Scope} {W : WX} {Z Z' Z0 Z1 Z2 : Addr → Prop} {H H' H0 H1 H2 : Hp} {σ σ' : L2.St} {fr fr' fr0 fr1 fr2 : Fr} {ph ph' ph0 ph1 ph2 pa' : Nat → List Addr} {o : Opd} {v : V} {d : D} {g g1 g2 gh gD : List Addr} {t : T} {n : Nat} {tg tg1 : Expr} {own own1 : List Nat}
structure EffOk (G : Gx) (E : Ev) (n : Nat) : Prop where
  v : ∀ {X sc W}, Cw G E X sc W → ∀ e, PE X e (tV G W (evV E sc n e))
  o : ∀ {X sc W}, Cw G E X sc W → ∀ e, PE X e (tO G W (evO E sc n e))
  c : ∀ {X sc W}, Cw G E X sc W → ∀ e, PE X e (tV G W (evC E sc n e))
  t : ∀ {X sc W}, Cw G E X sc W → ∀ e, PT X e (tT G W (evT E sc n e))
  w : ∀ {X sc W}, Cw G E X sc W → ∀ op es pos, PW X (.BoolOp op es pos) (tT G W (evT E sc n (.BoolOp op es pos)))
  ts : ∀ {X sc W}, Cw G E X sc W → ∀ es, PTs X es (tT G W (evTs E sc n es))
  src : ∀ {X sc W}, Cw G E X sc W → ∀ tg iter, PI X tg iter (tSrc G W (evSrc E sc n (isTup tg) iter))
  wk : ∀ {X sc W}, Cw G E X sc W → ∀ e, PE X e (tWk G W (evWalk E sc n e))
theorem stuck_v {e : Expr} {m : M T} (h : ∀ fr, m fr = .stuck) : PE X e (tV G W m) := pe_none fun σ H Q ⟨Z, fr, ph, F, q⟩ => by rw [h] at q; exact q
theorem stuck_t {e : Expr} {m : M Bool} (h : ∀ fr, m fr = .stuck) : PT X e (tT G W m) := pt_none fun σ H Q ⟨Z, fr, ph, F, q⟩ => by rw [h] at q; exact q
theorem c_dic {pos : Pos} : PE X (.Dict [] [] pos) (tV G W (evC E sc (n + 1) (.Dict [] [] pos))) := by
  refine peI pe_dnewK fun σ H Q ⟨Z, fr, ph, F, h⟩ => fun p hp => ?_
  rw [evC] at h
  have k := keep_upd (o := .dK []) hp
  refine h _ _ Z ph [p] (F.grow k) ⟨.dic upd_same rfl .nil, by simp, fun a m z => ?_, fun a m i => ?_⟩ (Stp.grow k fun a m => by rw [List.mem_singleton] at m; subst m; exact hp)
  · rw [List.mem_singleton] at m
    subst m
    obtain ⟨o, e⟩ := F.zt a z
    rw [hp] at e; cases e
  · rw [List.mem_singleton] at m
    subst m
    exact F.not_own hp i
theorem isM1_of {e : Expr} (h : isM1 e = true) : ∃ k p1 p2, e = .UnaryOp .USub (.Constant (.int 1) k p1) p2 := by
  unfold isM1 at h
  split at h
  · exact ⟨_, _, _, rfl⟩
  · cases h
theorem evC_sl {o : Expr} {lo hi : Option Expr} {st : Expr} {p pos : Pos} : evC E sc (n + 1) (.Subscript o (.Slice lo hi (some st) p) pos) = (if isM1 st && lo.isNone && hi.isNone then (evO E sc n o).bind fun x => .ofO (revO x) else fun _ => .stuck) := rfl
theorem c_all (ih : ∀ m, m ≤ n → EffOk G E m) (L : Cw G E X sc W) (e : Expr) : PE X e (tV G W (evC E sc (n + 1) e)) := by
  have hv : ∀ m, m ≤ n → ∀ e, PE X e (tV G W (evV E sc m e)) := fun m hm => (ih m hm).v L
  have ho : ∀ m, m ≤ n → ∀ e, PE X e (tO G W (evO E sc m e)) := fun m hm => (ih m hm).o L
  have hvs : ∀ es, PA X es (tVs G W (evVs E sc n es)) := c_vs hv n (Nat.le_refl _)
  have B : BlkP G E n := ⟨(ih n (Nat.le_refl _)).v, (ih n (Nat.le_refl _)).ts, (ih n (Nat.le_refl _)).src⟩
  cases e with
  | List es pos => exact c_lst hvs
  | Tuple es k pos => exact c_tup hvs
  | BinOp a op b pos =>
    cases n with
    | zero => exact stuck_v fun fr => rfl
    | succ k => exact c_bin L.toLk (ho k (by omega))
  | UnaryOp op a pos =>
    cases op with
    | Not => exact c_not L.toLk (ho n (Nat.le_refl _))
    | _ => exact stuck_v fun fr => rfl
  | Compare a ops bs pos =>
    match ops, bs with
    | [op], [b] =>
      cases n with
      | zero =>
        refine stuck_v fun fr => ?_
        rw [evC]
        split <;> rfl
      | succ k =>
        by_cases hs : isSet b = true
        · refine stuck_v fun fr => ?_
          rw [evC, if_pos hs]
        · exact (c_cmp L.toLk (ho k (by omega)) (by simpa using hs)).1
    | [], [] => exact stuck_v fun fr => rfl
    | [], _ :: _ => exact stuck_v fun fr => rfl
    | [_], [] => exact stuck_v fun fr => rfl
    | [_], _ :: _ :: _ => exact stuck_v fun fr => rfl
    | _ :: _ :: _, [] => exact stuck_v fun fr => rfl
    | _ :: _ :: _, _ :: _ => exact stuck_v fun fr => rfl
  | BoolOp op es pos => exact c_bool L.toLk (hv n (Nat.le_refl _))
  | IfExp t a b pos => exact c_if (hv n (Nat.le_refl _)) ((ih n (Nat.le_refl _)).t L)
  | Subscript o i pos =>
    by_cases hs : isSlice i = true
    · cases i with
      | Slice lo hi st p =>
        cases st with
        | none => exact c_slice L.toLk (ho n (Nat.le_refl _))
        | some st =>
          by_cases hst : (isM1 st && lo.isNone && hi.isNone) = true
          · rw [Bool.and_eq_true, Bool.and_eq_true] at hst
            obtain ⟨⟨h1, h2⟩, h3⟩ := hst
            obtain ⟨k, p1, p2, rfl⟩ := isM1_of h1
            cases lo with
            | some _ => cases h2
            | none =>
              cases hi with
              | some _ => cases h3
              | none => exact c_rev L.toLk (ho n (Nat.le_refl _))
          · refine stuck_v fun fr => ?_
            rw [evC_sl, if_neg hst]
      | _ => cases hs
    · have hs : isSlice i = false := by simpa using hs
      cases n with
      | zero =>
        refine stuck_v fun fr => ?_
        rw [evC]
        · rfl
        · intro lo hi st p e
          exact notSl hs lo hi st p e
      | succ k => exact c_sub L.toLk (ho k (by omega)) hs
  | Dict ks vs pos =>
    match ks, vs with
    | [], [] => exact c_dic
    | [], _ :: _ => exact stuck_v fun fr => rfl
    | _ :: _, [] => exact stuck_v fun fr => rfl
    | _ :: _, _ :: _ => exact stuck_v fun fr => rfl
  | Call f as kws pos =>
    cases f with
    | Name g p =>
      exact c_call L hv ho
    | Attribute o m p2 =>
      cases o with
      | Name x p =>
        cases kws with
        | nil => exact c_meth L.toLk hvs
        | cons _ _ => exact stuck_v fun fr => rfl
      | _ => exact stuck_v fun fr => by cases kws <;> rfl
    | _ => exact stuck_v fun fr => rfl
  | ListComp elt gs scope pos =>
    match gs with
    | [] => exact stuck_v fun fr => rfl
    | [⟨tg, iter, ifs, k⟩] =>
      cases k with
      | ofNat k =>
        cases k with
        | zero => exact c_lc L B
        | succ k => exact stuck_v fun fr => rfl
      | negSucc k => exact stuck_v fun fr => rfl
    | [⟨tg, iter, ifs, k⟩, ⟨tg1, iter1, ifs1, k1⟩] =>
      cases k with
      | ofNat k =>
        cases k with
        | zero =>
          cases k1 with
          | ofNat k1 =>
            cases k1 with
            | zero => exact c_lc2 L B
            | succ k => exact stuck_v fun fr => rfl
          | negSucc k => exact stuck_v fun fr => rfl
        | succ k => exact stuck_v fun fr => rfl
      | negSucc k => exact stuck_v fun fr => rfl
    | ⟨tg, iter, ifs, k⟩ :: ⟨tg1, iter1, ifs1, k1⟩ :: x :: r =>
      refine stuck_v fun fr => ?_
      cases k with
      | ofNat k =>
        cases k with
        | zero =>
          cases k1 with
          | ofNat k1 => cases k1 <;> rfl
          | negSucc k => rfl
        | succ k => rfl
      | negSucc k => rfl
  | _ => exact stuck_v fun fr => rfl
end Bw

set_option maxHeartbeats 4000000
namespace Bw
open PySem PySem.Spec PyProof.Rows L2
variable {G : Gx} {E : Ev} {X : Cx} {sc : Scope} {W : WX} {Z Z' Z0 Z1 Z2 : Addr → Prop} {H H' H0 H1 H2 : Hp} {σ σ' : L2.St} {fr fr' fr0 fr1 fr2 : Fr} {ph ph' ph0 ph1 ph2 pa' : Nat → List Addr} {o : Opd} {v : V} {d : D} {g g1 g2 gh gD : List Addr} {t : T} {n : Nat} {tg tg1 : Expr} {own own1 : List Nat}
/-- a test of an operand with effects -/
def boolT (E : Ev) (sc : Scope) (n : Nat) (op : BoolOp) (a r : Expr) : M Bool := (evT E sc n a).bind fun k => match op with
  | .And => if k then evT E sc n r else .pure false
  | .Or => if k then .pure true else evT E sc n r
def evTi (E : Ev) (sc : Scope) (n : Nat) (e : Expr) : M Bool := match e with
      | .UnaryOp .Not a _ => (evT E sc n a).bind fun k => .pure (!k)
      | .BoolOp op [a] _ => evT E sc n a
      | .BoolOp op (a :: b :: r) pos => (evT E sc n a).bind fun k => match op with
        | .And => if k then evT E sc n (.BoolOp .And (b :: r) pos) else .pure false
        | .Or => if k then .pure true else evT E sc n (.BoolOp .Or (b :: r) pos)
      | .IfExp .. => fun _ => .stuck
      | e => (evC E sc n e).bind fun t => .ofO (truD (fz t))
theorem evT_eq (e : Expr) : evT E sc (n + 1) e = if pureX E sc (n + 1) e then (fun fr => match evP E sc fr (n + 1) e with
    | some x => M.ofO (truD x.1) fr
    | none => .stuck) else evTi E sc n e := rfl
theorem w_one (hp : ∀ op es pos, PW X (.BoolOp op es pos) (tPT G fun fr => evP E sc fr (n + 1) (.BoolOp op es pos))) (ht : ∀ e, PT X e (tT G W (evT E sc n e))) (hw : ∀ op es pos, PW X (.BoolOp op es pos) (tT G W (evT E sc n (.BoolOp op es pos)))) (op : BoolOp) (es : List Expr) (pos : Pos) : PW X (.BoolOp op es pos) (tT G W (evT E sc (n + 1) (.BoolOp op es pos))) := by
  refine ⟨fun wh pins s σ H Q I ⟨Z, fr, ph, F, h⟩ => ?_⟩
  by_cases hpu : pureX E sc (n + 1) (.BoolOp op es pos) = true
  · rw [evT_eq, if_pos hpu] at h
    cases he : evP E sc fr (n + 1) (.BoolOp op es pos) with
    | none => rw [he] at h; exact h.elim
    | some x =>
      rw [he] at h
      obtain ⟨k, e, h⟩ := h.ofO
      exact (hp op es pos).run wh pins s σ H Q I ⟨Z, fr, ph, x, k, F, he, e, fun H' k' => h H' Z ph (F.grow k') (stp_of_grow k')⟩
  · rw [evT_eq, if_neg hpu] at h
    match es with
    | [] => exact absurd rfl hpu
    | [a] =>
      cases op with
      | And => exact (pw_and1 (ht a)).run wh pins s σ H Q I ⟨Z, fr, ph, F, h⟩
      | Or => exact (pw_or1 (ht a)).run wh pins s σ H Q I ⟨Z, fr, ph, F, h⟩
    | a :: b :: r =>
      have h : GR ((boolT E sc n op a (.BoolOp op (b :: r) pos)) fr) (XW G W Z H ph σ) (fun k fr' => ∀ H' Z' ph', FrOk G Z' H' σ fr' ph' → Stp Z H ph Z' H' ph' [] → Q k H') := by
        cases op <;> exact h
      cases op with
      | And =>
        refine (pw_and (ht a) (hw .And (b :: r) pos)).run wh pins s σ H Q I ?_
        refine ⟨Z, fr, ph, F, GR.mono h.bind (fun _ _ z => z) fun k fr1 h1 => fun H1 Z1 ph1 F1 s1 => ?_⟩
        cases k with
        | true =>
          rw [if_pos rfl]
          dsimp only at h1
          rw [if_pos rfl] at h1
          exact ⟨Z1, fr1, ph1, F1, GR.mono h1 (fun _ _ z => z.shift s1) fun k fr2 p => fun H2 Z2 ph2 F2 s2 => p H2 Z2 ph2 F2 (s1.trans s2)⟩
        | false =>
          rw [if_neg (by decide)]
          exact h1 H1 Z1 ph1 F1 s1
      | Or =>
        refine (pw_or (ht a) (hw .Or (b :: r) pos)).run wh pins s σ H Q I ?_
        refine ⟨Z, fr, ph, F, GR.mono h.bind (fun _ _ z => z) fun k fr1 h1 => fun H1 Z1 ph1 F1 s1 => ?_⟩
        cases k with
        | false =>
          rw [if_neg (by decide)]
          dsimp only at h1
          rw [if_neg (by decide)] at h1
          exact ⟨Z1, fr1, ph1, F1, GR.mono h1 (fun _ _ z => z.shift s1) fun k fr2 p => fun H2 Z2 ph2 F2 s2 => p H2 Z2 ph2 F2 (s1.trans s2)⟩
        | true =>
          rw [if_pos rfl]
          exact h1 H1 Z1 ph1 F1 s1
theorem t_plain (L : Lk G E X sc) {e : Expr} (hc : PE X e (tV G W (evC E sc n e))) (hp : plainT e = true) : PT X e (tT G W ((evC E sc n e).bind fun t => .ofO (truD (fz t)))) := by
  refine ptI (pt_truth hc (isTrue_of hp)) fun σ H Q ⟨Z, fr, ph, F, h⟩ => ?_
  refine ⟨Z, fr, ph, F, GR.mono h.bind (fun _ _ z => z) fun t fr1 h1 => fun v H1 Z1 ph1 g F1 hv s1 => ?_⟩
  obtain ⟨k, e, h2⟩ := h1.ofO
  exact ⟨k, by rw [L.K]; exact tru_rd hv.rt.fz e, h2 H1 Z1 ph1 F1 s1.drop⟩
theorem t_one (L : Cw G E X sc W) (ih : ∀ m, m ≤ n → EffOk G E m) (hw : ∀ op es pos, PW X (.BoolOp op es pos) (tT G W (evT E sc (n + 1) (.BoolOp op es pos)))) (e : Expr) : PT X e (tT G W (evT E sc (n + 1) e)) := by
  by_cases hb : ∃ op es pos, e = .BoolOp op es pos
  · obtain ⟨op, es, pos, rfl⟩ := hb
    exact (hw op es pos).pt
  refine ⟨fun pins s σ H Q I ⟨Z, fr, ph, F, h⟩ => ?_⟩
  by_cases hpu : pureX E sc (n + 1) e = true
  · rw [evT_eq, if_pos hpu] at h
    cases he : evP E sc fr (n + 1) e with
    | none => rw [he] at h; exact h.elim
    | some x =>
      rw [he] at h
      obtain ⟨k, e2, h⟩ := h.ofO
      exact ((pure_ok L.toLk (n + 1)).t e).run pins s σ H Q I ⟨Z, fr, ph, x, k, F, he, e2, fun H' k' => h H' Z ph (F.grow k') (stp_of_grow k')⟩
  · rw [evT_eq, if_neg hpu] at h
    have hc := (ih n (Nat.le_refl _)).c L
    cases e with
    | UnaryOp op a pos =>
      cases op with
      | Not =>
        refine (pt_not ((ih n (Nat.le_refl _)).t L a)).run pins s σ H Q I ?_
        refine ⟨Z, fr, ph, F, GR.mono (GR.bind h) (fun _ _ z => z) fun k fr1 h1 => fun H1 Z1 ph1 F1 s1 => h1 H1 Z1 ph1 F1 s1⟩
      | _ => exact (t_plain L.toLk (hc _) rfl).run pins s σ H Q I ⟨Z, fr, ph, F, h⟩
    | BoolOp op es pos => exact absurd ⟨op, es, pos, rfl⟩ hb
    | IfExp t a b pos => exact h.elim
    | Compare a ops bs pos =>
      match ops, bs, h with
      | [op], [b], h =>
        match n, h with
        | 0, h => exact h.elim
        | 1, h =>
          have : evC E sc 1 (.Compare a [op] [b] pos) fr = .stuck := by
            rw [evC]
            split <;> rfl
          have h1 := GR.bind h
          rw [this] at h1
          exact h1.elim
        | k + 2, h =>
          by_cases hs : isSet b = true
          · have : evC E sc (k + 2) (.Compare a [op] [b] pos) fr = .stuck := by rw [evC, if_pos hs]
            have h1 := GR.bind h
            rw [this] at h1
            exact h1.elim
          · exact (c_cmp L.toLk ((ih k (by omega)).o L) (by simpa using hs)).2.run pins s σ H Q I ⟨Z, fr, ph, F, h⟩
      | [], _, h => cases n <;> exact h.elim
      | [_], [], h => cases n <;> exact h.elim
      | [_], _ :: _ :: _, h => cases n <;> exact h.elim
      | _ :: _ :: _, _, h => cases n <;> exact h.elim
    | _ => exact (t_plain L.toLk (hc _) rfl).run pins s σ H Q I ⟨Z, fr, ph, F, h⟩
theorem pts_none {es : List Expr} {t : TT} (h : ∀ σ H Q, ¬ t σ H Q) : PTs X es t := ⟨fun pins s σ H Q I q => (h σ H Q q).elim⟩
theorem pi_none {iter : Expr} {t : TI} (h : ∀ σ H Q, ¬ t σ H Q) : PI X tg iter t := ⟨fun pins s σ H Q I q => (h σ H Q q).elim⟩
theorem ts_ok (ht : ∀ e, PT X e (tT G W (evT E sc n e))) (es : List Expr) : PTs X es (tT G W (evTs E sc (n + 1) es)) := by
  match es with
  | [] => exact ⟨fun pins s σ H Q I ⟨Z, fr, ph, F, h⟩ => pts_nil.run pins s σ H Q I (h H Z ph F Stp.refl)⟩
  | [c] => exact pts_one (ht c)
  | _ :: _ :: _ => exact pts_none fun σ H Q ⟨Z, fr, ph, F, h⟩ => h
theorem eff_zero : EffOk G E 0 where
  v := fun L e => stuck_v fun fr => rfl
  o := fun L e => pe_none fun σ H Q ⟨Z, fr, ph, F, q⟩ => q
  c := fun L e => stuck_v fun fr => by cases e <;> rfl
  t := fun L e => stuck_t fun fr => rfl
  w := fun L op es pos => pw_none fun σ H Q ⟨Z, fr, ph, F, q⟩ => q
  ts := fun L es => by
    match es with
    | [] => exact ⟨fun pins s σ H Q I ⟨Z, fr, ph, F, h⟩ => pts_nil.run pins s σ H Q I (h H Z ph F Stp.refl)⟩
    | [c] => exact pts_none fun σ H Q ⟨Z, fr, ph, F, h⟩ => h
    | _ :: _ :: _ => exact pts_none fun σ H Q ⟨Z, fr, ph, F, h⟩ => h
  src := fun L tg iter => pi_none fun σ H Q ⟨Z, fr, ph, F, h⟩ => h
  wk := fun L e => pe_none fun σ H Q ⟨Z, fr, ph, F, q⟩ => q
theorem eff_ok : ∀ n m, m ≤ n → EffOk G E m
  | 0, m, h => by
    obtain rfl : m = 0 := by omega
    exact eff_zero
  | n + 1, m, h => by
    by_cases q : m ≤ n
    · exact eff_ok n m q
    · obtain rfl : m = n + 1 := by omega
      have ih := eff_ok n
      have base := ih n (Nat.le_refl _)
      have hw : ∀ {X sc W}, Cw G E X sc W → ∀ op es pos, PW X (.BoolOp op es pos) (tT G W (evT E sc (n + 1) (.BoolOp op es pos))) := fun L => w_one (pure_ok L.toLk (n + 1)).w (base.t L) (base.w L)
      exact { v := fun L e => evV_ok L.toLk (base.c L e)
              o := fun L e => evO_ok L.toLk (base.c L e)
              c := fun L e => c_all ih L e
              t := fun L e => t_one L ih (hw L) e
              w := hw
              ts := fun L es => ts_ok (base.t L) es
              src := fun L tg iter => c_src L.toLk (fun m hm => (ih m hm).o L) (base.wk L) iter
              wk := fun L e => c_walk L.toLk (base.c L) e }
theorem eff (n : Nat) : EffOk G E n := eff_ok n n (Nat.le_refl _)
end Bw

set_option maxHeartbeats 4000000
namespace PySem
namespace ExcX
open PySem.W PySem.Calls PyProof.Rows PySem.HandSPX
/-! ### an own exception class with one field (after skel/42), class and field by variables -/
def iA (f : Str) (p1 p2 : Pos) : Arguments := { posonlyargs := [], args := [{ arg := "self", annotation := none, pos := p1 }, { arg := f, annotation := none, pos := p2 }], vararg := none, kwonlyargs := [], kw_defaults := [], kwarg := none, defaults := [] }
def iB (f : Str) (q1 q2 q3 q4 : Pos) : List Stmt := [.Assign [.Attribute (.Name "self" q1) f q2] (.Name f q3) q4]
def iS (f : Str) : Scope := { kind := .function, names := [(PySem.Str.ofString "self", .local), (f, .local)], isGenerator := false, isCoroutine := false, more := [] }
/-- what is checked for a field's name -/
structure FldOk (f : Str) : Prop where
  fs : (f == ("self" : Str)) = false
  fd : (f == ("__debug__" : Str)) = false
  bd : ∀ (qn : Str) (kV doc pm : Value) (an : Option Addr) (cdv ct x v : Value) (p1 p2 q1 q2 q3 q4 : Pos), bindArgs (fnOf "__init__" qn (iA f p1 p2) (iB f q1 q2 q3 q4) (iS f) .none kV doc pm an cdv ct) ⟨[x, v], []⟩ = pure [(("self" : Str), x), (f, v)]
structure ExcTxt (K : Frag) (f qn : Str) (C fI : Addr) : Prop where
  fo : FldOk f
  cls : ∃ nm q N bs bm sn sub ab col dd k0 k1 k2 k3 k5, K.lookup C = some (excClassObj nm q C N bs bm true sn sub ab col dd k0 k1 k2 k3 k5 "ValueError.__new__") ∧ refsVE bm = true
  sa : findIn K (.ref C) "__setattr__" = some (some (.builtin "object.__setattr__"))
  ga : findIn K (.ref C) "__getattribute__" = some (some (.builtin "BaseException.__getattribute__"))
  gg : findIn K (.ref C) "__getattr__" = some none
  noN : findIn K (.ref C) f = some none
  iC : findIn K (.ref C) "__init__" = some (some (.ref fI))
  tC : typeIn K (.ref fI) = some (.type "function")
  kC : keepIn K (.ref C) = true
  exC : subIn K (.ref C) (.type "BaseException") = some true
  tyC : typeIn K (.ref C) = some (.type "type")
  hdC : hasDictIn K C = true
  fn : ∃ (oc : Value) (od : Option Addr) (kV doc pm : Value) (an : Option Addr) (cdv ct : Value) (osl : Array (Option Value)) (p1 p2 q1 q2 q3 q4 : Pos),
    K.lookup fI = some ⟨oc, od, .func (fnOf "__init__" qn (iA f p1 p2) (iB f q1 q2 q3 q4) (iS f) .none kV doc pm an cdv ct), osl⟩ ∧ codeIn K cdv qn = true
theorem one_size (v : Value) : [v].length ≤ sizeLine := by
  rw [sizeLine_eq]
  exact (by decide : 1 ≤ 16777216)
theorem ldC {M : Model} {s : Shared} {name : Str} {scope : Scope} {L a : Addr} {cd : Value} {m : Str → Option Value} {x : Str} {pos : Pos} {v : Value} {Q : Value → Shared → Prop} {A : Around} {E : Value → Shared → Prop} (hn : s.heap.Ns L m) (hv : m x = some v) (h : Q v s)
    (hk : scope.kind = .function) (hl : (envOfC name scope L a cd).kindOf x = some .local) (hd : (x == ("__debug__" : Str)) = false) :
    wpAny M A (eval (.Name x pos) (envOfC name scope L a cd)) Q E s := wpAny_Name (wpAny_loadName_local hk hl hn hv h) hd
structure InitEnd (h h' : Heap) (x C dx t1 : Addr) (f : Str) (v : Value) : Prop where
  keep : ∀ b o, b ≠ x → h.get? b = some o → h'.get? b = some o
  obj : h'.get? x = some { cls := .ref C, dict := some dx, data := .fields #[.ref t1, .none, .none, .none, .bool false, .none] }
  dbig : h.objs.size ≤ dx
  dne : dx ≠ x
  ns : h'.Ns1 dx (fun y => if y = f then some v else none)
structure OwnMade (h h' : Heap) (e C d : Addr) (f : Str) (v : Value) : Prop where
  keep : ∀ b o, h.get? b = some o → h'.get? b = some o
  new : h.objs.size ≤ e
  obj : ∃ oe vs, h'.get? e = some oe ∧ oe.cls = .ref C ∧ oe.dict = some d ∧ oe.data = .fields vs ∧ vs[1]? = some .none
  dbig : h.objs.size ≤ d
  dne : d ≠ e
  ns : h'.Ns1 d (fun y => if y = f then some v else none)
section
variable {prog : Program} {w : World} {A : Around} {E : Value → Shared → Prop} {R : Result → Shared → Prop} {s : Shared} {K : Frag} {f qn : Str} {C fI : Addr}
theorem exc_init (T : ExcTxt K f qn C fI) {x t0 : Addr} {v : Value} (X : K.In s.heap) (hlim : s.heap.NoLimit) (hx : s.heap.get? x = some (excO C t0)) (hnx : K.lookup x = none) (hroom : A.depth < recursionLimit)
    (hq : ∀ h' tk dx, InitEnd s.heap h' x C dx t0 f v → R (.ok (.ret .none)) { s with heap := h', toks := tk }) :
    codeAny (model prog w) A (.call (.ref fI) ⟨[.ref x, v], []⟩) R s := by
  obtain ⟨oc, od, kV, doc, pm, an, cdv, ct, osl, p1, p2, q1, q2, q3, q4, ho, hcd⟩ := T.fn
  obtain ⟨nm, q, N, bs, bm, sn, sub, ab, col, dd, k0, k1, k2, k3, k5, hC, hbm⟩ := T.cls
  have hfs := T.fo.fs
  have hfs' : ¬ (f = ("self" : Str)) := by simpa using hfs
  have hcl : clsIn K C = some { name := nm, bases := bs, mro := .ref C :: bm, ns := N, qualname := q, hasDict := true, slotNames := sn, subclasses := sub, abstract := ab, collection := col, hasDel := false } := by unfold clsIn; rw [hC] <;> rfl
  refine Att.call_fn (binds := [("self", .ref x), (f, v)]) X hlim ho hcd hroom (BindsTo.of_eq (T.fo.bd _ _ _ _ _ _ _ _ _ _ _ _ _ _ _)) (by simp [iS, List.lookup, hfs]) (fun s₁ IC => ?_) rfl rfl rfl
  obtain ⟨h₁, tk₁, rfl⟩ := IC.toInCall.same
  have k : ∀ b o, s.heap.get? b = some o → h₁.get? b = some o := IC.toInCall.keep
  have hn := IC.toInCall.ns
  have hxL : s.heap.objs.size ≠ x := Nat.ne_of_gt (Heap.lt_size hx)
  have X₁ : K.In h₁ := X.keeps k
  have hx₁ := k _ _ hx
  show wpAny _ _ (execs _ _) _ _ _
  refine wpAny_execs_cons (plainObj_wpAny_Assign_Attribute ?_)
  have hkf : ∀ L a cd, (envOfC qn (iS f) L a cd).kindOf f = some .local := fun L a cd => by show List.lookup f (iS f).names = some .local; simp [iS, List.lookup, hfs]
  have hks : ∀ L a cd, (envOfC qn (iS f) L a cd).kindOf ("self" : Str) = some .local := fun L a cd => rfl
  refine ldC (v := v) hn (by simp only [bindL, hkf, hks]; simp) ?_ rfl (by show List.lookup f (iS f).names = some .local; simp [iS, List.lookup, hfs]) T.fo.fd
  refine ldC (v := .ref x) hn (by simp only [bindL, hkf, hks]; simp [Ne.symm hfs', fun z : ("self" : Str) = f => hfs' z.symm]) ?_ rfl (by rfl) (by decide)
  refine set_plain X₁ (ox := excO C t0) (od := none) ⟨hx₁, rfl, rfl, trivial⟩ T.sa ?_
  refine exc_osa X₁ hx₁ hcl (show refsVE (.ref C :: bm) = true from hbm) rfl T.noN (fun h₃ tk₃ dx k₃ dn dne hx₃ hn₃ => ?_)
  show wpAny _ _ (execs _ _) _ _ _
  have z : s.heap.objs.size < h₁.objs.size := hn.lt
  exact wpAny_execs_nil (hq h₃ tk₃ dx ⟨fun b o hb e => k₃ b o hb (k b o e), hx₃, Nat.le_of_lt (Nat.lt_of_lt_of_le z dn), dne, hn₃⟩)
theorem exc_made (T : ExcTxt K f qn C fI) {v : Value} (X : K.In s.heap) (hlim : s.heap.NoLimit) (hroom : A.depth + 1 < recursionLimit)
    (hq : ∀ h' tk e d, OwnMade s.heap h' e C d f v → R (.ok (.ret (.ref e))) { s with heap := h', toks := tk }) :
    codeAny (model prog w) A (.call (.ref C) ⟨[v], []⟩) R s := by
  obtain ⟨nm, q, N, bs, bm, sn, sub, ab, col, dd, k0, k1, k2, k3, k5, hC, hbm⟩ := T.cls
  obtain ⟨hp, g, dr, tk, os⟩ := s
  have k : ∀ b o, hp.get? b = some o → ((hp.push (kdv_tup [v])).push (excO C hp.objs.size)).get? b = some o := fun b o e => Heap.get?_push_of_some _ (Heap.get?_push_of_some _ e)
  have hget : ((hp.push (kdv_tup [v])).push (excO C hp.objs.size)).get? (hp.objs.size + 1) = some (excO C hp.objs.size) := by heap_get
  have hnx : K.lookup (hp.objs.size + 1) = none := by
    cases e : K.lookup (hp.objs.size + 1) with
    | none => rfl
    | some o =>
      have z : hp.get? (hp.objs.size + 1) = some o := X _ _ e
      exact absurd (Nat.lt_of_succ_lt (Heap.lt_size z)) (Nat.lt_irrefl _)
  refine call_own F.excBase_ValueError (fun X => refsVE_contains X bm hbm) (X _ _ hC) (looks_findIn X T.iC) (fun self => bind_fn X self T.tC) (one_size v) ?_
  refine exc_init (s := ⟨(hp.push (kdv_tup [v])).push (excO C hp.objs.size), g, dr, tk, os⟩) T (X.keeps k) (hlim.keeps k) hget hnx ?_ fun h' tk' dx ⟨k', hx, dn, dne, hns⟩ => ?_
  · show A.depth + 1 < recursionLimit
    exact hroom
  · have old : ∀ b o, hp.get? b = some o → h'.get? b = some o := fun b o e => k' b o (Nat.ne_of_lt (Nat.lt_succ_of_lt (Heap.lt_size e))) (k b o e)
    have z : hp.objs.size + 1 + 1 ≤ dx := by
      first
        | (simpa only [Heap.size_push] using dn)
        | exact dn
        | (have q := dn; rw [Heap.size_push, Heap.size_push] at q; exact q)
    exact ⟨rfl, hq h' tk' (hp.objs.size + 1) dx ⟨old, Nat.le_succ _, ⟨_, _, hx, rfl, rfl, rfl, rfl⟩, Nat.le_trans (Nat.le_trans (Nat.le_succ _) (Nat.le_succ _)) z, dne, hns⟩⟩
end
end ExcX
end PySem
namespace L2
open PySem PySem.Spec PyProof.Rows
theorem relO_exc {v : V} {v' : Value} (g : Str) (r : RelV v v') (f : Str) : RelO (List.lookup f [(g, v)]) (if f = g then some v' else none) := by
  by_cases hw : f = g
  · subst hw
    rw [if_pos rfl]
    have q : List.lookup f [(f, v)] = some v := by simp [List.lookup]
    rw [q]
    exact r
  · rw [if_neg hw]
    have qw : (f == g) = false := by simpa using hw
    have q2 : List.lookup f [(g, v)] = none := by simp [List.lookup, qw]
    rw [q2]
    trivial
section
variable {X : Cx} {C fI : Addr} {f qn : Str}
def tMkX (C : Addr) (f : Str) (ta : TA) : St → Hp → XK → Prop := fun σ H Q => ta σ H fun vs H1 => ∃ v, vs = [v] ∧ ∀ d, H1 d = none → Q (.ref C) (some d) (upd H1 d (.xd [(f, v)]))
theorem pmk_exc {x : Str} {a : Expr} {ta : TA} {p pos : Pos} {k : Nat} (T : PySem.ExcX.ExcTxt X.K f qn C fI) (gC : X.mg x = some (.ref C)) (hdb : (x == ("__debug__" : Str)) = false) (hr : Room k X.A) (ha : PA X [a] ta) (hg : Gl X x)
    (he : starEach (a :: []) X.env = (false, eval a X.env) :: starEach [] X.env) :
    PMk X (.Call (.Name x p) [a] [] pos) (tMkX C f ta) := by
  intro pins s σ H Q I h
  refine wpAny_Call_Name_kw (ld_glob I hg gC ?_ hdb)
  refine PySem.W.callWith_K (h₀ := X.base) I.ok.mod.kin T.kC (thn (ha.run pos pins s σ H _ I h) fun us s1 hh => ?_) he rfl
  obtain ⟨vs, H1, I1, r1, v, ev, q1⟩ := hh
  subst ev
  refine ⟨I1.kIn, ?_⟩
  cases r1 with
  | cons rv rn =>
    rename_i v' us'
    cases rn
    show wpAny _ _ (call (.ref C) [v']) _ _ _
    have hlim := I1.nolimit
    obtain ⟨hp, g, dr, tk, os⟩ := s1
    refine wpAny_call (PySem.ExcX.exc_made T I1.kIn hlim (by have := hr.dp; omega) fun h' tk' e d M => ?_)
    show MkP X pins σ Q (.ref e) ⟨h', g, dr, tk', os⟩
    obtain ⟨oe, fv, hoe, hc, hd, hdat, h1⟩ := M.obj
    have hns := M.ns
    obtain ⟨G', g1, g2⟩ := restrict h' fun b => decide (b ≠ e)
    have gk : ∀ b, b ≠ e → G'.get? b = h'.get? b := fun b hb => g1 b (decide_eq_true hb)
    have ge : G'.get? e = none := g2 e (by simp)
    have old : ∀ b o, hp.get? b = some o → G'.get? b = some o := fun b o q => (gk b (Nat.ne_of_lt (Nat.lt_of_lt_of_le (Heap.lt_size q) M.new))).trans (M.keep b o q)
    have ob : ObjOk X.prog X.w (upd H1 d (.xd [(f, v)])) G' d (.xd [(f, v)]) :=
      ⟨_, hns.at (fun o q => (gk d M.dne).trans q), fun y => relO_exc f rv y⟩
    have J : Inv X pins σ (upd H1 d (.xd [(f, v)])) ⟨G', g, dr, tk', os⟩ := I1.laid (t' := tk') old M.dbig ob
    refine ⟨e, oe, fv, ⟨G', g, dr, tk', os⟩, _, .ref C, some d, rfl, J, fun b o q => ?_, ge, hoe, ⟨hc, hd⟩, hdat, h1, ?_, rfl, I1.bare, raises_own T.exC T.tyC, q1 d (I1.hok.fresh M.dbig)⟩
    · by_cases hb : b = e
      · have q' : G'.get? b = some o := q
        rw [hb, ge] at q'; cases q'
      · exact (gk b hb).symm.trans q
    · rw [upd_ne (Ne.symm M.dne)]
      exact I1.hok.fresh M.new
/-- e.f, e the exception that the suite holds -/
def tByX (f : Str) (C : Addr) (a : Addr) (cls : Value) (d : Option Addr) (te : TE) : TE := fun σ H Q => te σ H fun x H1 => x = .ref a ∧ cls = .ref C ∧ ∃ (dd : Addr) (v : V), d = some dd ∧ H1 dd = some (.xd [(f, v)]) ∧ Q v H1
theorem pe_byX {a : Addr} {oe : Obj} {cls : Value} {d : Option Addr} {pn : List (Addr × Obj)} {e : Expr} {te : TE} {pos : Pos} (T : PySem.ExcX.ExcTxt X.K f qn C fI) (hz : Zc cls d oe) (hf : ∃ vs, oe.data = .fields vs) (he : PE (X.suite a ((a, oe) :: pn)) e te)
    (hb : attributeBase e f X.env (eval e X.env) = eval e X.env) :
    PE (X.suite a ((a, oe) :: pn)) (.Attribute e f pos) (tByX f C a cls d te) := by
  refine ⟨fun pins s σ H Q I h => ?_⟩
  refine attr_of hb (thn (he.run pins s σ H _ I h) fun u s1 hh => ?_)
  obtain ⟨x, H1, I1, rx, ex, ec, dd, v, ed, ea, q⟩ := hh
  subst ex
  obtain rfl : u = Value.ref a := rx
  subst ec
  subst ed
  obtain ⟨ha, _⟩ := I1.pin (a, oe) (List.mem_append_left _ List.mem_cons_self)
  obtain ⟨vs, hd⟩ := hf
  have hx : ObjOk X.prog X.w H1 s1.heap dd (.xd [(f, v)]) := I1.hok dd _ ea
  obtain ⟨mA, hns, hr⟩ := hx
  obtain ⟨od, ho, hl⟩ := lookIn_ns hns
  have l : List.lookup f [(f, v)] = some v := by simp [List.lookup]
  obtain ⟨u, hu, ru⟩ := RelO.some_of (v := v) (o := mA f) (by rw [← l]; exact hr f)
  have J : PySem.W.InstAt s1.heap a oe C (some od) := ⟨ha, hz.1, by unfold PySem.W.notCls; rw [hd] <;> rfl, by rw [hz.2]; exact ho⟩
  exact HandSPX.exc_get I1.kIn J T.ga T.gg T.exC (PySem.W.findObj_own T.hdC T.noN rfl (by rw [hl, hu])) (handed_of ru) ⟨v, H1, I1.tok _, ru, q⟩
end
/-! ### several clauses, each with its name -/
def wManyA (K : PySem.W.Frag) (Wout : WX) (D : Ends) : List (Value × Nat × (Addr → Value → Option Addr → TS)) → WX
  | [] => Wout
  | (c, i, ts) :: r => fun cls d σ H => ∃ b, PySem.W.exmOne K cls c = some b ∧ (b = true → ∀ a, H a = none → ts a cls d { nx := fun σ' H' => D.nx (σ'.set i none) H', rt := D.rt, bk := fun σ' H' => D.bk (σ'.set i none) H', ct := fun σ' H' => D.ct (σ'.set i none) H' } (σ.set i (some (.ref a))) H) ∧ (b = false → wManyA K Wout D r cls d σ H)
inductive HdsOkA (X : Cx) : List ExceptHandler → List (Value × Nat × (Addr → Value → Option Addr → TS)) → Prop
  | nil : HdsOkA X [] []
  | cons {x n : Str} {i : Nat} {c : Value} {ts : Addr → Value → Option Addr → TS} {b₀ : Stmt} {suite : List Stmt} {np pos' : Pos} {hds : List ExceptHandler} {l : List (Value × Nat × (Addr → Value → Option Addr → TS))} (hc : Names X x c) (hi : X.N[i]? = some n) (hln : X.env.kindOf n = some .local)
      (hsu : ∀ (a : Addr) (oe : Obj) (cls : Value) (d : Option Addr) (pn : List (Addr × Obj)), Zc cls d oe → (∃ vs, oe.data = .fields vs) → PSs (X.suite a ((a, oe) :: pn)) (b₀ :: suite) (ts a cls d)) (r : HdsOkA X hds l) :
      HdsOkA X (.ExceptHandler (some (.Name x np)) (some n) (b₀ :: suite) pos' :: hds) ((c, i, ts) :: l)
section
variable {X : Cx} {body : List Stmt} {h₀ : ExceptHandler} {hds : List ExceptHandler} {l : List (Value × Nat × (Addr → Value → Option Addr → TS))} {pos : Pos} {tb : WX → TS} {Wout : WX}
theorem ps_try_manyA (hs : X.stack = X.env :: X.outer) (hf : X.env.frame = some X.env.locals) (hN : X.N.Nodup) (tk : Takes X Wout)
    (hb : ∀ (W : WX) (pn : List (Addr × Obj)) (xe : Value → Shared → Prop), Takes (X.tr pn xe) W → PassesOwn (model X.prog X.w) X.A X.env xe → PSs (X.tr pn xe) body (tb W))
    (hh : HdsOkA X (h₀ :: hds) l) : PS X (.Try body (h₀ :: hds) [] [] pos) (fun D σ H => tb (wManyA X.K Wout D l) D σ H) := by
  refine ⟨fun pins s σ H D I h => ?_⟩
  have ok := I.ok
  have hfr : X.A.frames = some (X.env :: X.outer) := by rw [ok.frames, hs]
  refine wpAny_Try_except ?_
  refine wpAny_mono ((hb (wManyA X.K Wout D l) (X.pn ++ pins) (fun e s₁ => wpAny (model X.prog X.w) X.A (noteFrame e X.env) (fun _ s₂ => wpAny (model X.prog X.w) X.A (setFlight e none) (fun _ s₃ =>
    wpAny (model X.prog X.w) X.A (handleBy e X.env (h₀ :: hds)) (SP X pins D) X.xe s₃) X.xe s₂) X.xe s₁) (fun u s' xx => ?_) PassesOwn.looking).run [] s σ H D (I.toTry _) h) (fun f s1 hsp => ?_) (fun e s1 he => he)
  · obtain ⟨a, B, sI, pins', σ', H', cls, d, rfl, J', nb, up, sky, na, os, ag, w⟩ := xx
    have J : Inv X pins σ' H' sI := J'.ofTry ok
    have sky' : Sky B (X.env :: X.outer) a (Zc cls d) X.env.locals s'.heap := by rw [← hs]; exact sky
    show wpAny (model X.prog X.w) X.A (noteFrame (.ref a) X.env) _ _ _
    refine Sky.land Zc.steady hfr hf sky' fun h3 fl3 up3 => ?_
    have J3 : Inv X pins σ' H' { s' with heap := h3 } := J.landed nb fl3.1 (up.trans up3) os ag
    obtain ⟨oe3, vs3, he3, hz3, hd3⟩ := fl3.there
    have notFr : ∀ {h : Heap} {o : Obj} {vs : Array Value}, h.FunFrames B (X.env :: X.outer) → h.get? a = some o → o.data = .fields vs → a ∉ frs (X.env :: X.outer) := fun {h o vs} ff e dd hm => by
      obtain ⟨_, o', e', hnf⟩ := ff.mem hm
      rw [e] at e'; cases e'
      exact hnf _ dd
    have nfr := notFr fl3.2.2.1 he3 hd3
    have nL : a ≠ X.env.locals := fun z => nfr (List.mem_filterMap.mpr ⟨X.env, List.mem_cons_self, by rw [hf, z]⟩)
    have nF : a ∉ X.fs := fun hm => by
      obtain ⟨e, he, q⟩ := List.mem_filterMap.mp hm
      exact nfr (List.mem_filterMap.mpr ⟨e, List.mem_cons_of_mem _ he, q⟩)
    have S3 := J3.suite he3 hd3 na nL nF
    have go : ∀ {hds' : List ExceptHandler} {l' : List (Value × Nat × (Addr → Value → Option Addr → TS))}, HdsOkA X hds' l' → wManyA X.K Wout D l' cls d σ' H' →
        wpAny (model X.prog X.w) X.A (handleBy (.ref a) X.env hds') (SP X pins D) X.xe { s' with heap := h3 } := by
      intro hds' l' hk
      induction hk with
      | nil =>
        intro w
        refine wpAny_handleBy_nil ?_
        obtain ⟨k1, k2, k3, oe, vs, T, oT, ts', he, hz, hd, h1, hr⟩ := id fl3
        unfold PySem.passOn
        refine wpAny_bind (wpAny_field he hd h1 ?_)
        rw [if_neg (show ¬ ((Value.ref T == Value.none) = true) from by simp)]
        have fin : wpAny (model X.prog X.w) X.A (setFlight (.ref a) X.env.frame) (fun _ s4 => wpAny (model X.prog X.w) X.A (throw (.ref a) : Sem Flow) (SP X pins D) X.xe s4) X.xe { s' with heap := h3 } := by
          rw [hf]
          refine HandSPX.setFlight_upZ fl3 fun h4 hh4 up4 => wpAny_throw (tk _ _ ?_)
          exact ⟨a, B, sI, pins, σ', H', cls, d, rfl, J, nb, (up.trans up3).trans up4, .inr (.inr (by rw [hs]; exact hh4)), na, os, ag, w⟩
        first
          | exact wpAny_bind (wpAny_pure (wpAny_bind fin))
          | exact wpAny_bind fin
      | @cons x n i c ts b₀ suite np pos' hds2 l2 hc hi hln hsu r ih =>
        intro w
        obtain ⟨b, hb1, hyes, hno⟩ := w
        have hloc : Loc X.env.scope n := .inl hln
        refine wpAny_handleBy_cons (codeAny_handlers_test ?_) (by intro q; cases q)
        have LT : PySem.W.Looks (model X.prog X.w) h3 (typeOf (.ref a)) cls := fun A Q E s k q => wpAny_typeOf_ref (k _ _ he3) (by rw [hz3.1]; exact q)
        have LM := PySem.W.exm_one (M := model X.prog X.w) (J3.kIn) LT hb1
        have test : ∀ {Q : Value → Shared → Prop} {E : Value → Shared → Prop}, Q c { s' with heap := h3 } → wpAny (model X.prog X.w) (X.A.mark (some (.ref a))) (eval (.Name x np) X.env) Q E { s' with heap := h3 } := fun {Q E} q => by
          obtain ⟨hg, hdbg, hm | ⟨hm, hv, hnn⟩⟩ := hc
          · exact ld_glob (X := X.suite a ((a, oe3) :: (X.pn ++ pins))) S3 hg hm q hdbg
          · exact ld_blt (X := X.suite a ((a, oe3) :: (X.pn ++ pins))) S3 hg hm hv q hnn hdbg
        refine test (LM.here ?_)
        cases b with
        | true =>
          refine codeAny_handlers_suite_as ?_
          refine HandSPX.lands_againZ fl3 fun h4 fl4 up4 => ?_
          have J4 : Inv X pins σ' H' { s' with heap := h4 } := J.landed nb fl4.1 ((up.trans up3).trans up4) os ag
          obtain ⟨oe4, vs4, he4, hz4, hd4⟩ := fl4.there
          have S4 := J4.suite he4 hd4 na nL nF
          refine store_ok (X := X.suite a ((a, oe4) :: (X.pn ++ pins))) (v := .ref a) S4 hN hi hloc rfl (fun s5 S5 => ?_) (.inr hln)
          refine wpAny_mono ((hsu a oe4 cls d (X.pn ++ pins) hz4 ⟨_, hd4⟩).run [] s5 _ H' _ S5 (hyes rfl a na)) (fun f s6 hsp => ?_) (fun _ _ z => False.elim z)
          have end_ : ∀ {σ6 : St} {H6 : Hp} {Q : Shared → Prop}, Inv (X.suite a ((a, oe4) :: (X.pn ++ pins))) [] σ6 H6 s6 → (∀ s7, Inv X pins (σ6.set i none) H6 s7 → Q s7) →
              wpAny (model X.prog X.w) X.A (do bindName X.env n .none; unbindBehindTheSuite X.env n pos') (fun _ s7 => Q s7) X.xe s6 := fun {σ6 H6 Q} S6 hq => gone_ok (S6.unsuite ok) hN hi hln hq
          cases f with
          | next =>
            obtain ⟨σ6, H6, S6, q6⟩ := hsp
            exact end_ S6 fun s7 J7 => ⟨_, _, J7, q6⟩
          | brk =>
            obtain ⟨σ6, H6, S6, q6⟩ := hsp
            exact end_ S6 fun s7 J7 => ⟨_, _, J7, q6⟩
          | cont =>
            obtain ⟨σ6, H6, S6, q6⟩ := hsp
            exact end_ S6 fun s7 J7 => ⟨_, _, J7, q6⟩
          | ret u =>
            obtain ⟨v6, σ6, H6, S6, r6, q6⟩ := hsp
            exact end_ S6 fun s7 J7 => ⟨_, _, _, J7, r6, q6⟩
        | false =>
          show wpAny _ X.A (handleBy (.ref a) X.env hds2) _ _ _
          exact ih (hno rfl)
    exact go hh w
  · cases f with
    | next =>
      obtain ⟨σ', H', J', q⟩ := hsp
      exact wpAny_execs_nil ⟨σ', H', J'.ofTry ok, q⟩
    | brk =>
      obtain ⟨σ', H', J', q⟩ := hsp
      exact ⟨σ', H', J'.ofTry ok, q⟩
    | cont =>
      obtain ⟨σ', H', J', q⟩ := hsp
      exact ⟨σ', H', J'.ofTry ok, q⟩
    | ret u =>
      obtain ⟨v, σ', H', J', r, q⟩ := hsp
      exact ⟨v, σ', H', J'.ofTry ok, r, q⟩
end
end L2

set_option maxHeartbeats 4000000
namespace Bw
open PySem PySem.Spec PyProof.Rows L2
/-- how a statement ends -/
inductive Flo where
  | nx | bk | ct
  | rt (t : T)
def isCompE : Expr → Bool
  | .ListComp .. => true
  | .SetComp .. => true
  | .DictComp .. => true
  | _ => false
def isLC : Expr → Bool
  | .ListComp _ [⟨_, _, _, .ofNat 0⟩] _ _ => true
  | .ListComp _ [⟨_, _, _, .ofNat 0⟩, ⟨_, _, _, .ofNat 0⟩] _ _ => true
  | _ => false
/-- the slots that a target stores -/
def slotsX (N : List Str) : Expr → List Nat
  | .Name x _ => (match slotOf N x with | some i => [i] | none => [])
  | .Tuple es _ _ => es.filterMap fun e => match e with | .Name x _ => slotOf N x | _ => none
  | _ => []
mutual
/-- the slots that a statement may store -/
def asgS (N : List Str) : Stmt → List Nat
  | .Assign ts _ _ => ts.flatMap (slotsX N)
  | .AugAssign t _ _ _ => slotsX N t
  | .For t _ b e _ => slotsX N t ++ asgSs N b ++ asgSs N e
  | .While _ b e _ => asgSs N b ++ asgSs N e
  | .If _ a b _ => asgSs N a ++ asgSs N b
  | .Try b hs o f _ => asgSs N b ++ asgHs N hs ++ asgSs N o ++ asgSs N f
  | _ => []
def asgSs (N : List Str) : List Stmt → List Nat
  | [] => []
  | s :: r => asgS N s ++ asgSs N r
def asgHs (N : List Str) : List ExceptHandler → List Nat
  | [] => []
  | .ExceptHandler _ n b _ :: r => (match n with | some x => (match slotOf N x with | some i => [i] | none => []) | none => []) ++ asgSs N b ++ asgHs N r
end
def notPow : Operator → Bool
  | .Pow => false
  | _ => true
theorem asgHs_cons {N : List Str} {ty : Option Expr} {n : Option Str} {b : List Stmt} {p : Pos} {r : List ExceptHandler} : asgHs N (.ExceptHandler ty n b p :: r) = (match n with | some x => (match slotOf N x with | some i => [i] | none => []) | none => []) ++ asgSs N b ++ asgHs N r := rfl
def seqM (m k : M Flo) : M Flo := fun fr => match m fr with
  | .ok .nx fr' => k fr'
  | r => r
/-- a loop's turns -/
def forL (g : Sum Nat (List Nat)) (body : M Flo) (s : Src) : List D → M Flo
  | [] => fun fr => if guardOk s fr then .ok .nx fr else .stuck
  | x :: r => fun fr => if guardOk s fr then
      match storeTg g s.pairs x fr with
      | some fr1 => (match body fr1 with
        | .ok .nx fr2 => forL g body s r fr2
        | .ok .ct fr2 => forL g body s r fr2
        | .ok .bk fr2 => .ok .nx fr2
        | .ok (.rt t) fr2 => .ok (.rt t) fr2
        | .exn x fr2 => .exn x fr2
        | .stuck => .stuck)
      | none => .stuck
    else .stuck
def whileL (c : M Bool) (body : M Flo) : Nat → M Flo
  | 0 => fun _ => .stuck
  | k + 1 => fun fr => match c fr with
    | .ok false fr1 => .ok .nx fr1
    | .ok true fr1 => (match body fr1 with
      | .ok .nx fr2 => whileL c body k fr2
      | .ok .ct fr2 => whileL c body k fr2
      | .ok .bk fr2 => .ok .nx fr2
      | .ok (.rt t) fr2 => .ok (.rt t) fr2
      | .exn x fr2 => .exn x fr2
      | .stuck => .stuck)
    | .exn x fr1 => .exn x fr1
    | .stuck => .stuck
/-- a clause: its class, the error's slot, what it stores where: a tuple of a text and the error's field -/
structure Hdl where
  cls : Str
  slot : Nat
  to : Nat
  txt : Option Str
  fld : Str
/-- what a clause stores -/
def hdV (t : Option Str) (d : D) : D := match t with
  | some t => .tup [.str t, d]
  | none => d
def fldOf (x : Exn) (f : Str) : Option D := match x.fs with
  | [(g, d)] => if g = f then some d else none
  | _ => none
def isL (sc : Scope) (x : Str) : Bool := match sc.names.lookup x with
  | some .local => true
  | _ => false
/-- the first clause that names the error's class -/
def handle (hs : List Hdl) (x : Exn) : M Flo := match hs with
  | [] => fun fr => .exn x fr
  | h :: r => if h.cls = x.cls then (fun fr => match fldOf x h.fld with
      | some d => .ok .nx ((fr.set h.to (some (.d (hdV h.txt d)))).set h.slot none)
      | none => .stuck)
    else handle r x
def hdl1 (E : Ev) (sc : Scope) : ExceptHandler → Option Hdl
  | .ExceptHandler (some (.Name c _)) (some n) [.Assign [.Name y py] (.Tuple [.Constant (.str t) _ _, .Attribute (.Name n2 p3) f p4] _ _) _] _ =>
    if n2 = n && isL sc n && isL sc y && okName n && isGlob sc c && okName c then
      (slotOf E.N n).bind fun i => (slotOf E.N y).bind fun j => if i = j then none else (E.exs c).bind fun g => if g = f then some ⟨c, i, j, some t, f⟩ else none
    else none
  | .ExceptHandler (some (.Name c _)) (some n) [.Assign [.Name y py] (.Attribute (.Name n2 p3) f p4) _] _ =>
    if n2 = n && isL sc n && isL sc y && okName n && isGlob sc c && okName c then
      (slotOf E.N n).bind fun i => (slotOf E.N y).bind fun j => if i = j then none else (E.exs c).bind fun g => if g = f then some ⟨c, i, j, none, f⟩ else none
    else none
  | _ => none
def hdls (E : Ev) (sc : Scope) : List ExceptHandler → Option (List Hdl)
  | [] => some []
  | h :: r => match hdl1 E sc h, hdls E sc r with
    | some a, some b => some (a :: b)
    | _, _ => none
section
variable (E : Ev)
/-- return x: a local is handed over, a parameter is frozen -/
def moveN (sc : Scope) (fr : Fr) : Expr → Option (Nat × T)
  | .Name x _ => if isSlot sc x && okName x then (slotOf E.N x).bind fun i => if i < E.np then none else (match getS fr i with
      | some (.d _) => none
      | some t => some (i, t)
      | none => none) else none
  | _ => none
mutual
def evS (sc : Scope) : Nat → Stmt → M Flo
  | 0, _ => fun _ => .stuck
  | n + 1, .Pass _ => .pure .nx
  | n + 1, .Break _ => .pure .bk
  | n + 1, .Continue _ => .pure .ct
  | n + 1, .Expr e _ => if isCompE e then (fun _ => .stuck) else (evV E sc n e).bind fun _ => .pure .nx
  | n + 1, .Return none _ => .pure (.rt (.d .non))
  | n + 1, .Return (some e) _ => fun fr => match moveN E sc fr e with
    | some (i, t) => .ok (.rt t) (fr.set i none)
    | none => ((evV E sc n e).bind fun t => .pure (.rt t)) fr
  | n + 1, .If c a b _ => (evT E sc n c).bind fun k => if k then evSs sc n a else evSs sc n b
  | n + 1, .Assign [.Name x _] e _ => if isLoc sc x && (!isCompE e || isLC e) then (match slotOf E.N x with
      | some i => (evV E sc n e).bind fun t => fun fr => .ok .nx (fr.set i (some t))
      | none => fun _ => .stuck) else fun _ => .stuck
  | n + 1, .Assign [.Tuple es k p] (.Call f as ks q) _ => match tgt E.N sc (.Tuple es k p) with
    | some g => (evV E sc n (.Call f as ks q)).bind fun t => fun fr => (match storeTg g false (fz t) fr with
      | some fr1 => .ok .nx fr1
      | none => .stuck)
    | none => fun _ => .stuck
  | n + 1, .Assign [.Subscript (.Name x _) k _] e _ => if isSlot sc x && okName x && !isSlice k then (match slotOf E.N x with
      | some i => (evV E sc n e).bind fun u => fun fr => if (getS fr i).isSome then ((evO E sc n k).bind fun y => fun fr => (match getS fr i with
        | some t => (match storeT t y.1 u with
          | some t' => .ok .nx (fr.set i (some t'))
          | none => .stuck)
        | none => .stuck)) fr else .stuck
      | none => fun _ => .stuck) else fun _ => .stuck
  | n + 1, .AugAssign (.Name x _) op e _ => if isLoc sc x && okName x && notPow op then (match slotOf E.N x with
      | some i => fun fr => (match getS fr i with
        | some (.d (.int a)) => ((evO E sc n e).bind fun y => fun fr => (match y.1 with
          | .int b => (match intOp op a b with
            | some c => .ok .nx (fr.set i (some (.d (.int c))))
            | none => .stuck)
          | _ => .stuck)) fr
        | _ => .stuck)
      | none => fun _ => .stuck) else fun _ => .stuck
  | n + 1, .For tg iter body [] _ => if isSet iter then (fun _ => .stuck) else (match tgt E.N sc tg with
    | some g => (evSrc E sc n (isTup tg) iter).bind fun s => if guardFree s (tgIx g ++ asgSs E.N body) then forL g (evSs sc n body) s s.items else fun _ => .stuck
    | none => fun _ => .stuck)
  | n + 1, .While c body [] _ => whileL (evT E sc n c) (evSs sc n body) 1000000
  | n + 1, .Raise (some (.Call (.Name c _) [a] [] _)) none _ => if isGlob sc c && okName c && nostar [a] then (match E.exs c with
    | some f => (evV E sc n a).bind fun t => fun fr => if imm (fz t) then .exn ⟨c, [(f, fz t)]⟩ fr else .stuck
    | none => fun _ => .stuck) else fun _ => .stuck
  | n + 1, .Try body hs [] [] _ => match hdls E sc hs with
    | some hs => if hs.isEmpty then (fun _ => .stuck) else fun fr => (match evSs sc n body fr with
      | .exn x fr1 => if (E.exs x.cls).isSome then handle hs x fr1 else .stuck
      | r => r)
    | none => fun _ => .stuck
  | _ + 1, _ => fun _ => .stuck
def evSs (sc : Scope) : Nat → List Stmt → M Flo
  | _, [] => .pure .nx
  | 0, _ :: _ => fun _ => .stuck
  | n + 1, s :: r => seqM (evS sc n s) (evSs sc n r)
end
end
end Bw

set_option maxHeartbeats 4000000
namespace Bw
open PySem PySem.Spec PyProof.Rows L2
variable {G : Gx} {E : Ev} {X : Cx} {sc : Scope} {W : WX} {Z Z' Z0 Z1 Z2 : Addr → Prop} {H H' H0 H1 H2 : Hp} {σ σ' σ1 σ2 : L2.St} {fr fr' fr0 fr1 fr2 : Fr} {ph ph' ph0 ph1 ph2 pa' : Nat → List Addr} {o : Opd} {v : V} {d : D} {g g1 g2 gh gD : List Addr} {t : T} {n : Nat} {tg tg1 : Expr} {own own1 A A' : List Nat} {D : Ends}
def Agr (A : List Nat) (σ σ' : L2.St) : Prop := σ'.length = σ.length ∧ ∀ j, j ∉ A → σ'[j]? = σ[j]?
theorem Agr.refl : Agr A σ σ := ⟨rfl, fun _ _ => rfl⟩
theorem Agr.trans (a : Agr A σ σ1) (b : Agr A σ1 σ2) : Agr A σ σ2 := ⟨b.1.trans a.1, fun j n => (b.2 j n).trans (a.2 j n)⟩
theorem Agr.sub (h : ∀ j, j ∈ A → j ∈ A') (a : Agr A σ σ') : Agr A' σ σ' := ⟨a.1, fun j n => a.2 j fun m => n (h j m)⟩
/-- what a statement's answer must fulfil -/
def SR (G : Gx) (W : WX) (A : List Nat) (Z : Addr → Prop) (H : Hp) (ph : Nat → List Addr) (σ : L2.St) (D : Ends) (r : Res Flo) : Prop := match r with
  | .ok (.rt t) fr' => ∀ v σ' H' Z' ph' g, FrOk G Z' H' σ' fr' ph' → Agr A σ σ' → Val G Z' H' ph' t v g → Stp Z H ph Z' H' ph' g → D.rt v H'
  | .ok .nx fr' => ∀ σ' H' Z' ph', FrOk G Z' H' σ' fr' ph' → Agr A σ σ' → Stp Z H ph Z' H' ph' [] → D.nx σ' H'
  | .ok .bk fr' => ∀ σ' H' Z' ph', FrOk G Z' H' σ' fr' ph' → Agr A σ σ' → Stp Z H ph Z' H' ph' [] → D.bk σ' H'
  | .ok .ct fr' => ∀ σ' H' Z' ph', FrOk G Z' H' σ' fr' ph' → Agr A σ σ' → Stp Z H ph Z' H' ph' [] → D.ct σ' H'
  | .exn x fr' => ∀ cls dx σ' H' Z' ph', FrOk G Z' H' σ' fr' ph' → Agr A σ σ' → Stp Z H ph Z' H' ph' [] → ExR G H' x cls dx → W cls dx σ' H'
  | .stuck => False
theorem SR.shift {r : Res Flo} (s : Stp Z H ph Z1 H1 ph1 g1) (a : Agr A σ σ1) (h : SR G W A Z H ph σ D r) : SR G W A Z1 H1 ph1 σ1 D r := by
  cases r with
  | ok f fr' =>
    cases f with
    | nx => exact fun σ' H' Z' ph' F b u => h σ' H' Z' ph' F (a.trans b) (s.trans u)
    | bk => exact fun σ' H' Z' ph' F b u => h σ' H' Z' ph' F (a.trans b) (s.trans u)
    | ct => exact fun σ' H' Z' ph' F b u => h σ' H' Z' ph' F (a.trans b) (s.trans u)
    | rt t => exact fun v σ' H' Z' ph' g F b hv u => h v σ' H' Z' ph' g F (a.trans b) hv (s.trans u)
  | exn x fr' => exact fun cls dx σ' H' Z' ph' F b u e => h cls dx σ' H' Z' ph' F (a.trans b) (s.trans u) e
  | stuck => exact h
theorem SR.sub {r : Res Flo} (i : ∀ j, j ∈ A → j ∈ A') (h : SR G W A' Z H ph σ D r) : SR G W A Z H ph σ D r := by
  cases r with
  | ok f fr' =>
    cases f with
    | nx => exact fun σ' H' Z' ph' F b u => h σ' H' Z' ph' F (b.sub i) u
    | bk => exact fun σ' H' Z' ph' F b u => h σ' H' Z' ph' F (b.sub i) u
    | ct => exact fun σ' H' Z' ph' F b u => h σ' H' Z' ph' F (b.sub i) u
    | rt t => exact fun v σ' H' Z' ph' g F b hv u => h v σ' H' Z' ph' g F (b.sub i) hv u
  | exn x fr' => exact fun cls dx σ' H' Z' ph' F b u e => h cls dx σ' H' Z' ph' F (b.sub i) u e
  | stuck => exact h
theorem SR.bind {α : Type} {m : M α} {f : α → M Flo} (h : SR G W A Z H ph σ D ((m.bind f) fr)) : GR (m fr) (XW G W Z H ph σ) fun a fr' => SR G W A Z H ph σ D (f a fr') := by
  unfold M.bind at h
  cases e : m fr with
  | ok a fr' => rw [e] at h; exact h
  | exn x fr' =>
    rw [e] at h
    exact fun cls dx H' Z' ph' F u q => h cls dx σ H' Z' ph' F Agr.refl u q
  | stuck => rw [e] at h; exact h
def tS (G : Gx) (W : WX) (A : List Nat) (m : M Flo) : TS := fun D σ H => ∃ Z fr ph, FrOk G Z H σ fr ph ∧ SR G W A Z H ph σ D (m fr)
theorem psI {st : Stmt} {t t' : TS} (h : PS X st t) (i : ∀ D σ H, t' D σ H → t D σ H) : PS X st t' := ⟨fun pins s σ H D I q => h.run pins s σ H D I (i D σ H q)⟩
theorem pssI {st : List Stmt} {t t' : TS} (h : PSs X st t) (i : ∀ D σ H, t' D σ H → t D σ H) : PSs X st t' := ⟨fun pins s σ H D I q => h.run pins s σ H D I (i D σ H q)⟩
theorem ps_sub {st : Stmt} {m : M Flo} (i : ∀ j, j ∈ A → j ∈ A') (h : PS X st (tS G W A m)) : PS X st (tS G W A' m) := psI h fun D σ H ⟨Z, fr, ph, F, q⟩ => ⟨Z, fr, ph, F, q.sub i⟩
theorem pss_sub {st : List Stmt} {m : M Flo} (i : ∀ j, j ∈ A → j ∈ A') (h : PSs X st (tS G W A m)) : PSs X st (tS G W A' m) := pssI h fun D σ H ⟨Z, fr, ph, F, q⟩ => ⟨Z, fr, ph, F, q.sub i⟩
theorem ps_none {st : Stmt} {m : M Flo} (h : ∀ fr, m fr = .stuck) : PS X st (tS G W A m) := ⟨fun pins s σ H D I ⟨Z, fr, ph, F, q⟩ => by rw [h] at q; exact q.elim⟩
/-- what a body's statements know -/
structure Cs (G : Gx) (E : Ev) (X : Cx) (s0 : Scope) (W : WX) : Prop extends Cw G E X s0 W where
  tg : TgC E X s0
  hp : PassesOwn (model X.prog X.w) X.A X.env X.xe
  stk : X.stack = X.env :: X.outer
  fr_ : X.env.frame = some X.env.locals
  room : Room 1 X.A
  ex : ∀ c f, E.exs c = some f → ∃ C fI qn, G.cls c = some C ∧ X.mg c = some (.ref C) ∧ PySem.ExcX.ExcTxt X.K f qn C fI
  exm : ∀ c c' f f' C C', E.exs c = some f → E.exs c' = some f' → G.cls c = some C → G.cls c' = some C' → PySem.W.exmOne X.K (.ref C) (.ref C') = some (decide (c = c'))
theorem s_seq {st : Stmt} {r : List Stmt} {m k : M Flo} (h1 : PS X st (tS G W A m)) (h2 : PSs X r (tS G W A k)) : PSs X (st :: r) (tS G W A (seqM m k)) := by
  refine pssI (pss_cons h1 h2) fun D σ H ⟨Z, fr, ph, F, h⟩ => ⟨Z, fr, ph, F, ?_⟩
  unfold seqM at h
  cases e : m fr with
  | stuck => rw [e] at h; exact h
  | exn x fr' => rw [e] at h; exact h
  | ok f fr' =>
    rw [e] at h
    cases f with
    | nx => exact fun σ' H' Z' ph' F' a u => ⟨Z', fr', ph', F', h.shift u a⟩
    | bk => exact h
    | ct => exact h
    | rt t => exact h
theorem noswap {e : Expr} (h : isCompE e = false) {t : Option Expr} {l : Nat} {env : Env} : swapsWith e t l env = pure false := by
  cases e <;> first
    | rfl
    | (cases h; done)
theorem s_expr (C : Cs G E X sc W) {e : Expr} {pos : Pos} : PS X (.Expr e pos) (tS G W A (evS E sc (n + 1) (.Expr e pos))) := by
  refine ⟨fun pins s σ H D I ⟨Z, fr, ph, F, h⟩ => ?_⟩
  rw [evS] at h
  split at h
  · exact h.elim
  · rename_i hc
    refine (ps_expr ((eff n).v C.toCw e) (noswap (by simpa using hc))).run pins s σ H D I ?_
    exact ⟨Z, fr, ph, F, GR.mono h.bind (fun _ _ z => z) fun t fr1 h1 => fun v H1 Z1 ph1 g F1 hv s1 => h1 σ H1 Z1 ph1 F1 Agr.refl s1.drop⟩
theorem s_ret (C : Cs G E X sc W) {e : Expr} {pos : Pos} : PS X (.Return (some e) pos) (tS G W A (evS E sc (n + 1) (.Return (some e) pos))) := by
  refine ⟨fun pins s σ H D I ⟨Z, fr, ph, F, h⟩ => ?_⟩
  rw [evS] at h
  cases hm : moveN E sc fr e with
  | none =>
    simp only [hm] at h
    refine (ps_ret ((eff n).v C.toCw e)).run pins s σ H D I ?_
    exact ⟨Z, fr, ph, F, GR.mono h.bind (fun _ _ z => z) fun t fr1 h1 => fun v H1 Z1 ph1 g F1 hv s1 => h1 v σ H1 Z1 ph1 g F1 Agr.refl hv s1⟩
  | some it =>
    obtain ⟨i, t⟩ := it
    simp only [hm] at h
    cases e with
    | Name x p =>
      rw [moveN] at hm
      split at hm
      · rename_i hc
        rw [Bool.and_eq_true] at hc
        rw [Option.bind_eq_some_iff] at hm
        obtain ⟨i', hi, hm⟩ := hm
        split at hm
        · cases hm
        · cases hg : getS fr i' with
          | none => rw [hg] at hm; cases hm
          | some t' =>
            rw [hg] at hm
            have : i' = i ∧ t' = t := by
              cases t' with
              | d x => cases hm
              | _ => cases hm; exact ⟨rfl, rfl⟩
            obtain ⟨rfl, rfl⟩ := this
            refine (ps_ret (name_slot (p := p) C.toLk hc.1 hc.2 hi)).run pins s σ H D I ?_
            obtain ⟨v, ev, r⟩ := F.at_ i' t' (getS_at hg)
            have hi' := getS_lt hg
            have U := F.unset (some v) i'
            have hv : σ.set i' (some v) = σ := by
              apply List.ext_getElem?
              intro j
              by_cases q : j = i'
              · subst q
                rw [List.getElem?_set_self (by rw [← F.len]; exact hi'), ev]
              · rw [List.getElem?_set_ne (Ne.symm q)]
            rw [hv] at U
            refine ⟨v, ev, h v σ H Z _ (ph i') U Agr.refl ⟨r, F.nd i', F.dz i', fun a m j q => ?_⟩ ⟨fun _ z => z, fun _ _ e _ => e, fun a o e => ⟨o, e⟩, fun _ _ e => e, fun _ _ _ e => e, fun j a m => ?_, fun a m => .inl ⟨i', m⟩, fun _ z => .inl z⟩⟩
            · by_cases qj : j = i'
              · subst qj; rw [setP_same] at q; cases q
              · rw [setP_ne qj] at q
                exact qj (F.dj j i' a q m)
            · by_cases qj : j = i'
              · subst qj; rw [setP_same] at m; cases m
              · rw [setP_ne qj] at m; exact .inl ⟨j, m⟩
      · cases hm
    | _ => cases hm
theorem s_if {c : Expr} {a b : List Stmt} {pos : Pos} (C : Cs G E X sc W) (ha : PSs X a (tS G W A (evSs E sc n a))) (hb : PSs X b (tS G W A (evSs E sc n b))) : PS X (.If c a b pos) (tS G W A (evS E sc (n + 1) (.If c a b pos))) := by
  refine psI (ps_if ((eff n).t C.toCw c) ha hb) fun D σ H ⟨Z, fr, ph, F, h⟩ => ?_
  rw [evS] at h
  refine ⟨Z, fr, ph, F, GR.mono h.bind (fun _ _ z => z) fun k fr1 h1 => fun H1 Z1 ph1 F1 s1 => ?_⟩
  cases k with
  | true =>
    rw [if_pos rfl] at h1 ⊢
    exact ⟨Z1, fr1, ph1, F1, h1.shift s1 Agr.refl⟩
  | false =>
    rw [if_neg (by decide)] at h1 ⊢
    exact ⟨Z1, fr1, ph1, F1, h1.shift s1 Agr.refl⟩
/-- name = value, from the value's answer -/
theorem asg_post {i : Nat} (hA : i ∈ A) (h : SR G W A Z H ph σ D ((fun fr => (.ok .nx (fr.set i (some t)) : Res Flo)) fr1)) (hi : i < σ.length) : VPost G Z H ph σ (fun x H1 => D.nx (σ.set i (some x)) H1) t fr1 := by
  intro v H1 Z1 ph1 g F1 hv s1
  refine h _ H1 Z1 _ (F1.set hv (by rw [F1.len]; exact hi)) ⟨by rw [List.length_set], fun j nj => List.getElem?_set_ne fun z => by subst z; exact nj hA⟩ s1.setP
theorem isLC_of {e : Expr} (h : isLC e = true) : (∃ elt tg iter ifs scope pos, e = .ListComp elt [⟨tg, iter, ifs, 0⟩] scope pos) ∨ ∃ elt tg iter ifs tg1 iter1 ifs1 scope pos, e = .ListComp elt [⟨tg, iter, ifs, 0⟩, ⟨tg1, iter1, ifs1, 0⟩] scope pos := by
  unfold isLC at h
  split at h
  · exact .inl ⟨_, _, _, _, _, _, rfl⟩
  · exact .inr ⟨_, _, _, _, _, _, _, _, _, rfl⟩
  · cases h
theorem sw_lc {elt : Expr} {gs : List Comprehension} {scope : Scope} {pos py : Pos} {y : Str} {l : Nat} {env : Env} : swapsWith (.ListComp elt gs scope pos) (some (.Name y py)) l env = pure (env.blockKind == .function && env.kindOf y == some .local && py.line == pos.line && !(scope.names.any fun (n, k) => n == y && (k == .local || k == .cell))) := rfl
theorem s_lc1 (C : Cs G E X sc W) {i : Nat} {x : Str} {p q pos : Pos} {elt iter : Expr} {ifs : List Expr} {scope : Scope} (hN : X.N[i]? = some x) (hyl : X.env.scope.names.lookup x = some .local)
    (hsw : swapsWith (.ListComp elt [⟨tg, iter, ifs, 0⟩] scope q) (some (.Name x p)) pos.line X.env = pure true) :
    PS X (.Assign [.Name x p] (.ListComp elt [⟨tg, iter, ifs, 0⟩] scope q) pos) (fun D σ H => ∃ Z fr ph, FrOk G Z H σ fr ph ∧ GR (evC E sc (n + 1) (.ListComp elt [⟨tg, iter, ifs, 0⟩] scope q) fr) (XW G W Z H ph σ) (VPost G Z H ph σ (fun x H1 => D.nx (σ.set i (some x)) H1))) := by
  refine ⟨fun pins s σ H D I ⟨Z, fr, ph, F, h⟩ => ?_⟩
  have h0 := h
  rw [evC_lc] at h0
  split at h0
  rotate_left
  · exact h0.elim
  rename_i hc
  rw [Bool.and_eq_true] at hc
  cases ht : tgt E.N scope tg with
  | none => rw [ht] at h0; exact h0.elim
  | some gt =>
    have hb : BlkOk X.N X.env.scope scope (ownOf E.N scope) := by
      rw [C.N, C.sc]
      exact blkOk_by hc.1
    exact (ps_setLc (own := ownOf E.N scope) C.calm C.nd hN hyl hsw ((eff n).src C.toCw tg iter) hb (fun s H A cl fp => pg_tgt (blk_tg C.toLk) C.calm C.K ht) (fun s H A cl fp => (eff n).ts (blk_cw C.toCw) ifs) (fun s H A cl fp => (eff n).v (blk_cw C.toCw) elt) (fold_no (by simpa using hc.2) X.env)).run pins s σ H D I (lc_read ht F h)
theorem s_lc2 (C : Cs G E X sc W) {i : Nat} {x : Str} {p q pos : Pos} {elt iter iter1 : Expr} {ifs ifs1 : List Expr} {scope : Scope} (hN : X.N[i]? = some x) (hyl : X.env.scope.names.lookup x = some .local)
    (hsw : swapsWith (.ListComp elt [⟨tg, iter, ifs, 0⟩, ⟨tg1, iter1, ifs1, 0⟩] scope q) (some (.Name x p)) pos.line X.env = pure true) :
    PS X (.Assign [.Name x p] (.ListComp elt [⟨tg, iter, ifs, 0⟩, ⟨tg1, iter1, ifs1, 0⟩] scope q) pos) (fun D σ H => ∃ Z fr ph, FrOk G Z H σ fr ph ∧ GR (evC E sc (n + 1) (.ListComp elt [⟨tg, iter, ifs, 0⟩, ⟨tg1, iter1, ifs1, 0⟩] scope q) fr) (XW G W Z H ph σ) (VPost G Z H ph σ (fun x H1 => D.nx (σ.set i (some x)) H1))) := by
  refine ⟨fun pins s σ H D I ⟨Z, fr, ph, F, h⟩ => ?_⟩
  have h0 := h
  rw [evC_lc2] at h0
  split at h0
  rotate_left
  · exact h0.elim
  rename_i hc
  rw [Bool.and_eq_true, Bool.and_eq_true] at hc
  cases ht : tgt E.N scope tg with
  | none => rw [ht] at h0; exact h0.elim
  | some gt =>
    cases ht1 : tgt E.N scope tg1 with
    | none => rw [ht, ht1] at h0; exact h0.elim
    | some gt1 =>
      have hb : BlkOk X.N X.env.scope scope (ownOf E.N scope) := by
        rw [C.N, C.sc]
        exact blkOk_by hc.1.1
      have hin1 : ∀ i ∈ tgIx gt1, i ∈ (ownOf E.N scope).map (·.2) := by
        rw [ht, ht1] at h0
        dsimp only at h0
        split at h0
        · rename_i hin1
          rw [List.all_eq_true] at hin1
          exact fun i m => List.contains_iff_mem.mp (hin1 i m)
        · exact h0.elim
      exact (ps_setLc2 (own := ownOf E.N scope) (vs1 := tgIx gt1) C.calm C.nd hN hyl hsw ((eff n).src C.toCw tg iter) hb hin1 (fun s H A cl fp => pg_tgt (blk_tg C.toLk) C.calm C.K ht) (fun s H A cl fp => (eff n).ts (blk_cw C.toCw) ifs) (fun s H A cl fp => (eff n).src (blk_cw C.toCw) tg1 iter1) (fun s H A cl fp => pg_tgt (blk_tg C.toLk) C.calm C.K ht1) (fun s H A cl fp => (eff n).ts (blk_cw C.toCw) ifs1) (fun s H A cl fp => (eff n).v (blk_cw C.toCw) elt) (fold_no (by simpa using hc.1.2) X.env) (fun env => fold_no (by simpa using hc.2) env)).run pins s σ H D I (lc2_read ht ht1 F h)
theorem s_name (C : Cs G E X sc W) {x : Str} {e : Expr} {p pos : Pos} : PS X (.Assign [.Name x p] e pos) (tS G W (asgS E.N (.Assign [.Name x p] e pos)) (evS E sc (n + 1) (.Assign [.Name x p] e pos))) := by
  refine ⟨fun pins s σ H D I ⟨Z, fr, ph, F, h⟩ => ?_⟩
  rw [evS] at h
  split at h
  rotate_left
  · exact h.elim
  rename_i hc
  rw [Bool.and_eq_true] at hc
  cases hi : slotOf E.N x with
  | none => rw [hi] at h; exact h.elim
  | some i =>
    rw [hi] at h
    dsimp only at h
    have hA : i ∈ asgS E.N (.Assign [.Name x p] e pos) := by
      simp [asgS, slotsX, hi]
    have hlen : i < σ.length := by
      rw [I.len, C.N]
      exact (List.getElem?_eq_some_iff.mp (slotOf_at hi)).1
    have hN : X.N[i]? = some x := by rw [C.N]; exact slotOf_at hi
    have plain : swapsWithSole [.Name x p] e pos.line X.env = pure false → wpAny (model X.prog X.w) X.A (exec (.Assign [.Name x p] e pos) X.env) (SP X pins D) X.xe s := fun hs =>
      (ps_asg ((eff n).v C.toCw e) (pg_nm C.tg hc.1 hi) hs rfl rfl).run pins s σ H D I ⟨Z, fr, ph, F, GR.mono h.bind (fun _ _ z => z) fun t fr1 h1 => asg_post hA h1 hlen⟩
    by_cases hcomp : isCompE e = true
    · have hlc : isLC e = true := by
        have := hc.2
        rw [hcomp] at this
        simpa using this
      by_cases hsw : swapsWithSole [.Name x p] e pos.line X.env = pure false
      · exact plain hsw
      · have e2 : ∀ {elt gs scope q}, e = .ListComp elt gs scope q → X.env.scope.names.lookup x = some .local ∧ swapsWith e (some (.Name x p)) pos.line X.env = pure true := by
          intro elt gs scope q he
          subst he
          have hs : swapsWithSole [.Name x p] (.ListComp elt gs scope q) pos.line X.env = pure (X.env.blockKind == .function && X.env.kindOf x == some .local && p.line == q.line && !(scope.names.any fun (n, k) => n == x && (k == .local || k == .cell))) := rfl
          cases hb : (X.env.blockKind == .function && X.env.kindOf x == some .local && p.line == q.line && !(scope.names.any fun (n, k) => n == x && (k == .local || k == .cell))) with
          | false => rw [hb] at hs; exact absurd hs hsw
          | true =>
            rw [hb] at hs
            simp only [Bool.and_eq_true] at hb
            exact ⟨show X.env.kindOf x = some .local by simpa using hb.1.1.2, hs⟩
        have hb := h.bind
        rcases isLC_of hlc with ⟨elt, tg, iter, ifs, scope, q, rfl⟩ | ⟨elt, tg, iter, ifs, tg1, iter1, ifs1, scope, q, rfl⟩
        · obtain ⟨k1, k2⟩ := e2 rfl
          match n, hb with
          | 0, hb => exact hb.elim
          | 1, hb => exact hb.elim
          | k + 2, hb => exact (s_lc1 (n := k) C hN k1 k2).run pins s σ H D I ⟨Z, fr, ph, F, GR.mono (show GR (evC E sc (k + 1) _ fr) _ _ from hb) (fun _ _ z => z) fun t fr1 h1 => asg_post hA h1 hlen⟩
        · obtain ⟨k1, k2⟩ := e2 rfl
          match n, hb with
          | 0, hb => exact hb.elim
          | 1, hb => exact hb.elim
          | k + 2, hb => exact (s_lc2 (n := k) C hN k1 k2).run pins s σ H D I ⟨Z, fr, ph, F, GR.mono (show GR (evC E sc (k + 1) _ fr) _ _ from hb) (fun _ _ z => z) fun t fr1 h1 => asg_post hA h1 hlen⟩
    · exact plain (show swapsWith e (some (.Name x p)) pos.line X.env = pure false from noswap (by simpa using hcomp))
end Bw

set_option maxHeartbeats 4000000
namespace Bw
open PySem PySem.Spec PyProof.Rows L2
variable {G : Gx} {E : Ev} {X : Cx} {sc : Scope} {W : WX} {Z Z' Z0 Z1 Z2 : Addr → Prop} {H H' H0 H1 H2 : Hp} {σ σ' σ1 σ2 : L2.St} {fr fr' fr0 fr1 fr2 : Fr} {ph ph' ph0 ph1 ph2 pa' : Nat → List Addr} {o : Opd} {v : V} {d : D} {g g1 g2 gh gD : List Addr} {t : T} {n : Nat} {tg tg1 : Expr} {own own1 A A' : List Nat}
theorem tgt_slots {N : List Str} {s0 : Scope} {g : Sum Nat (List Nat)} (h : tgt N s0 tg = some g) : ∀ j, j ∈ tgIx g → j ∈ slotsX N tg := by
  cases tg with
  | Name x p =>
    rw [tgt] at h
    split at h
    · rw [Option.map_eq_some_iff] at h
      obtain ⟨i, hi, rfl⟩ := h
      intro j m
      simp only [slotsX, hi]
      exact m
    · cases h
  | Tuple es k p =>
    rw [tgt, Option.bind_eq_some_iff] at h
    obtain ⟨xs, h1, h⟩ := h
    rw [Option.map_eq_some_iff] at h
    obtain ⟨is, h2, rfl⟩ := h
    intro j m
    have m : j ∈ is := m
    rw [slotsX]
    clear p k
    induction es generalizing xs is with
    | nil => cases h1; simp at h2; subst h2; cases m
    | cons e es ih =>
      cases e with
      | Name x p =>
        rw [namesE] at h1
        cases e2 : namesE es with
        | none => rw [e2] at h1; cases h1
        | some ys =>
          rw [e2] at h1
          cases h1
          rw [List.mapM_cons] at h2
          by_cases hk : isLoc s0 x = true
          · rw [if_pos hk] at h2
            cases e3 : slotOf N x with
            | none => rw [e3] at h2; cases h2
            | some i =>
              rw [e3] at h2
              cases e4 : (ys.mapM fun x => if isLoc s0 x then slotOf N x else none) with
              | none => rw [e4] at h2; cases h2
              | some is' =>
                rw [e4] at h2
                cases h2
                rw [List.filterMap_cons]
                simp only [e3]
                rcases List.mem_cons.mp m with z | m
                · exact z ▸ List.mem_cons_self
                · exact List.mem_cons_of_mem _ (ih ys e2 is' e4 m m)
          · rw [if_neg hk] at h2; cases h2
      | _ => cases h1
  | _ => cases h
theorem s_tup (C : Cs G E X sc W) {es as : List Expr} {k : Nat} {p q pos : Pos} {f : Expr} {ks : List Keyword} : PS X (.Assign [.Tuple es k p] (.Call f as ks q) pos) (tS G W (asgS E.N (.Assign [.Tuple es k p] (.Call f as ks q) pos)) (evS E sc (n + 1) (.Assign [.Tuple es k p] (.Call f as ks q) pos))) := by
  refine ⟨fun pins s σ H D I ⟨Z, fr, ph, F, h⟩ => ?_⟩
  rw [evS] at h
  cases ht : tgt E.N sc (.Tuple es k p) with
  | none => rw [ht] at h; exact h.elim
  | some gt =>
    rw [ht] at h
    dsimp only at h
    refine (ps_asg ((eff n).v C.toCw (.Call f as ks q)) (pg_tgt C.tg C.calm C.K ht) rfl rfl rfl).run pins s σ H D I ?_
    refine ⟨Z, fr, ph, F, GR.mono h.bind (fun _ _ z => z) fun t fr1 h1 => fun v H1 Z1 ph1 g F1 hv s1 => ?_⟩
    cases hs : storeTg gt false (fz t) fr1 with
    | none => rw [hs] at h1; exact h1.elim
    | some fr2 =>
      rw [hs] at h1
      obtain ⟨F2, rd⟩ := hv.freeze F1
      refine ⟨_, fr1, ph1, fz t, false, fr2, F2, rd, hs, fun σ1 ph2 F3 l3 a3 s3 => ?_⟩
      refine h1 σ1 H1 _ ph2 F3 ⟨l3, fun j nj => a3 j fun m => nj ?_⟩ (s1.freeze.trans (stp_sub Grow.refl s3))
      have := tgt_slots ht j m
      simpa [asgS] using this
/-! ### stores -/
def rSetG : TSet := fun o i v H Q => rSetL o i v H Q ∨ ∃ a H4, o = .ref a ∧ DPut H a i v H4 ∧ Q H4
theorem set_g (hu : X.A.units + 1 < cLine) : PSet X rSetG := by
  intro pins s σ H o i v ov iv u Q I ro ri rv h
  rcases h with h | ⟨a, H4, rfl, g, q⟩
  · exact set_list pins s σ H o i v ov iv u Q I ro ri rv h
  · obtain rfl : ov = Value.ref a := ro
    exact d_setItem hu I g ri rv fun s4 I4 => ⟨H4, I4, q⟩
theorem asg_sub {o i : Expr} {env : Env} {pos : Pos} (h : isSlice i = false) : ∀ v, assign (.Subscript o i pos) env v = (do
      let ov ← holding [v] (eval o env)
      let iv ← holding [v, ov] (eval i env)
      standAt pos
      holding [v, ov, iv] (setItem ov iv v)
      release [v, ov, iv] []) := by
  intro v
  cases i <;> first
    | rfl
    | (cases h; done)
theorem RTs.set : ∀ {ts : List T} {vs : List V} {g gu : List Addr} {u : T} {w : V} {j : Nat}, RTs G Z H ts vs g → RT G Z H u w gu → g.Nodup → gu.Nodup → (∀ a, a ∈ g → a ∉ gu) → ∃ g', RTs G Z H (ts.set j u) (vs.set j w) g' ∧ g'.Nodup ∧ ∀ a, a ∈ g' → a ∈ g ∨ a ∈ gu
  | _, _, _, _, _, _, _, .nil, _, _, _, _ => ⟨[], .nil, List.nodup_nil, fun _ m => nomatch m⟩
  | _, _, _, gu, _, _, 0, .cons (g := ga) (g' := gb) h r, hu, nd, ndu, ap => by
    obtain ⟨n1, n2, n3⟩ := List.nodup_append.mp nd
    refine ⟨gu ++ gb, .cons hu r, List.nodup_append.mpr ⟨ndu, n2, fun a m b m' e => ?_⟩, fun a m => ?_⟩
    · subst e; exact ap a (List.mem_append_right _ m') m
    · rcases List.mem_append.mp m with m | m
      · exact .inr m
      · exact .inl (List.mem_append_right _ m)
  | _, _, _, gu, _, _, j + 1, .cons (g := ga) (g' := gb) h r, hu, nd, ndu, ap => by
    obtain ⟨n1, n2, n3⟩ := List.nodup_append.mp nd
    obtain ⟨g', k1, k2, k3⟩ := RTs.set (j := j) r hu n2 ndu fun a m => ap a (List.mem_append_right _ m)
    refine ⟨ga ++ g', .cons h k1, List.nodup_append.mpr ⟨n1, k2, fun a m b m' e => ?_⟩, fun a m => ?_⟩
    · subst e
      rcases k3 a m' with q | q
      · exact n3 a m a q rfl
      · exact ap a (List.mem_append_left _ m) q
    · rcases List.mem_append.mp m with m | m
      · exact .inl (List.mem_append_left _ m)
      · exact (k3 a m).imp (List.mem_append_right _) id
theorem put_map {κ : Type} [DecidableEq κ] {kvs : List (κ × V)} {k : κ} {v : V} : putK kvs k v = (if (kvs.any fun kv => decide (kv.1 = k)) = true then kvs.map (fun kv => if kv.1 = k then (kv.1, v) else kv) else kvs ++ [(k, v)]) := rfl
theorem any_val {κ : Type} [DecidableEq κ] {k : κ} : ∀ {ws : List (κ × V)}, (ws.any fun kv => decide (kv.1 = k)) = (valV ws k).isSome
  | [] => rfl
  | (a, b) :: r => by
    by_cases q : a = k
    · simp [valV, q]
    · have := any_val (k := k) (ws := r)
      simp only [List.any_cons, valV, List.find?_cons, q, decide_false, Bool.false_or] at this ⊢
      exact this
theorem put_rds {P : Addr → Prop} {k : Key} {d : D} {w : V} (rd : RD G P H d w) : ∀ {kvs : List (Key × D)} {ws : List (Key × V)}, kvs.map (·.1) = ws.map (·.1) → RDs G P H (kvs.map (·.2)) (ws.map (·.2)) →
    (kvs.map (fun kv => if kv.1 = k then (kv.1, d) else kv)).map (·.1) = (ws.map (fun kv => if kv.1 = k then (kv.1, w) else kv)).map (·.1) ∧
    RDs G P H ((kvs.map (fun kv => if kv.1 = k then (kv.1, d) else kv)).map (·.2)) ((ws.map (fun kv => if kv.1 = k then (kv.1, w) else kv)).map (·.2))
  | [], [], _, _ => ⟨rfl, .nil⟩
  | [], _ :: _, e, _ => by cases e
  | _ :: _, [], e, _ => by cases e
  | (k1, d1) :: kvs, (k2, w2) :: ws, e, r => by
    simp only [List.map_cons] at e r
    injection e with e1 e2
    subst e1
    cases r with
    | cons h r =>
      obtain ⟨q1, q2⟩ := put_rds rd e2 r
      by_cases q : k1 = k
      · simp only [List.map_cons, if_pos q]
        exact ⟨by rw [q1], .cons rd q2⟩
      · simp only [List.map_cons, if_neg q]
        exact ⟨by rw [q1], .cons h q2⟩
theorem put_ok {P : Addr → Prop} {k : Key} {d : D} {w : V} {kvs : List (Key × D)} {ws : List (Key × V)} (rd : RD G P H d w) (e : kvs.map (·.1) = ws.map (·.1)) (r : RDs G P H (kvs.map (·.2)) (ws.map (·.2))) :
    (if (findK k kvs).isSome = true then kvs.map (fun kv => if kv.1 = k then (kv.1, d) else kv) else kvs ++ [(k, d)]).map (·.1) = (putK ws k w).map (·.1) ∧
    RDs G P H ((if (findK k kvs).isSome = true then kvs.map (fun kv => if kv.1 = k then (kv.1, d) else kv) else kvs ++ [(k, d)]).map (·.2)) ((putK ws k w).map (·.2)) := by
  rcases find_kv k e r with ⟨f1, f2⟩ | ⟨d', v', f1, f2, _⟩
  · rw [f1, find_put f2, if_neg (by simp)]
    refine ⟨by rw [List.map_append, List.map_append, e]; rfl, ?_⟩
    rw [List.map_append, List.map_append]
    exact r.append (.cons rd .nil)
  · rw [f1, put_map, if_pos (show (some d').isSome = true from rfl), if_pos (by rw [any_val, f2]; rfl)]
    exact put_rds rd e r
theorem s_sub (C : Cs G E X sc W) {x : Str} {k e : Expr} {p q pos : Pos} : PS X (.Assign [.Subscript (.Name x p) k q] e pos) (tS G W A (evS E sc (n + 1) (.Assign [.Subscript (.Name x p) k q] e pos))) := by
  refine ⟨fun pins s σ H D I ⟨Z, fr, ph, F, h⟩ => ?_⟩
  rw [evS] at h
  split at h
  rotate_left
  · exact h.elim
  rename_i hc
  rw [Bool.and_eq_true, Bool.and_eq_true] at hc
  obtain ⟨⟨hs, hn⟩, hsl⟩ := hc
  have hsl : isSlice k = false := by simpa using hsl
  cases hi : slotOf E.N x with
  | none => rw [hi] at h; exact h.elim
  | some i =>
    rw [hi] at h
    dsimp only at h
    have hu : X.A.units + 1 < cLine := by have := C.hu; omega
    have hsw : swapsWithSole [.Subscript (.Name x p) k q] e pos.line X.env = pure false := by
      show swapsWith e (some (.Subscript (.Name x p) k q)) pos.line X.env = pure false
      cases e <;> rfl
    refine (ps_asg ((eff n).v C.toCw e) (pg_sub (name_slot (p := p) C.toLk hs hn hi) ((eff n).o C.toCw k) (set_g hu) (asg_sub hsl)) hsw rfl rfl).run pins s σ H D I ?_
    refine ⟨Z, fr, ph, F, GR.mono h.bind (fun _ _ z => z) fun u fr1 h1 => fun w H1 Z1 ph1 gu F1 hu1 s1 => ?_⟩
    split at h1
    rotate_left
    · exact h1.elim
    rename_i hso
    have hσ : ∃ v, σ[i]? = some (some v) := by
      cases hg : getS fr1 i with
      | none => rw [hg] at hso; cases hso
      | some t0 =>
        obtain ⟨v, ev, _⟩ := F1.at_ i t0 (getS_at hg)
        exact ⟨v, ev⟩
    obtain ⟨vo, evo⟩ := hσ
    refine ⟨vo, evo, Z1, fr1, ph1, F1, GR.mono h1.bind (fun _ _ z => z.shift s1.drop) fun y fr2 h2 => fun vk H2 Z2 ph2 F2 ry s2 => ?_⟩
    cases hg : getS fr2 i with
    | none => simp only [hg] at h2; exact h2.elim
    | some t =>
      simp only [hg] at h2
      cases hst : storeT t y.1 u with
      | none => simp only [hst] at h2; exact h2.elim
      | some t' =>
        simp only [hst] at h2
        have hu2 := hu1.step F1 s2
        obtain ⟨v2, ev2, rt⟩ := F2.at_ i t (getS_at hg)
        rw [evo] at ev2
        cases ev2
        generalize hgp : ph2 i = gp at rt
        have s02 : Stp Z H ph Z2 H2 ph2 gu := (s1.trans s2).with_g s1.newg
        have ryz := ry.any
        cases t with
        | lst ts =>
          cases rt with
          | @lst b _ ws g0 ha hr =>
            unfold storeT at hst
            cases hy : y.1 with
            | int kk =>
              rw [hy] at hst ryz
              dsimp only at hst
              rw [Option.map_eq_some_iff] at hst
              obtain ⟨j, hj, hst⟩ := hst
              subst hst
              cases ryz
              have hnd := F2.nd i
              rw [hgp] at hnd
              have hnb : b ∉ g0 := (List.nodup_cons.mp hnd).1
              have hdz : ¬ Z2 b := F2.dz i b (by rw [hgp]; exact List.mem_cons_self)
              have hbu : b ∉ gu := fun z => hu2.dp b z i (by rw [hgp]; exact List.mem_cons_self)
              obtain ⟨g', q1, q2, q3⟩ := hr.set (j := j) hu2.rt (List.nodup_cons.mp hnd).2 hu2.nd fun a m z => hu2.dp a z i (by rw [hgp]; exact List.mem_cons_of_mem _ m)
              have hb' : b ∉ g' := fun m => (q3 b m).elim hnb hbu
              obtain ⟨F3, s3, _⟩ := slot_write (o' := .lst (ws.set j w)) (t' := .lst (ts.set j u)) (g' := b :: g') (gr := []) (gh := gu) F2 s02 hu2.dz hu2.dp (getS_lt hg) evo (by rw [hgp]; exact List.mem_cons_self)
                (.lst upd_same (q1.mono (sub_upd ha True.intro hdz hb'))) (by rw [List.append_nil]; exact List.nodup_cons.mpr ⟨hb', q2⟩) (by
                  intro c m
                  rw [List.append_nil] at m
                  rcases List.mem_cons.mp m with m | m
                  · subst m; exact .inl (by rw [hgp]; exact List.mem_cons_self)
                  · rcases q3 c m with z | z
                    · exact .inl (by rw [hgp]; exact List.mem_cons_of_mem _ z)
                    · exact .inr z)
              exact .inl ⟨b, ws, kk, j, rfl, rfl, ha, by rw [← hr.length]; exact hj, h2 σ _ Z2 _ F3 Agr.refl s3⟩
            | _ => rw [hy] at hst; cases hst
        | dic kvs =>
          cases rt with
          | @dic b _ ws ha hkey hrs =>
            unfold storeT at hst
            cases u with
            | d dv =>
              dsimp only at hst
              rw [Option.bind_eq_some_iff] at hst
              obtain ⟨kk, hkk, hst⟩ := hst
              split at hst
              rotate_left
              · cases hst
              rename_i hz
              cases hst
              have evk := key_rd ryz hkk
              subst evk
              have hru := hu2.rt
              generalize gu = gu' at hru
              cases hru with
              | d hru =>
                have hll : kvs.length = ws.length := by
                  have := congrArg List.length hkey
                  simpa using this
                have hz' : ws.length < sizeLine := by rw [← hll, sizeLine_eq]; exact Nat.le_of_ble_eq_true hz
                have hdz : ¬ Z2 b := F2.dz i b (by rw [hgp]; exact List.mem_cons_self)
                have hsub : Sub Z2 H2 Z2 (upd H2 b (.dK (putK ws kk w))) := (sub_upd (g := []) ha True.intro hdz (fun m => nomatch m)).s
                have hnew := put_ok (hru.mono hsub) hkey (hrs.mono hsub) (k := kk)
                obtain ⟨F3, s3, _⟩ := slot_write (o' := .dK (putK ws kk w)) (t' := .dic (if (findK kk kvs).isSome = true then kvs.map (fun kv => if kv.1 = kk then (kv.1, dv) else kv) else kvs ++ [(kk, dv)])) (g' := [b]) (gr := []) (gh := []) F2 s02.drop (fun _ m => nomatch m) (fun _ m => nomatch m) (getS_lt hg) evo (by rw [hgp]; exact List.mem_cons_self)
                  (.dic upd_same hnew.1 hnew.2) (by simp) (by
                    intro c m
                    exact .inl (by rw [hgp]; simpa using m))
                exact .inr ⟨b, _, rfl, DPut.k ha hz', h2 σ _ Z2 _ F3 Agr.refl s3⟩
            | _ => cases hst
        | _ => cases hst
end Bw

set_option maxHeartbeats 4000000
namespace Bw
open PySem PySem.Spec PyProof.Rows L2
variable {G : Gx} {E : Ev} {X : Cx} {sc : Scope} {W : WX} {Z Z' Z0 Z1 Z2 : Addr → Prop} {H H' H0 H1 H2 : Hp} {σ σ' σ1 σ2 : L2.St} {fr fr' fr0 fr1 fr2 : Fr} {ph ph' ph0 ph1 ph2 pa' : Nat → List Addr} {o : Opd} {v : V} {d : D} {g g1 g2 gh gD : List Addr} {t : T} {n : Nat} {tg tg1 : Expr} {own own1 A A' : List Nat}
def rInt (op : Operator) : TIp := fun x y H Q => ∃ i j k, x = .int i ∧ y = .int j ∧ intOp op i j = some k ∧ Q (.int k) H
theorem ip_int {op : Operator} (hop : op ≠ .Pow) : PIp X op (rInt op) := by
  intro pins s σ H x y v u Q I rx ry ⟨i, j, k, ex, ey, e, q⟩
  cases op <;> simp only [intOp] at e
  · cases e; exact iop_add pins s σ H _ _ v u Q I rx ry ⟨i, j, ex, ey, q⟩
  · cases e; exact iop_sub pins s σ H _ _ v u Q I rx ry ⟨i, j, ex, ey, q⟩
  · split at e
    · rename_i c; cases e; exact iop_mul pins s σ H _ _ v u Q I rx ry ⟨i, j, ex, ey, c, q⟩
    · cases e
  · cases e
  · cases e
  · split at e
    · rename_i c; cases e; exact iop_mod pins s σ H _ _ v u Q I rx ry ⟨i, j, ex, ey, c, q⟩
    · cases e
  · exact absurd rfl hop
  · split at e
    · rename_i c; cases e; exact iop_shl pins s σ H _ _ v u Q I rx ry ⟨i, j, ex, ey, c, q⟩
    · cases e
  · split at e
    · rename_i c; cases e; exact iop_shr pins s σ H _ _ v u Q I rx ry ⟨i, j, ex, ey, c, q⟩
    · cases e
  · cases e; exact iop_or pins s σ H _ _ v u Q I rx ry ⟨i, j, ex, ey, q⟩
  · cases e; exact iop_xor pins s σ H _ _ v u Q I rx ry ⟨i, j, ex, ey, q⟩
  · cases e; exact iop_and pins s σ H _ _ v u Q I rx ry ⟨i, j, ex, ey, q⟩
  · split at e
    · rename_i c; cases e; exact iop_fdiv pins s σ H _ _ v u Q I rx ry ⟨i, j, ex, ey, c, q⟩
    · cases e
theorem s_aug (C : Cs G E X sc W) {x : Str} {e : Expr} {op : Operator} {p pos : Pos} : PS X (.AugAssign (.Name x p) op e pos) (tS G W (asgS E.N (.AugAssign (.Name x p) op e pos)) (evS E sc (n + 1) (.AugAssign (.Name x p) op e pos))) := by
  refine ⟨fun pins s σ H D I ⟨Z, fr, ph, F, h⟩ => ?_⟩
  rw [evS] at h
  split at h
  rotate_left
  · exact h.elim
  rename_i hc
  rw [Bool.and_eq_true] at hc
  have hop : op ≠ .Pow := fun z => by
    subst z
    have := hc.2
    cases this
  have hc := (Bool.and_eq_true _ _ ▸ hc.1 : isLoc sc x = true ∧ okName x = true)
  cases hi : slotOf E.N x with
  | none => rw [hi] at h; exact h.elim
  | some i =>
    rw [hi] at h
    dsimp only at h
    have hN : X.N[i]? = some x := by rw [C.N]; exact slotOf_at hi
    have hA : i ∈ asgS E.N (.AugAssign (.Name x p) op e pos) := by simp [asgS, slotsX, hi]
    have hl := hc.1
    have hloc : Loc X.env.scope x ∧ (X.fn x = true ∨ X.env.scope.names.lookup x = some .local) := by
      unfold isLoc at hl
      split at hl
      · rename_i e1; exact ⟨.inl (C.tg.loc x e1), .inr (C.tg.loc x e1)⟩
      · rename_i e1; exact ⟨.inr (C.tg.cell x e1).1, .inl (C.tg.cell x e1).2⟩
      · cases hl
    refine (ps_aug C.nd hN hloc.1 ((eff n).o C.toCw e) (ip_int hop) hloc.2).run pins s σ H D I ?_
    cases hg : getS fr i with
    | none => rw [hg] at h; exact h.elim
    | some t =>
      rw [hg] at h
      obtain ⟨v0, ev0, r0⟩ := F.at_ i t (getS_at hg)
      cases t with
      | d d0 =>
        cases d0 with
        | int a =>
          dsimp only at h
          generalize ph i = gp at r0
          cases r0 with
          | d r0 =>
          cases r0
          refine ⟨_, ev0, Z, fr, ph, F, GR.mono h.bind (fun _ _ z => z) fun y fr1 h1 => fun w H1 Z1 ph1 F1 ry s1 => ?_⟩
          have ra := ry.any
          cases hy : y.1 with
          | int b =>
            rw [hy] at h1 ra
            dsimp only at h1
            cases hk : intOp op a b with
            | none => rw [hk] at h1; exact h1.elim
            | some c =>
              rw [hk] at h1
              cases ra
              refine ⟨a, b, c, rfl, rfl, hk, ?_⟩
              obtain ⟨ph2, F2, s2⟩ := set_data (i := i) F1 (RD.int (G := G) (P := Z1) (H := H1) c)
              exact h1 _ H1 Z1 ph2 F2 ⟨by rw [List.length_set], fun j nj => List.getElem?_set_ne fun z => by subst z; exact nj hA⟩ (s1.trans (stp_sub Grow.refl s2))
          | _ => rw [hy] at h1; exact h1.elim
        | _ => exact h.elim
      | _ => exact h.elim
theorem forL_turns {gt : Sum Nat (List Nat)} {body : M Flo} {s : Src} {J : It} {S : L2.St → (Addr → Prop) → Hp → Prop} {De : Ends} (SO : SrcOk G s J S) {B : List Nat} (hA : ∀ j, j ∈ tgIx gt ∨ j ∈ B → j ∈ A) (hgf : guardFree s (tgIx gt ++ B) = true)
    (h : SR G W A Z H ph σ De (forL gt body s s.items fr)) (F : FrOk G Z H σ fr ph) (hS : S σ Z H) :
    ∃ Wv : Nat → Nat → L2.St → Hp → Prop, (∃ m, Wv 0 m σ H) ∧ ∀ i m σ H, Wv i m σ H → (J.stop i H ∧ De.nx σ H) ∨ (J.go i H ∧ ∃ N : L2.St → Hp → Prop, (∀ σ' H', N σ' H' → ∃ m', m' < m ∧ Wv (i + 1) m' σ' H') ∧
      ∀ x H', J.yld i H x H' → gTg G gt x σ H' fun σ2 H2 => tS G W B body { De with nx := N, ct := N, bk := De.nx } σ2 H2) := by
  have hguard : ∀ {σa σb : L2.St}, (∀ j, j ∉ tgIx gt → j ∉ B → σb[j]? = σa[j]?) → ∀ i t, s.guard = some (i, t) → σb[i]? = σa[i]? := fun {σa σb} ha i t e => by
    unfold guardFree at hgf
    rw [e] at hgf
    have hgf : (!(tgIx gt ++ B).contains i) = true := hgf
    have nm : i ∉ tgIx gt ++ B := fun m => by
      rw [List.contains_iff_mem.mpr m] at hgf
      cases hgf
    exact ha i (fun m => nm (List.mem_append_left _ m)) (fun m => nm (List.mem_append_right _ m))
  refine ⟨fun i m σ1 H1 => m = s.items.length - i ∧ i ≤ s.items.length ∧ ∃ Z1 fr1 ph1, FrOk G Z1 H1 σ1 fr1 ph1 ∧ Agr A σ σ1 ∧ Stp Z H ph Z1 H1 ph1 [] ∧ S σ1 Z1 H1 ∧ SR G W A Z H ph σ De (forL gt body s (s.items.drop i) fr1), ⟨_, rfl, Nat.zero_le _, Z, fr, ph, F, Agr.refl, Stp.refl, hS, h⟩, ?_⟩
  rintro i m σ1 H1 ⟨rfl, hi, Z1, fr1, ph1, F1, a1, s1, S1, h1⟩
  by_cases hlt : i < s.items.length
  · refine .inr ?_
    have e0 : s.items.drop i = s.items[i] :: s.items.drop (i + 1) := List.drop_eq_getElem_cons hlt
    rw [e0, forL] at h1
    dsimp only at h1
    split at h1
    rotate_left
    · exact h1.elim
    rename_i hg
    obtain ⟨hgo, hy⟩ := (SO.at_ S1 F1 hg i).1 _ (List.getElem?_eq_getElem hlt)
    refine ⟨hgo, fun σ2 H2 => (s.items.length - (i + 1) = s.items.length - (i + 1) ∧ i + 1 ≤ s.items.length ∧ ∃ Z2 fr2 ph2, FrOk G Z2 H2 σ2 fr2 ph2 ∧ Agr A σ σ2 ∧ Stp Z H ph Z2 H2 ph2 [] ∧ S σ2 Z2 H2 ∧ SR G W A Z H ph σ De (forL gt body s (s.items.drop (i + 1)) fr2)), fun σ' H' p => ⟨_, by omega, p⟩, fun x H' yl => ?_⟩
    obtain ⟨k, it⟩ := hy x H' yl
    cases hst : storeTg gt s.pairs s.items[i] fr1 with
    | none => rw [hst] at h1; exact h1.elim
    | some fr2 =>
      rw [hst] at h1
      dsimp only at h1
      refine ⟨Z1, fr1, ph1, _, _, fr2, F1.grow k, it, hst, fun σ2 ph2 F2 l2 a2 s2 => ?_⟩
      have st2 : Stp Z1 H1 ph1 Z1 H' ph2 [] := stp_sub k s2
      have a12 : Agr A σ1 σ2 := ⟨l2, fun j nj => a2 j fun m => nj (hA j (.inl m))⟩
      have S2 : S σ2 Z1 H' := SO.sig (SO.step S1 F1 st2) (hguard fun j n1 n2 => a2 j n1)
      have s02 := s1.trans st2
      have a02 := a1.trans a12
      have again : ∀ {σ3 Z3 H3 fr3 ph3}, FrOk G Z3 H3 σ3 fr3 ph3 → Agr B σ2 σ3 → Stp Z1 H' ph2 Z3 H3 ph3 [] → SR G W A Z H ph σ De (forL gt body s (s.items.drop (i + 1)) fr3) →
          (s.items.length - (i + 1) = s.items.length - (i + 1) ∧ i + 1 ≤ s.items.length ∧ ∃ Z2 fr2 ph2, FrOk G Z2 H3 σ3 fr2 ph2 ∧ Agr A σ σ3 ∧ Stp Z H ph Z2 H3 ph2 [] ∧ S σ3 Z2 H3 ∧ SR G W A Z H ph σ De (forL gt body s (s.items.drop (i + 1)) fr2)) := by
        intro σ3 Z3 H3 fr3 ph3 F3 a3 s3 h3
        exact ⟨rfl, hlt, Z3, fr3, ph3, F3, a02.trans (a3.sub fun j m => hA j (.inr m)), s02.trans s3, SO.sig (SO.step S2 F2 s3) (hguard fun j n1 n2 => a3.2 j n2), h3⟩
      refine ⟨Z1, fr2, ph2, F2, ?_⟩
      have up : ∀ {σ3 : L2.St}, Agr B σ2 σ3 → Agr A σ σ3 := fun a3 => a02.trans (a3.sub fun j m => hA j (.inr m))
      cases hb : body fr2 with
      | stuck => rw [hb] at h1; exact h1.elim
      | exn y fr3 =>
        rw [hb] at h1
        exact fun cls dx σ3 H3 Z3 ph3 F3 a3 s3 ex => h1 cls dx σ3 H3 Z3 ph3 F3 (up a3) (s02.trans s3) ex
      | ok f fr3 =>
        rw [hb] at h1
        cases f with
        | nx => exact fun σ3 H3 Z3 ph3 F3 a3 s3 => again F3 a3 s3 h1
        | ct => exact fun σ3 H3 Z3 ph3 F3 a3 s3 => again F3 a3 s3 h1
        | bk => exact fun σ3 H3 Z3 ph3 F3 a3 s3 => h1 σ3 H3 Z3 ph3 F3 (up a3) (s02.trans s3)
        | rt t => exact fun v σ3 H3 Z3 ph3 g F3 a3 hv s3 => h1 v σ3 H3 Z3 ph3 g F3 (up a3) hv (s02.trans s3)
  · have e : i = s.items.length := by omega
    subst e
    rw [List.drop_length, forL] at h1
    dsimp only at h1
    split at h1
    · rename_i hg
      exact .inl ⟨(SO.at_ S1 F1 hg _).2 (Nat.le_refl _), h1 σ1 H1 Z1 ph1 F1 a1 s1⟩
    · exact h1.elim
theorem s_for (C : Cs G E X sc W) {iter : Expr} {body : List Stmt} {pos : Pos} (hb : PSs X body (tS G W (asgSs E.N body) (evSs E sc n body))) : PS X (.For tg iter body [] pos) (tS G W (asgS E.N (.For tg iter body [] pos)) (evS E sc (n + 1) (.For tg iter body [] pos))) := by
  refine ⟨fun pins s σ H De I ⟨Z, fr, ph, F, h⟩ => ?_⟩
  rw [evS] at h
  split at h
  · exact h.elim
  rename_i hset
  cases ht : tgt E.N sc tg with
  | none => rw [ht] at h; exact h.elim
  | some gt =>
    rw [ht] at h
    dsimp only at h
    refine (ps_for C.hp C.calm ((eff n).src C.toCw tg iter) (pg_tgt C.tg C.calm C.K ht) hb (fold_no (by simpa using hset) X.env)).run pins s σ H De I ?_
    refine ⟨Z, fr, ph, F, GR.mono h.bind (fun _ _ z => z) fun s fr1 h1 => fun J H1 Z1 ph1 S F1 s1 hS SO => ?_⟩
    split at h1
    rotate_left
    · exact h1.elim
    rename_i hgf
    refine forL_turns SO (fun j m => ?_) hgf (h1.shift s1 Agr.refl) F1 hS
    rw [asgS]
    rcases m with m | m
    · exact List.mem_append_left _ (List.mem_append_left _ (tgt_slots ht j m))
    · exact List.mem_append_left _ (List.mem_append_right _ m)
theorem s_while (C : Cs G E X sc W) {c : Expr} {body : List Stmt} {pos : Pos} (hb : PSs X body (tS G W (asgSs E.N body) (evSs E sc n body))) : PS X (.While c body [] pos) (tS G W (asgS E.N (.While c body [] pos)) (evS E sc (n + 1) (.While c body [] pos))) := by
  refine psI (ps_while C.hp ((eff n).t C.toCw c) hb) fun De σ H ⟨Z, fr, ph, F, h⟩ => ?_
  rw [evS] at h
  have hA : ∀ j, j ∈ asgSs E.N body → j ∈ asgS E.N (.While c body [] pos) := fun j m => by
    rw [asgS]
    exact List.mem_append_left _ m
  refine ⟨fun m σ1 H1 => ∃ Z1 fr1 ph1, FrOk G Z1 H1 σ1 fr1 ph1 ∧ Agr (asgS E.N (.While c body [] pos)) σ σ1 ∧ Stp Z H ph Z1 H1 ph1 [] ∧ SR G W (asgS E.N (.While c body [] pos)) Z H ph σ De (whileL (evT E sc n c) (evSs E sc n body) m fr1), ⟨1000000, Z, fr, ph, F, Agr.refl, Stp.refl, h⟩, ?_⟩
  rintro m σ1 H1 ⟨Z1, fr1, ph1, F1, a1, s1, h1⟩
  cases m with
  | zero => exact h1.elim
  | succ m =>
    rw [whileL] at h1
    dsimp only at h1
    refine ⟨Z1, fr1, ph1, F1, ?_⟩
    cases hc : evT E sc n c fr1 with
    | stuck => rw [hc] at h1; exact h1.elim
    | exn y fr2 =>
      rw [hc] at h1
      exact fun cls dx H2 Z2 ph2 F2 s2 ex => h1 cls dx σ1 H2 Z2 ph2 F2 a1 (s1.trans s2) ex
    | ok k fr2 =>
      rw [hc] at h1
      intro H2 Z2 ph2 F2 s2
      cases k with
      | false =>
        rw [if_neg (by decide)]
        exact h1 σ1 H2 Z2 ph2 F2 a1 (s1.trans s2)
      | true =>
        rw [if_pos rfl]
        dsimp only at h1
        refine ⟨fun σ3 H3 => ∃ Z1 fr1 ph1, FrOk G Z1 H3 σ3 fr1 ph1 ∧ Agr (asgS E.N (.While c body [] pos)) σ σ3 ∧ Stp Z H ph Z1 H3 ph1 [] ∧ SR G W (asgS E.N (.While c body [] pos)) Z H ph σ De (whileL (evT E sc n c) (evSs E sc n body) m fr1), fun σ3 H3 p => ⟨m, Nat.lt_succ_self _, p⟩, Z2, fr2, ph2, F2, ?_⟩
        have up : ∀ {σ3 : L2.St}, Agr (asgSs E.N body) σ1 σ3 → Agr (asgS E.N (.While c body [] pos)) σ σ3 := fun a3 => a1.trans (a3.sub hA)
        cases hb : evSs E sc n body fr2 with
        | stuck => rw [hb] at h1; exact h1.elim
        | exn y fr3 =>
          rw [hb] at h1
          exact fun cls dx σ3 H3 Z3 ph3 F3 a3 s3 ex => h1 cls dx σ3 H3 Z3 ph3 F3 (up a3) ((s1.trans s2).trans s3) ex
        | ok f fr3 =>
          rw [hb] at h1
          cases f with
          | nx => exact fun σ3 H3 Z3 ph3 F3 a3 s3 => ⟨Z3, fr3, ph3, F3, up a3, (s1.trans s2).trans s3, h1⟩
          | ct => exact fun σ3 H3 Z3 ph3 F3 a3 s3 => ⟨Z3, fr3, ph3, F3, up a3, (s1.trans s2).trans s3, h1⟩
          | bk => exact fun σ3 H3 Z3 ph3 F3 a3 s3 => h1 σ3 H3 Z3 ph3 F3 (up a3) ((s1.trans s2).trans s3)
          | rt t => exact fun v σ3 H3 Z3 ph3 g F3 a3 hv s3 => h1 v σ3 H3 Z3 ph3 g F3 (up a3) hv ((s1.trans s2).trans s3)
end Bw

set_option maxHeartbeats 4000000
namespace Bw
open PySem PySem.Spec PyProof.Rows L2
variable {G : Gx} {E : Ev} {X : Cx} {sc : Scope} {W : WX} {Z Z' Z0 Z1 Z2 : Addr → Prop} {H H' H0 H1 H2 : Hp} {σ σ' σ1 σ2 : L2.St} {fr fr' fr0 fr1 fr2 : Fr} {ph ph' ph0 ph1 ph2 pa' : Nat → List Addr} {o : Opd} {v : V} {d : D} {g g1 g2 gh gD : List Addr} {t : T} {n : Nat} {tg tg1 : Expr} {own own1 A A' : List Nat}
theorem s_raise (C : Cs G E X sc W) {c : Str} {a : Expr} {p q pos : Pos} : PS X (.Raise (some (.Call (.Name c p) [a] [] q)) none pos) (tS G W A (evS E sc (n + 1) (.Raise (some (.Call (.Name c p) [a] [] q)) none pos))) := by
  refine ⟨fun pins s σ H De I ⟨Z, fr, ph, F, h⟩ => ?_⟩
  rw [evS] at h
  split at h
  rotate_left
  · exact h.elim
  rename_i hc
  rw [Bool.and_eq_true, Bool.and_eq_true] at hc
  obtain ⟨⟨hg, hn⟩, hst⟩ := hc
  cases hx : E.exs c with
  | none => rw [hx] at h; exact h.elim
  | some f =>
    rw [hx] at h
    dsimp only at h
    obtain ⟨Ca, fI, qn, k1, k2, k3⟩ := C.ex c f hx
    have hst := (nostar_cons hst X.env).1
    obtain ⟨nd1, _, _⟩ := okName_ne hn
    refine (ps_raise C.calm C.tk (pmk_exc k3 k2 (by simpa using nd1) C.room (pa_cons ((eff n).v C.toCw a) pa_nil hst) (isGlob_gl hg C.sc) hst)).run pins s σ H De I ?_
    refine ⟨Z, fr, ph, F, GR.mono h.bind (fun _ _ z => z) fun t fr1 h1 => fun v H1 Z1 ph1 g F1 hv s1 => ⟨v, rfl, fun dd hd => ?_⟩⟩
    split at h1
    · rename_i him
      obtain ⟨F2, rd⟩ := hv.freeze F1
      have k := keep_upd (o := .xd [(f, v)]) hd
      have rd2 : RD G (fun _ => False) (upd H1 dd (.xd [(f, v)])) (fz t) v := rd.imm ⟨fun a o u e => k a _ e⟩ him
      exact h1 (.ref Ca) (some dd) σ _ _ ph1 (F2.grow k) Agr.refl (s1.freeze.trans (stp_of_grow k)) ⟨Ca, dd, [(f, v)], rfl, k1, rfl, upd_same, rfl, .cons rd2 .nil⟩
    · exact h1.elim
/-- what a clause's suite does -/
def tSu (f : Str) (t : Option Str) (C : Addr) (i j : Nat) : Addr → Value → Option Addr → TS := fun a cls d De σ H => σ[i]? = some (some (.ref a)) ∧ cls = .ref C ∧ ∃ (dd : Addr) (v : V), d = some dd ∧ H dd = some (.xd [(f, v)]) ∧
  (match t with
  | some t => ∀ (p : Addr) (o : Obj), H p = none → o.dict = none → De.nx (σ.set j (some (.ref p))) (upd H p (.frz o (.tup [.str t, v])))
  | none => De.nx (σ.set j (some v)) H)
theorem isL_lk {x : Str} (h : isL sc x = true) : sc.names.lookup x = some .local := by
  unfold isL at h
  split at h
  · assumption
  · cases h
def hdlNm : ExceptHandler → Str
  | .ExceptHandler _ (some n) _ _ => n
  | _ => ""
def hdlTo : ExceptHandler → Option Str
  | .ExceptHandler _ _ [.Assign [.Name y _] _ _] _ => some y
  | _ => none
theorem hdl_ok (C : Cs G E X sc W) {h : ExceptHandler} {r : List ExceptHandler} {a : Hdl} {l : List (Value × Nat × (Addr → Value → Option Addr → TS))} (e : hdl1 E sc h = some a) (hr : HdsOkA X r l) :
    ∃ Ca, G.cls a.cls = some Ca ∧ E.exs a.cls = some a.fld ∧ a.slot ≠ a.to ∧ slotOf E.N (hdlNm h) = some a.slot ∧ (∃ y, slotOf E.N y = some a.to ∧ hdlTo h = some y) ∧ HdsOkA X (h :: r) ((.ref Ca, a.slot, tSu a.fld a.txt Ca a.slot a.to) :: l) := by
  unfold hdl1 at e
  split at e
  · rename_i c p n y py t k1 p1 n2 p3 f p4 k5 p5 p6 p7
    split at e
    · rename_i hc
      simp only [Bool.and_eq_true, decide_eq_true_eq] at hc
      obtain ⟨⟨⟨⟨⟨rfl, hn⟩, hy⟩, hok⟩, hg⟩, hokc⟩ := hc
      rw [Option.bind_eq_some_iff] at e
      obtain ⟨i, hi, e⟩ := e
      rw [Option.bind_eq_some_iff] at e
      obtain ⟨j, hj, e⟩ := e
      split at e
      · cases e
      rename_i hij
      rw [Option.bind_eq_some_iff] at e
      obtain ⟨f', hx, e⟩ := e
      split at e
      · rename_i hff
        subst hff
        cases e
        obtain ⟨Ca, fI, qn, q1, q2, q3⟩ := C.ex c _ hx
        obtain ⟨nd1, _, _⟩ := okName_ne hokc
        obtain ⟨ne1, ne2, _⟩ := okName_ne hok
        have hNi : X.N[i]? = some n2 := by rw [C.N]; exact slotOf_at hi
        have hNj : X.N[j]? = some y := by rw [C.N]; exact slotOf_at hj
        have ln : X.env.scope.names.lookup n2 = some .local := by rw [C.sc]; exact isL_lk hn
        have ly : X.env.scope.names.lookup y = some .local := by rw [C.sc]; exact isL_lk hy
        refine ⟨Ca, q1, hx, hij, hi, ⟨y, hj, rfl⟩, .cons ⟨isGlob_gl hg C.sc, by simpa using nd1, .inl q2⟩ hNi ln (fun a oe cls d pn hz hf => ?_) hr⟩
        have pv : PE (X.suite a ((a, oe) :: pn)) (.Name n2 p3) (tVar i) := pe_var hNi (.inl ln) ne1 ne2
        have pt := pe_tupZ (X := X.suite a ((a, oe) :: pn)) (pos := p5) (k := k5) (pa_cons (pe_str (x := t) (j := k1) (pos := p1)) (pa_cons (pe_byX (pos := p4) q3 hz hf pv rfl) pa_nil rfl) rfl)
        refine pssI (pss_one (ps_set (X := X.suite a ((a, oe) :: pn)) (i := j) C.nd hNj (.inl ly) pt rfl (.inr ly))) ?_
        intro De σ H ⟨u1, u2, dd, v, u3, u4, u5⟩
        refine ⟨_, u1, rfl, u2, dd, v, u3, u4, by show 2 ≤ sizeLine; decide, fun p o hp ho => ?_⟩
        exact u5 p o hp ho
      · cases e
    · cases e
  · rename_i c p n y py n2 p3 f p4 p6 p7
    split at e
    · rename_i hc
      simp only [Bool.and_eq_true, decide_eq_true_eq] at hc
      obtain ⟨⟨⟨⟨⟨rfl, hn⟩, hy⟩, hok⟩, hg⟩, hokc⟩ := hc
      rw [Option.bind_eq_some_iff] at e
      obtain ⟨i, hi, e⟩ := e
      rw [Option.bind_eq_some_iff] at e
      obtain ⟨j, hj, e⟩ := e
      split at e
      · cases e
      rename_i hij
      rw [Option.bind_eq_some_iff] at e
      obtain ⟨f', hx, e⟩ := e
      split at e
      · rename_i hff
        subst hff
        cases e
        obtain ⟨Ca, fI, qn, q1, q2, q3⟩ := C.ex c _ hx
        obtain ⟨nd1, _, _⟩ := okName_ne hokc
        obtain ⟨ne1, ne2, _⟩ := okName_ne hok
        have hNi : X.N[i]? = some n2 := by rw [C.N]; exact slotOf_at hi
        have hNj : X.N[j]? = some y := by rw [C.N]; exact slotOf_at hj
        have ln : X.env.scope.names.lookup n2 = some .local := by rw [C.sc]; exact isL_lk hn
        have ly : X.env.scope.names.lookup y = some .local := by rw [C.sc]; exact isL_lk hy
        refine ⟨Ca, q1, hx, hij, hi, ⟨y, hj, rfl⟩, .cons ⟨isGlob_gl hg C.sc, by simpa using nd1, .inl q2⟩ hNi ln (fun a oe cls d pn hz hf => ?_) hr⟩
        have pv : PE (X.suite a ((a, oe) :: pn)) (.Name n2 p3) (tVar i) := pe_var hNi (.inl ln) ne1 ne2
        have pt := pe_byX (X := X.suite a ((a, oe) :: pn)) (pos := p4) q3 hz hf pv rfl
        refine pssI (pss_one (ps_set (X := X.suite a ((a, oe) :: pn)) (i := j) C.nd hNj (.inl ly) pt rfl (.inr ly))) ?_
        intro De σ H ⟨u1, u2, dd, v, u3, u4, u5⟩
        exact ⟨_, u1, rfl, u2, dd, v, u3, u4, u5⟩
      · cases e
    · cases e
  · cases e
end Bw

set_option maxHeartbeats 4000000
namespace Bw
open PySem PySem.Spec PyProof.Rows L2
variable {G : Gx} {E : Ev} {X : Cx} {sc : Scope} {W : WX} {Z Z' Z0 Z1 Z2 : Addr → Prop} {H H' H0 H1 H2 : Hp} {σ σ' σ1 σ2 : L2.St} {fr fr' fr0 fr1 fr2 : Fr} {ph ph' ph0 ph1 ph2 pa' : Nat → List Addr} {o : Opd} {v : V} {d : D} {g g1 g2 gh gD : List Addr} {t : T} {n : Nat} {tg tg1 : Expr} {own own1 A A' : List Nat}
/-- the clauses as read, beside what the rule wants -/
inductive ParH (G : Gx) (E : Ev) (A : List Nat) : List Hdl → List (Value × Nat × (Addr → Value → Option Addr → TS)) → Prop
  | nil : ParH G E A [] []
  | cons {a : Hdl} {Ca : Addr} {hl l} (h1 : G.cls a.cls = some Ca) (h2 : E.exs a.cls = some a.fld) (h3 : a.slot ≠ a.to) (h4 : a.slot ∈ A) (h5 : a.to ∈ A) (h6 : a.slot < E.N.length) (r : ParH G E A hl l) : ParH G E A (a :: hl) ((.ref Ca, a.slot, tSu a.fld a.txt Ca a.slot a.to) :: l)
theorem hdls_ok (C : Cs G E X sc W) : ∀ {hs : List ExceptHandler} {hl : List Hdl}, hdls E sc hs = some hl → ∃ l, HdsOkA X hs l ∧ ParH G E (asgHs E.N hs) hl l
  | [], hl, e => by
    cases e
    exact ⟨[], .nil, .nil⟩
  | h :: r, hl, e => by
    rw [hdls] at e
    cases e1 : hdl1 E sc h with
    | none => simp only [e1] at e; cases e
    | some a =>
      cases e2 : hdls E sc r with
      | none => simp only [e1, e2] at e; cases e
      | some b =>
        simp only [e1, e2] at e
        cases e
        obtain ⟨l, q1, q2⟩ := hdls_ok C e2
        obtain ⟨Ca, k1, k2, k3, k4, ⟨y, k5, k6⟩, k7⟩ := hdl_ok C e1 q1
        refine ⟨_, k7, ?_⟩
        have sub : ∀ {hl l}, ParH G E (asgHs E.N r) hl l → ParH G E (asgHs E.N (h :: r)) hl l := by
          intro hl l hp
          induction hp with
          | nil => exact .nil
          | cons h1 h2 h3 h4 h5 h6 r' ih =>
            have up : ∀ {j}, j ∈ asgHs E.N r → j ∈ asgHs E.N (h :: r) := fun {j} m => by
              cases h with
              | ExceptHandler a b c d => rw [asgHs_cons]; exact List.mem_append_right _ m
            exact .cons h1 h2 h3 (up h4) (up h5) h6 ih
        have m1 : a.slot ∈ asgHs E.N (h :: r) ∧ a.to ∈ asgHs E.N (h :: r) := by
          cases h with
          | ExceptHandler ty nm bd ps =>
            cases nm with
            | none =>
              exfalso
              unfold hdl1 at e1
              cases ty with
              | none => cases e1
              | some ty => cases ty <;> cases e1
            | some nm =>
              have k4 : slotOf E.N nm = some a.slot := k4
              rw [asgHs_cons]
              simp only [k4]
              refine ⟨by simp, ?_⟩
              unfold hdlTo at k6
              split at k6
              · rename_i heq
                cases k6
                cases heq
                simp [asgSs, asgS, slotsX, k5]
              · cases k6
        exact .cons k1 k2 k3 m1.1 m1.2 (by have := slotOf_at k4; exact (List.getElem?_eq_some_iff.mp this).1) (sub q2)
theorem many_ok (C : Cs G E X sc W) {De : Ends} {x : Exn} {fx : Str} (hx : E.exs x.cls = some fx) {cls : Value} {dx : Option Addr} (F1 : FrOk G Z1 H1 σ1 fr1 ph1) (a1 : Agr A σ σ1) (s1 : Stp Z H ph Z1 H1 ph1 []) (ex : ExR G H1 x cls dx) (hlen : σ1.length = E.N.length) :
    ∀ {hl : List Hdl} {l : List (Value × Nat × (Addr → Value → Option Addr → TS))}, ParH G E A hl l → SR G W A Z H ph σ De (handle hl x fr1) → wManyA X.K W De l cls dx σ1 H1
  | _, _, .nil, h => h cls dx σ1 H1 Z1 ph1 F1 a1 s1 ex
  | _, _, .cons (a := a) (Ca := Ca) h1 h2 h3 h4 h5 h6 r, h => by
    obtain ⟨Cx, ad, ws, e1, e2, e3, e4, e5, e6⟩ := ex
    have hm := C.exm x.cls a.cls fx a.fld Cx Ca hx h2 e2 h1
    rw [handle] at h
    refine ⟨decide (x.cls = a.cls), by rw [e1]; exact hm, fun hb a0 ha0 => ?_, fun hb => ?_⟩
    · have hc : x.cls = a.cls := of_decide_eq_true hb
      rw [if_pos hc.symm] at h
      have hC : Cx = Ca := by
        rw [hc, h1] at e2
        exact (Option.some.inj e2).symm
      subst hC
      cases hf : fldOf x a.fld with
      | none => rw [hf] at h; exact h.elim
      | some d =>
        rw [hf] at h
        unfold fldOf at hf
        split at hf
        · rename_i g0 d0 hfs
          split at hf
          · rename_i hg0
            cases hf
            subst hg0
            rw [hfs] at e5 e6
            have hws : ∃ v, ws = [(a.fld, v)] ∧ RD G (fun _ => False) H1 d v := by
              cases ws with
              | nil => cases e5
              | cons w r =>
                obtain ⟨k, v⟩ := w
                cases r with
                | nil =>
                  have ek : a.fld = k := (List.cons.inj e5).1
                  subst ek
                  cases e6 with
                  | cons q _ => exact ⟨v, rfl, q⟩
                | cons _ _ => simp at e5
            obtain ⟨v, rfl, rd⟩ := hws
            have fin : ∀ {H2 : Hp} {dn : D} {vn : V}, (∀ a o, H1 a = some o → H2 a = some o) → RD G Z1 H2 dn vn → SR G W A Z H ph σ De (.ok .nx ((fr1.set a.to (some (.d dn))).set a.slot none)) → De.nx (((σ1.set a.slot (some (.ref a0))).set a.to (some vn)).set a.slot none) H2 := by
              intro H2 dn vn k rdt h
              have FA := (F1.unset (some (.ref a0)) a.slot).grow k
              obtain ⟨ph2, FB, sB⟩ := set_data (i := a.to) FA rdt
              have FC := FB.unset none a.slot
              have ef : ((fr1.set a.slot none).set a.to (some (.d dn))).set a.slot none = (fr1.set a.to (some (.d dn))).set a.slot none := by
                rw [List.set_comm _ _ h3, List.set_set]
              rw [ef] at FC
              refine h _ _ Z1 _ FC (a1.trans ⟨by rw [List.length_set, List.length_set, List.length_set], fun j nj => ?_⟩) (s1.trans (stp_sub k fun j b m => ?_))
              · rw [List.getElem?_set_ne (fun z => by subst z; exact nj h4), List.getElem?_set_ne (fun z => by subst z; exact nj h5), List.getElem?_set_ne (fun z => by subst z; exact nj h4)]
              · by_cases q : j = a.slot
                · subst q; rw [setP_same] at m; cases m
                · rw [setP_ne q] at m
                  have := sB j b m
                  rw [setP_ne q] at this
                  exact this
            refine ⟨List.getElem?_set_self (by rw [hlen]; exact h6), e1, ad, v, e3, e4, ?_⟩
            dsimp only at h
            generalize a.txt = tx at h ⊢
            cases tx with
            | none => exact fin (fun _ _ e => e) rd.false h
            | some tx =>
              intro p o hp ho
              have k := keep_upd (o := .frz o (.tup [.str tx, v])) hp
              exact fin k (rd_tup (.cons (.str _) (.cons rd.false .nil)) hp ho) h
          · cases hf
        · cases hf
    · have hc : ¬ a.cls = x.cls := fun z => by
        rw [z] at hb
        simp at hb
      rw [if_neg hc] at h
      exact many_ok C hx F1 a1 s1 ⟨Cx, ad, ws, e1, e2, e3, e4, e5, e6⟩ hlen r h
/-- a try's body -/
theorem cs_tr (C : Cs G E X sc W) {pn : List (Addr × Obj)} {xe : Value → Shared → Prop} {W' : WX} (tk : Takes (X.tr pn xe) W') (hp : PassesOwn (model X.prog X.w) X.A X.env xe) : Cs G E (X.tr pn xe) sc W' where
  K := C.K
  N := C.N
  nd := C.nd
  sc := C.sc
  hu := C.hu
  cst := C.cst
  blt := C.blt
  calm := C.calm
  tk := tk
  fn := C.fn
  tg := ⟨C.tg.N, C.tg.nd, C.tg.loc, C.tg.cell⟩
  hp := hp
  stk := C.stk
  fr_ := C.fr_
  room := C.room
  ex := C.ex
  exm := C.exm
theorem s_try (C : Cs G E X sc W) {body : List Stmt} {hs : List ExceptHandler} {pos : Pos} (hb : ∀ {X W}, Cs G E X sc W → PSs X body (tS G W (asgSs E.N body) (evSs E sc n body))) : PS X (.Try body hs [] [] pos) (tS G W (asgS E.N (.Try body hs [] [] pos)) (evS E sc (n + 1) (.Try body hs [] [] pos))) := by
  refine ⟨fun pins s σ H De I ⟨Z, fr, ph, F, h⟩ => ?_⟩
  rw [evS] at h
  cases hh : hdls E sc hs with
  | none => rw [hh] at h; exact h.elim
  | some hl =>
    rw [hh] at h
    dsimp only at h
    split at h
    · exact h.elim
    rename_i hne
    obtain ⟨l, q1, q2⟩ := hdls_ok C hh
    cases hs with
    | nil => cases hh; exact absurd rfl hne
    | cons h0 hds =>
    have subB : ∀ j, j ∈ asgSs E.N body → j ∈ asgS E.N (.Try body (h0 :: hds) [] [] pos) := fun j m => by
      rw [asgS]
      exact List.mem_append_left _ (List.mem_append_left _ (List.mem_append_left _ m))
    have subH : ∀ j, j ∈ asgHs E.N (h0 :: hds) → j ∈ asgS E.N (.Try body (h0 :: hds) [] [] pos) := fun j m => by
      rw [asgS]
      exact List.mem_append_left _ (List.mem_append_left _ (List.mem_append_right _ m))
    have q2' : ParH G E (asgS E.N (.Try body (h0 :: hds) [] [] pos)) hl l := by
      clear h hh q1 hne
      induction q2 with
      | nil => exact .nil
      | cons h1 h2 h3 h4 h5 h6 r ih => exact .cons h1 h2 h3 (subH _ h4) (subH _ h5) h6 ih
    refine (ps_try_manyA (tb := fun W => tS G W (asgSs E.N body) (evSs E sc n body)) C.stk C.fr_ C.nd C.tk (fun W' pn xe tk hp => hb (cs_tr C tk hp)) q1).run pins s σ H De I ?_
    refine ⟨Z, fr, ph, F, ?_⟩
    dsimp only at h
    cases hr : evSs E sc n body fr with
    | stuck => rw [hr] at h; exact h.elim
    | ok f fr1 =>
      rw [hr] at h
      have h := SR.sub subB h
      cases f <;> exact h
    | exn x fr1 =>
      rw [hr] at h
      dsimp only at h
      split at h
      · rename_i hx
        cases hx2 : E.exs x.cls with
        | none => rw [hx2] at hx; cases hx
        | some fx =>
          intro cls dx σ1 H1 Z1 ph1 F1 a1 s1 ex
          exact many_ok C hx2 F1 (a1.sub subB) s1 ex (by rw [a1.1, I.len, C.N]) q2' h
      · exact h.elim
end Bw

set_option maxHeartbeats 4000000
namespace Bw
open PySem PySem.Spec PyProof.Rows L2
variable {G : Gx} {E : Ev} {X : Cx} {sc : Scope} {W : WX} {Z Z' Z0 Z1 Z2 : Addr → Prop} {H H' H0 H1 H2 : Hp} {σ σ' σ1 σ2 : L2.St} {fr fr' fr0 fr1 fr2 : Fr} {ph ph' ph0 ph1 ph2 pa' : Nat → List Addr} {o : Opd} {v : V} {d : D} {g g1 g2 gh gD : List Addr} {t : T} {n : Nat} {tg tg1 : Expr} {own own1 A A' : List Nat}
structure StOk (G : Gx) (E : Ev) (n : Nat) : Prop where
  s : ∀ {X sc W}, Cs G E X sc W → ∀ st, PS X st (tS G W (asgS E.N st) (evS E sc n st))
  ss : ∀ {X sc W}, Cs G E X sc W → ∀ sts, PSs X sts (tS G W (asgSs E.N sts) (evSs E sc n sts))
theorem ss_nil {m : Nat} : PSs X [] (tS G W A (evSs E sc m [])) := by
  refine pssI pss_nil fun D σ H ⟨Z, fr, ph, F, h⟩ => ?_
  have h : SR G W A Z H ph σ D (.ok .nx fr) := by
    cases m <;> exact h
  exact h σ H Z ph F Agr.refl Stp.refl
theorem psN {st : Stmt} {m : M Flo} (h : ∀ fr, m fr = .stuck) : PS X st (tS G W A m) := ps_none h
theorem s_step (ih : StOk G E n) (C : Cs G E X sc W) (st : Stmt) : PS X st (tS G W (asgS E.N st) (evS E sc (n + 1) st)) := by
  cases st with
  | Pass pos => exact psI ps_pass fun D σ H ⟨Z, fr, ph, F, h⟩ => h σ H Z ph F Agr.refl Stp.refl
  | Break pos => exact psI ps_break fun D σ H ⟨Z, fr, ph, F, h⟩ => h σ H Z ph F Agr.refl Stp.refl
  | Continue pos => exact psI ps_continue fun D σ H ⟨Z, fr, ph, F, h⟩ => h σ H Z ph F Agr.refl Stp.refl
  | Expr e pos => exact s_expr C
  | Return e pos =>
    cases e with
    | none => exact psI ps_retN fun D σ H ⟨Z, fr, ph, F, h⟩ => h .non σ H Z ph [] F Agr.refl (Val.of_rd .non) Stp.refl
    | some e => exact s_ret C
  | If c a b pos =>
    refine s_if C (pss_sub (fun j m => ?_) (ih.ss C a)) (pss_sub (fun j m => ?_) (ih.ss C b))
    · rw [asgS]; exact List.mem_append_left _ m
    · rw [asgS]; exact List.mem_append_right _ m
  | Assign ts e pos =>
    match ts with
    | [.Name x p] => exact s_name C
    | [.Tuple es k p] =>
      cases e with
      | Call f as ks q => exact s_tup C
      | _ => exact psN fun fr => rfl
    | [.Subscript o k q] =>
      cases o with
      | Name x p => exact s_sub C
      | _ => exact psN fun fr => rfl
    | [] => exact psN fun fr => rfl
    | t1 :: t2 :: r =>
      refine psN fun fr => ?_
      cases t1 with
      | Name x p => rfl
      | Tuple es k p => cases e <;> rfl
      | Subscript o k q => cases o <;> rfl
      | _ => rfl
    | [.List _ _] => exact psN fun fr => rfl
    | [.Attribute _ _ _] => exact psN fun fr => rfl
    | [.Starred _ _] => exact psN fun fr => rfl
    | [.BoolOp _ _ _] => exact psN fun fr => rfl
    | [.NamedExpr _ _ _] => exact psN fun fr => rfl
    | [.BinOp _ _ _ _] => exact psN fun fr => rfl
    | [.UnaryOp _ _ _] => exact psN fun fr => rfl
    | [.Lambda _ _ _ _] => exact psN fun fr => rfl
    | [.IfExp _ _ _ _] => exact psN fun fr => rfl
    | [.Dict _ _ _] => exact psN fun fr => rfl
    | [.Set _ _ _] => exact psN fun fr => rfl
    | [.ListComp _ _ _ _] => exact psN fun fr => rfl
    | [.SetComp _ _ _ _] => exact psN fun fr => rfl
    | [.DictComp _ _ _ _ _] => exact psN fun fr => rfl
    | [.GeneratorExp _ _ _ _] => exact psN fun fr => rfl
    | [.Await _ _] => exact psN fun fr => rfl
    | [.Yield _ _] => exact psN fun fr => rfl
    | [.YieldFrom _ _] => exact psN fun fr => rfl
    | [.Compare _ _ _ _] => exact psN fun fr => rfl
    | [.Call _ _ _ _] => exact psN fun fr => rfl
    | [.FormattedValue _ _ _ _] => exact psN fun fr => rfl
    | [.JoinedStr _ _] => exact psN fun fr => rfl
    | [.Constant _ _ _] => exact psN fun fr => rfl
    | [.Slice _ _ _ _] => exact psN fun fr => rfl
  | AugAssign t op e pos =>
    cases t with
    | Name x p => exact s_aug C
    | _ => exact psN fun fr => rfl
  | For tg iter body orelse pos =>
    cases orelse with
    | nil => exact s_for C (ih.ss C body)
    | cons _ _ => exact psN fun fr => rfl
  | While c body orelse pos =>
    cases orelse with
    | nil => exact s_while C (ih.ss C body)
    | cons _ _ => exact psN fun fr => rfl
  | Raise e c pos =>
    cases e with
    | none => exact psN fun fr => by cases c <;> rfl
    | some e =>
      cases e with
      | Call f as ks q =>
        cases f with
        | Name x p =>
          match as, ks with
          | [a], [] =>
            cases c with
            | none => exact s_raise C
            | some _ => exact psN fun fr => rfl
          | [], _ => exact psN fun fr => by cases c <;> rfl
          | [_], _ :: _ => exact psN fun fr => by cases c <;> rfl
          | _ :: _ :: _, _ => exact psN fun fr => by cases c <;> rfl
        | _ => exact psN fun fr => by cases c <;> rfl
      | _ => exact psN fun fr => by cases c <;> rfl
  | Try body hs o f pos =>
    match o, f with
    | [], [] => exact s_try C fun C' => ih.ss C' body
    | [], _ :: _ => exact psN fun fr => rfl
    | _ :: _, _ => exact psN fun fr => rfl
  | _ => exact psN fun fr => rfl
theorem st_ok : ∀ n, StOk G E n
  | 0 => ⟨fun C st => psN fun fr => rfl, fun C sts => by
    cases sts with
    | nil => exact ss_nil
    | cons s r => exact ⟨fun pins s σ H D I ⟨Z, fr, ph, F, h⟩ => h.elim⟩⟩
  | n + 1 => ⟨fun C st => s_step (st_ok n) C st, fun C sts => by
    cases sts with
    | nil => exact ss_nil
    | cons s r =>
      refine s_seq (ps_sub (fun j m => ?_) ((st_ok n).s C s)) (pss_sub (fun j m => ?_) ((st_ok n).ss C r))
      · rw [asgSs]; exact List.mem_append_left _ m
      · rw [asgSs]; exact List.mem_append_right _ m⟩
end Bw

set_option maxHeartbeats 4000000
namespace Bw
open PySem PySem.Spec PyProof.Rows L2
variable {G : Gx} {E : Ev} {X : Cx} {sc : Scope} {W : WX} {Z Z' Z0 Z1 Z2 : Addr → Prop} {H H' H0 H1 H2 : Hp} {σ σ' σ1 σ2 : L2.St} {fr fr' fr0 fr1 fr2 : Fr} {ph ph' ph0 ph1 ph2 pa pa' : Nat → List Addr} {o : Opd} {v : V} {d : D} {g g1 g2 gh gD : List Addr} {t : T} {n : Nat} {tg tg1 : Expr} {own own1 A A' : List Nat}
/-- a def's parameters as they are left -/
def psBack (np : Nat) (A : List Nat) (fr : Fr) : Fr := (List.range np).map fun j => if A.contains j then none else fr[j]?.join
def runF (E : Ev) (sc : Scope) (fuel : Nat) (body : List Stmt) (ts : List T) : CRes :=
  if ts.length = E.np then
    match evSs E sc fuel body (ts.map some ++ List.replicate (E.N.length - E.np) none) with
    | .ok .nx fr => .ok (.d .non) (psBack E.np (asgSs E.N body) fr)
    | .ok (.rt t) fr => .ok t (psBack E.np (asgSs E.N body) fr)
    | .exn x fr => .exn x (psBack E.np (asgSs E.N body) fr)
    | _ => .stuck
  else .stuck
def phB (np : Nat) (A : List Nat) (ph : Nat → List Addr) : Nat → List Addr := fun j => if j < np ∧ j ∉ A then ph j else []
theorem phB_sub {np j : Nat} {a : Addr} (m : a ∈ phB np A ph j) : a ∈ ph j := by
  unfold phB at m
  split at m
  · exact m
  · cases m
theorem psBack_at {np j : Nat} : (psBack np A fr)[j]? = if j < np then some (if A.contains j then none else fr[j]?.join) else none := by
  unfold psBack
  rw [List.getElem?_map]
  by_cases h : j < np
  · rw [List.getElem?_range h, if_pos h]; rfl
  · rw [List.getElem?_eq_none (by rw [List.length_range]; omega), if_neg h]; rfl
theorem start_frame {vs : List V} {ts : List T} {N : List Str} {np : Nat} (F : FrOk G Z H (vs.map some) (ts.map some) pa) (h : ts.length = np) (hn : np ≤ N.length) : FrOk G Z H (L2.start N vs) (ts.map some ++ List.replicate (N.length - np) none) pa where
  len := by
    have := F.len
    simp at this
    unfold L2.start
    simp [this, h]
    omega
  at_ := fun i t e => by
    have hl := F.len
    simp at hl
    by_cases hi : i < ts.length
    · rw [List.getElem?_append_left (by simpa using hi)] at e
      obtain ⟨v, ev, r⟩ := F.at_ i t e
      refine ⟨v, ?_, r⟩
      unfold L2.start
      rw [List.getElem?_append_left (by simp; omega)]
      exact ev
    · rw [List.getElem?_append_right (by simpa using hi), List.getElem?_replicate] at e
      split at e <;> cases e
  emp := fun i e => F.emp i fun t e' => e t (by
    have := (List.getElem?_eq_some_iff.mp e').1
    rw [List.getElem?_append_left this]
    exact e')
  nd := F.nd
  dj := F.dj
  dz := F.dz
  zt := F.zt
theorem end_frame {vs : List V} {N : List Str} {np : Nat} (F : FrOk G Z' H' σ' fr' ph') (a : Agr A (L2.start N vs) σ') (h : vs.length = np) : FrOk G Z' H' (vs.map some) (psBack np A fr') (phB np A ph') where
  len := by unfold psBack; simp [h]
  at_ := fun i t e => by
    rw [psBack_at] at e
    split at e
    · rename_i hi
      have e := Option.some.inj e
      split at e
      · cases e
      · rename_i hc
        have hA : i ∉ A := fun m => hc (List.contains_iff_mem.mpr m)
        cases e2 : fr'[i]? with
        | none => rw [e2] at e; cases e
        | some x =>
          rw [e2] at e
          cases x with
          | none => cases e
          | some t' =>
            cases e
            obtain ⟨v, ev, r⟩ := F.at_ i t e2
            have := a.2 i hA
            rw [ev] at this
            unfold L2.start at this
            rw [List.getElem?_append_left (by simp; omega)] at this
            refine ⟨v, this.symm, ?_⟩
            unfold phB
            rw [if_pos ⟨hi, hA⟩]
            exact r
    · cases e
  emp := fun i e => by
    unfold phB
    split
    · rename_i hc
      refine F.emp i fun t e' => e t ?_
      rw [psBack_at, if_pos hc.1, if_neg (fun m => hc.2 (List.contains_iff_mem.mp m)), e']
      rfl
    · rfl
  nd := fun i => by
    unfold phB
    split
    · exact F.nd i
    · exact List.nodup_nil
  dj := fun i j b m1 m2 => F.dj i j b (phB_sub m1) (phB_sub m2)
  dz := fun i b m => F.dz i b (phB_sub m)
  zt := F.zt
theorem stp_phB {np : Nat} (s : Stp Z H pa Z' H' ph' g) : Stp Z H pa Z' H' (phB np A ph') g := ⟨s.z, s.keep, s.there, s.t, s.f, fun j a m => s.new j a (phB_sub m), s.newg, s.zn⟩
theorem val_phB {np : Nat} (h : Val G Z H ph t v g) : Val G Z H (phB np A ph) t v g := ⟨h.rt, h.nd, h.dz, fun a m j q => h.dp a m j (phB_sub q)⟩
/-- one def -/
structure DefI where
  qual : Str
  params : Arguments
  body : List Stmt
  scope : Scope
  N : List Str
  ps : List Str
def evOf (B : Ev) (call : Str → List T → CRes) (d : DefI) : Ev := { B with N := d.N, np := d.ps.length, call := call }
def callN (B : Ev) (tab : Str → Option DefI) (fuel : Nat) : Nat → Str → List T → CRes
  | 0, _, _ => .stuck
  | k + 1, g, ts => match tab g with
    | some d => runF (evOf B (callN B tab fuel k) d) d.scope fuel d.body ts
    | none => .stuck
/-- what K and mg say of the program -/
structure PgOk (P : Program) (w : World) (K : PySem.W.Frag) (mg : Str → Option Value) (G : Gx) (B : Ev) (tab : Str → Option DefI) : Prop where
  hK : K = G.K
  cst : ∀ x d, B.cst x = some d → ∃ u v, mg x = some u ∧ RelV v u ∧ ∀ H, RD G (fun _ => False) H d v
  blt : ∀ x, B.blt x = true → mg x = none
  defs : ∀ g d, tab g = some d → ∃ f fd dvs kws, FunD K g d.qual d.params d.body d.scope dvs kws f fd ∧ FnScope d.N d.ps d.scope ∧ mg g = some (.ref f) ∧
    ∀ n ks sh, B.shape g n ks = some sh → ∃ gg gV, KBn K fd d.ps n ks gg gV ∧ ∀ vs zs, vs.length = n → zs.length = ks.length → ShV G (vs ++ zs) sh (gV vs zs)
  shp : ∀ g n ks sh, B.shape g n ks = some sh → ∃ d, tab g = some d
  ex : ∀ c f, B.exs c = some f → ∃ C fI qn, G.cls c = some C ∧ mg c = some (.ref C) ∧ PySem.ExcX.ExcTxt K f qn C fI
  exm : ∀ c c' f f' C C', B.exs c = some f → B.exs c' = some f' → G.cls c = some C → G.cls c' = some C' → PySem.W.exmOne K (.ref C) (.ref C') = some (decide (c = c'))
section
variable {P : Program} {w : World} {K : PySem.W.Frag} {mg : Str → Option Value} {base : Heap} {B : Ev} {tab : Str → Option DefI} {fuel k : Nat}
theorem fn_ev (pg : PgOk P w K mg G B tab) {call : Str → List T → CRes}
    (ih : ∀ gn d f fd dvs kws, tab gn = some d → FunD K gn d.qual d.params d.body d.scope dvs kws f fd → FnScope d.N d.ps d.scope → FnOk P w K mg base (L2.CX P w) (k + 1) f fd d.ps (spF G (call gn)))
    {gn : Str} {d : DefI} {f : Addr} {fd : FuncData} {dvs : List V} {kws : List (Str × V)} (FD : FunD K gn d.qual d.params d.body d.scope dvs kws f fd) (S : FnScope d.N d.ps d.scope) :
    FnOk P w K mg base (L2.CX P w) (k + 2) f fd d.ps (spF G (runF (evOf B call d) d.scope fuel d.body)) := by
  have hnp : d.ps.length ≤ d.N.length := by have := congrArg List.length S.pre; rw [List.length_take] at this; omega
  have hlen : ∀ vs H Q Ex, spF G (runF (evOf B call d) d.scope fuel d.body) vs H Q Ex → vs.length = d.ps.length := fun vs H Q Ex ⟨Z, ts, pa, F, h⟩ => by
    have hl := F.len
    simp at hl
    by_cases q : ts.length = d.ps.length
    · omega
    · unfold runF at h
      rw [if_neg (show ¬ ts.length = (evOf B call d).np from q)] at h
      exact h.elim
  refine FD.ok S hlen fun cdv A outer s H vs Q Ex hr hsp => ⟨tS G (fun cls dx _ H => Ex cls dx H) (asgSs d.N d.body) (evSs (evOf B call d) d.scope fuel d.body), ?_, ?_⟩
  · have C : Cs G (evOf B call d) (cxOf (L2.CX P w) P w K mg base d.N d.qual d.scope f cdv A outer s H Ex) d.scope (fun cls dx _ H => Ex cls dx H) :=
      { K := pg.hK
        N := rfl
        nd := S.nd
        sc := rfl
        hu := by have := hr.un; show (A.deeper _).units + 65 < cLine; omega
        cst := pg.cst
        blt := pg.blt
        calm := rfl
        tk := takes_of rfl rfl rfl rfl
        fn := fun gn n ks sh e => by
          obtain ⟨d2, hd2⟩ := pg.shp gn n ks sh e
          obtain ⟨f2, fd2, dvs2, kws2, q1, q2, q3, q4⟩ := pg.defs gn d2 hd2
          obtain ⟨gg, gV, q5, q6⟩ := q4 n ks sh e
          exact ⟨k + 1, f2, fd2, d2.ps, gg, gV, ih gn d2 f2 fd2 dvs2 kws2 hd2 q1 q2, hr, q3, q1.kp, q5, q6⟩
        tg := ⟨rfl, S.nd, fun _ e => e, fun _ e => ⟨e, rfl⟩⟩
        hp := passes_of rfl
        stk := rfl
        fr_ := rfl
        room := hr.mono (by omega)
        ex := pg.ex
        exm := pg.exm }
    exact (st_ok fuel).ss C d.body
  · obtain ⟨Z, ts, pa, F, h⟩ := hsp
    have hl := F.len
    simp at hl
    unfold runF at h
    by_cases q : ts.length = d.ps.length
    rotate_left
    · rw [if_neg (show ¬ ts.length = (evOf B call d).np from q)] at h; exact h.elim
    rw [if_pos (show ts.length = (evOf B call d).np from q)] at h
    have hvl : vs.length = d.ps.length := by omega
    refine ⟨Z, _, pa, start_frame F q hnp, ?_⟩
    show SR G _ _ Z H pa _ _ (evSs (evOf B call d) d.scope fuel d.body (ts.map some ++ List.replicate ((evOf B call d).N.length - (evOf B call d).np) none))
    cases hb : evSs (evOf B call d) d.scope fuel d.body (ts.map some ++ List.replicate ((evOf B call d).N.length - (evOf B call d).np) none) with
    | stuck => rw [hb] at h; exact h.elim
    | exn x fr1 =>
      rw [hb] at h
      exact fun cls dx σ' H' Z' ph' F' a s ex => h.2 cls dx H' Z' _ (end_frame F' a hvl) (stp_phB s) ex
    | ok fl fr1 =>
      rw [hb] at h
      cases fl with
      | bk => exact h.elim
      | ct => exact h.elim
      | nx => exact fun σ' H' Z' ph' F' a s => h.2 .non H' Z' _ [] (end_frame F' a hvl) (val_phB (Val.of_rd .non)) (stp_phB s)
      | rt t => exact fun v σ' H' Z' ph' g F' a hv s => h.2 v H' Z' _ g (end_frame F' a hvl) (val_phB hv) (stp_phB s)
theorem defs_ok (pg : PgOk P w K mg G B tab) : ∀ (k : Nat) (gn : Str) (d : DefI) (f : Addr) (fd : FuncData) (dvs : List V) (kws : List (Str × V)), tab gn = some d → FunD K gn d.qual d.params d.body d.scope dvs kws f fd → FnScope d.N d.ps d.scope →
    FnOk P w K mg base (L2.CX P w) (k + 1) f fd d.ps (spF G (callN B tab fuel k gn))
  | 0, gn, d, f, fd, dvs, kws, hd, FD, S => ⟨fun vs H Q Ex ⟨Z, ts, pa, F, h⟩ => h.elim, fun A outer s H args us vs Q Ex hr he hb hv ⟨Z, ts, pa, F, h⟩ => h.elim⟩
  | k + 1, gn, d, f, fd, dvs, kws, hd, FD, S => by
    have e : callN B tab fuel (k + 1) gn = runF (evOf B (callN B tab fuel k) d) d.scope fuel d.body := by
      funext ts
      rw [callN, hd]
    rw [e]
    exact fn_ev pg (defs_ok pg k) FD S
end
end Bw

set_option maxHeartbeats 4000000
namespace Bw
open PySem PySem.Spec PyProof.Rows L2
/-! ### the same without the text: what the evaluator does, as combinators (a def's body is one of these, by rfl) -/
abbrev PF := Fr → Option Opd
def pK (d : D) : PF := fun _ => some (d, false)
def pS (i : Nat) : PF := fun fr => (getS fr i).map opdT
def pSub (a b : PF) : PF := fun fr => (a fr).bind fun x => (b fr).bind fun k => (idxD x.1 k.1).map fun d => (d, x.2)
def pBin (op : Operator) (a b : PF) : PF := fun fr => (a fr).bind fun x => (b fr).bind fun y => (binD op x y).bind fun t => match t with
  | .d z => some (z, false)
  | _ => none
def pNeg (a : PF) : PF := fun fr => (a fr).bind fun x => match x.1 with | .int i => some (.int (-i), false) | _ => none
def pNot (a : PF) : PF := fun fr => (a fr).bind fun x => (truD x.1).map fun b => (.bl (!b), false)
def pCmp (op : CmpOp) (a b : PF) : PF := fun fr => (a fr).bind fun x => (b fr).bind fun y => (cmpD op x.1 y.1).map fun k => (.bl k, false)
def pCmp2 (op op' : CmpOp) (a b c : PF) : PF := fun fr => (a fr).bind fun x => (b fr).bind fun y => (cmpD op x.1 y.1).bind fun k => if k then (c fr).bind fun z => (cmpD op' y.1 z.1).map fun k' => (.bl k', false) else some (.bl false, false)
def pAnd (a b : PF) : PF := fun fr => (a fr).bind fun x => (truD x.1).bind fun k => if k then b fr else some x
def pOr (a b : PF) : PF := fun fr => (a fr).bind fun x => (truD x.1).bind fun k => if k then some x else b fr
def pIte (t a b : PF) : PF := fun fr => (t fr).bind fun x => (truD x.1).bind fun k => if k then a fr else b fr
def pTup (es : List PF) : PF := fun fr => (es.mapM fun (p : PF) => p fr).bind fun xs => (frzs xs).bind fun ds => if lineB ds.length then some (.tup ds, false) else none
def pLen (a : PF) : PF := fun fr => (a fr).bind fun x => (lenD x.1).map fun (k : Nat) => (D.int (k : Int), false)
def pIsi (a : PF) (c : Str) : PF := fun fr => (a fr).bind fun x => (isTy x.1 c).map fun b => (.bl b, false)
def pIsiT (a : PF) (cs : List Str) : PF := fun fr => (a fr).bind fun x => (isTys x.1 cs).map fun b => (.bl b, false)
def vP (p : PF) : M T := fun fr => match p fr with
  | some x => if okk x then .ok (.d x.1) fr else .stuck
  | none => .stuck
def vN (i : Nat) : M T := fun fr => match pS i fr with
  | some x => if okk x then .ok (.d x.1) fr else frzSlot i fr
  | none => .stuck
def oP (p : PF) : M Opd := fun fr => match p fr with
  | some x => .ok x fr
  | none => .stuck
def oC (c : M T) : M Opd := c.bind fun t => .pure (fz t, false)
def kP (p : PF) : M Bool := fun fr => match p fr with
  | some x => M.ofO (truD x.1) fr
  | none => .stuck
def kC (c : M T) : M Bool := c.bind fun t => .ofO (truD (fz t))
def kNot (a : M Bool) : M Bool := a.bind fun k => .pure (!k)
def kAnd (a b : M Bool) : M Bool := a.bind fun k => if k then b else .pure false
def kOr (a b : M Bool) : M Bool := a.bind fun k => if k then .pure true else b
def e2 (a : M Opd) (pb : Bool) (b : M Opd) : M (Opd × Opd) := a.bind fun x => fun fr => if okk x || pb then (b.bind fun y => .pure (x, y)) fr else .stuck
def cBin (op : Operator) (xy : M (Opd × Opd)) : M T := xy.bind fun xy => .ofO (binD op xy.1 xy.2)
def cCmp (op : CmpOp) (xy : M (Opd × Opd)) : M T := xy.bind fun xy => .ofO ((cmpD op xy.1.1 xy.2.1).map fun k => .d (.bl k))
def vB (op : Operator) (a b : PF) : M T := fun fr => match pBin op a b fr with
  | some x => if okk x then .ok (.d x.1) fr else .stuck
  | none => cBin op (e2 (oP a) true (oP b)) fr
def cNot (a : M Opd) : M T := a.bind fun x => .ofO ((truD x.1).map fun k => .d (.bl (!k)))
def cAnd (a b : M T) : M T := a.bind fun t => (M.ofO (truD (fz t))).bind fun k => if k then b else .pure t
def cOr (a b : M T) : M T := a.bind fun t => (M.ofO (truD (fz t))).bind fun k => if k then .pure t else b
def cIte (t : M Bool) (a b : M T) : M T := t.bind fun k => if k then a else b
def cB1 (g : Str) (a : M Opd) : M T := a.bind fun x => .ofO (blt1 g x)
def cB2 (g : Str) (xy : M (Opd × Opd)) : M T := xy.bind fun xy => .ofO (blt2 g xy.1.1 xy.2.1)
def vsN : M (List T) := .pure []
def vsC (a : M T) (r : M (List T)) : M (List T) := a.bind fun t => r.bind fun ts => .pure (t :: ts)
def cLst (vs : M (List T)) : M T := vs.bind fun ts => if lineB ts.length then .pure (.lst ts) else fun _ => .stuck
def cTup (vs : M (List T)) : M T := vs.bind fun ts => if lineB ts.length then .pure (.d (.tup (fzs ts))) else fun _ => .stuck
def sRet (v : M T) : M Flo := v.bind fun t => .pure (.rt t)
def sExp (v : M T) : M Flo := v.bind fun _ => .pure .nx
def sIf (t : M Bool) (a b : M Flo) : M Flo := t.bind fun k => if k then a else b
def sAsg (i : Nat) (v : M T) : M Flo := v.bind fun t => fun fr => .ok .nx (fr.set i (some t))
def asN : M (List ArgT) := .pure []
def aV (v : M T) : M ArgT := v.bind fun t => .pure (ArgT.val t)
def asC (a : M ArgT) (r : M (List ArgT)) : M (List ArgT) := a.bind fun x => r.bind fun xs => .pure (x :: xs)
def cCall (E : Ev) (g : Str) (n m : Nat) (a1 : M (List ArgT)) (a2 : M (List T)) (sh : Shape) : M T := a1.bind fun a1 => a2.bind fun a2 => (match if a1.length == n && a2.length == m && nodupN (inls sh) then params (a1 ++ a2.map .val) sh else none with
  | some ps => callM E g ps
  | none => fun _ => .stuck)
abbrev PN := Fr → Option (Option Int)
def nN : PN := fun _ => some none
def nP (p : PF) : PN := fun fr => match p fr with
  | some (.int i, _) => some (some i)
  | _ => none
def cCut (o : M Opd) (lo hi : PN) : M T := o.bind fun x => fun fr => match lo fr, hi fr with
  | some l, some h => M.ofO (sliceO x l h) fr
  | _, _ => .stuck
def cRev (o : M Opd) : M T := o.bind fun x => .ofO (revO x)
def cSub (xy : M (Opd × Opd)) : M T := xy.bind fun xy => match idxD xy.1.1 xy.2.1 with
  | some d => if okk (d, xy.1.2) then .pure (.d d) else fun _ => .stuck
  | none => fun _ => .stuck
def cDic : M T := .pure (.dic [])
def cMeth (m : Str) (i n : Nat) (vs : M (List T)) : M T := fun fr => match getS fr i with
  | some t => if okMeth m (kindT t) n then (vs.bind fun ts => methM m (kindT t) i ts) fr else .stuck
  | none => .stuck
def cLc (own : List Nat) (g : Sum Nat (List Nat)) (src : M Src) (test : M Bool) (elt : M T) : M T := src.bind fun s => fun fr =>
  if ownOk fr own && guardFree s own && (tgIx g).all (fun i => own.contains i) then
  (match compL own g test elt s s.items [] (wipeF fr own) with
  | .ok ts fr' => .ok (.lst ts) (backF fr fr' own)
  | _ => .stuck) else .stuck
def cLc2 (own : List Nat) (g g1 : Sum Nat (List Nat)) (src : M Src) (test : M Bool) (src1 : M Src) (test1 : M Bool) (elt : M T) : M T := src.bind fun s => fun fr =>
  if ownOk fr own && guardFree s own && (tgIx g).all (fun i => own.contains i) then
  (match compL2 own g test src1 (tgIx g1) g1 test1 elt s s.items [] (wipeF fr own) with
  | .ok ts fr' => .ok (.lst ts) (backF fr fr' own)
  | _ => .stuck) else .stuck
def kYes : M Bool := .pure true
def srR1 (a : M Opd) : M Src := a.bind fun x => .ofO (range1 x.1)
def srR2 (xy : M (Opd × Opd)) : M Src := xy.bind fun xy => .ofO (range2 xy.1.1 xy.2.1)
def srEn (w : M Src) : M Src := w.bind fun s => .pure ⟨enumD s.items, s.guard, true⟩
def srRv (w : M Src) : M Src := w.bind fun s => .pure ⟨s.items.reverse, s.guard, false⟩
def wkF (p : PF) (root : Option Nat) : M Src := fun fr => match root with
  | some i => (match getS fr i with
    | some t => (match p (fr.set i (some (.d (fz t)))) with
      | some (d, false) => (match seqD d with
        | some ds => .ok ⟨ds, none, false⟩ (fr.set i (some (.d (fz t))))
        | none => .stuck)
      | _ => .stuck)
    | none => .stuck)
  | none => .stuck
/-- a pure operand that is walked; nm: it is that slot's name; root: the slot it begins at -/
def wkP (p : PF) (nm root : Option Nat) : M Src := fun fr => match p fr with
  | some x => (match seqD x.1 with
    | some ds => if !x.2 then .ok ⟨ds, none, false⟩ fr else (match nm.bind fun i => (getS fr i).map fun t => (i, t) with
        | some (i, t) => if imms ds then .ok ⟨ds, some (i, t), false⟩ fr else wkF p root fr
        | none => wkF p root fr)
    | none => .stuck)
  | none => .stuck
def wkC (c : M T) : M Src := c.bind fun t => match seqD (fz t) with
  | some ds => .pure ⟨ds, none, false⟩
  | none => fun _ => .stuck
def aR (i : Nat) (v : M T) : M ArgT := fun fr => match (match getS fr i with
    | some (.d _) => none
    | some _ => some i
    | none => none) with
  | some i => .ok (ArgT.ref i) fr
  | none => (v.bind fun t => .pure (ArgT.val t)) fr
def sRetN (i : Nat) : M Flo := fun fr => match (match getS fr i with
    | some (.d _) => none
    | some t => some (i, t)
    | none => none) with
  | some (i, t) => .ok (.rt t) (fr.set i none)
  | none => ((vN i).bind fun t => .pure (.rt t)) fr
def sRet0 : M Flo := .pure (.rt (.d .non))
def sTup (g : Sum Nat (List Nat)) (v : M T) : M Flo := v.bind fun t => fun fr => match storeTg g false (fz t) fr with
  | some fr1 => .ok .nx fr1
  | none => .stuck
def sSub (i : Nat) (v : M T) (k : M Opd) : M Flo := v.bind fun u => fun fr => if (getS fr i).isSome then (k.bind fun y => fun fr => match getS fr i with
    | some t => (match storeT t y.1 u with
      | some t' => .ok .nx (fr.set i (some t'))
      | none => .stuck)
    | none => .stuck) fr else .stuck
def sAug (i : Nat) (op : Operator) (o : M Opd) : M Flo := fun fr => match getS fr i with
  | some (.d (.int a)) => (o.bind fun y => fun fr => match y.1 with
    | .int b => (match intOp op a b with
      | some c => .ok .nx (fr.set i (some (.d (.int c))))
      | none => .stuck)
    | _ => .stuck) fr
  | _ => .stuck
def sFor (g : Sum Nat (List Nat)) (A : List Nat) (src : M Src) (body : M Flo) : M Flo := src.bind fun s => if guardFree s (tgIx g ++ A) then forL g body s s.items else fun _ => .stuck
def sRaise (c f : Str) (v : M T) : M Flo := v.bind fun t => fun fr => if imm (fz t) then .exn ⟨c, [(f, fz t)]⟩ fr else .stuck
def sTry (exs : Str → Option Str) (hs : List Hdl) (body : M Flo) : M Flo := fun fr => match body fr with
  | .exn x fr1 => if (exs x.cls).isSome then handle hs x fr1 else .stuck
  | r => r
def sN : M Flo := .pure .nx
def sBk : M Flo := .pure .bk
def sCt : M Flo := .pure .ct
end Bw

set_option maxHeartbeats 4000000
namespace Bw
open PySem PySem.Spec PyProof.Rows L2
/-! ### a def's run, without its text -/
def runB (np nn : Nat) (A : List Nat) (m : M Flo) (ts : List T) : CRes :=
  if ts.length = np then
    match m (ts.map some ++ List.replicate (nn - np) none) with
    | .ok .nx fr => .ok (.d .non) (psBack np A fr)
    | .ok (.rt t) fr => .ok t (psBack np A fr)
    | .exn x fr => .exn x (psBack np A fr)
    | _ => .stuck
  else .stuck
theorem run_eq {B : Ev} {tab : Str → Option DefI} {fuel k : Nat} {g : Str} {ts : List T} {d : DefI} {m : M Flo} (h : tab g = some d) (c : evSs (evOf B (callN B tab fuel k) d) d.scope fuel d.body = m) {np nn : Nat} {A : List Nat}
    (h1 : d.ps.length = np := by rfl) (h2 : d.N.length = nn := by rfl) (h3 : asgSs d.N d.body = A := by rfl) :
    callN B tab fuel (k + 1) g ts = runB np nn A m ts := by
  rw [callN, h]
  subst h1 h2 h3
  unfold runF runB
  rw [← c]
  rfl
abbrev CN := Nat → List T → CRes
/-! ### isinstance by numbers: 0 int, 1 bool, 2 str, 3 list, 4 tuple -/
def isTyN (t : Nat) : D → Option Bool
  | .ins _ _ => none
  | .int _ => some (t == 0)
  | .bl _ => some (t == 0 || t == 1)
  | .str _ => some (t == 2)
  | .lst _ => some (t == 3)
  | .tup _ => some (t == 4)
  | _ => some false
def isTysN (x : D) : List Nat → Option Bool
  | [] => some false
  | t :: r => match isTyN t x with
    | some true => some true
    | some false => isTysN x r
    | none => none
def pIsiN (t : Nat) (a : PF) : PF := fun fr => (a fr).bind fun x => (isTyN t x.1).map fun b => (.bl b, false)
def pIsiTN (ts : List Nat) (a : PF) : PF := fun fr => (a fr).bind fun x => (isTysN x.1 ts).map fun b => (.bl b, false)
theorem isTyN_0 (x : D) : isTyN 0 x = isTy x "int" := by cases x <;> rfl
theorem isTyN_1 (x : D) : isTyN 1 x = isTy x "bool" := by cases x <;> rfl
theorem isTyN_2 (x : D) : isTyN 2 x = isTy x "str" := by cases x <;> rfl
theorem isTyN_3 (x : D) : isTyN 3 x = isTy x "list" := by cases x <;> rfl
theorem isTyN_4 (x : D) : isTyN 4 x = isTy x "tuple" := by cases x <;> rfl
theorem pIsiN_0 (a : PF) : pIsiN 0 a = pIsi a "int" := by unfold pIsiN pIsi; simp only [isTyN_0]
theorem pIsiN_1 (a : PF) : pIsiN 1 a = pIsi a "bool" := by unfold pIsiN pIsi; simp only [isTyN_1]
theorem pIsiN_2 (a : PF) : pIsiN 2 a = pIsi a "str" := by unfold pIsiN pIsi; simp only [isTyN_2]
theorem pIsiN_3 (a : PF) : pIsiN 3 a = pIsi a "list" := by unfold pIsiN pIsi; simp only [isTyN_3]
theorem pIsiN_4 (a : PF) : pIsiN 4 a = pIsi a "tuple" := by unfold pIsiN pIsi; simp only [isTyN_4]
theorem pIsiTN_34 (a : PF) : pIsiTN [3, 4] a = pIsiT a ["list", "tuple"] := by unfold pIsiTN pIsiT; simp only [isTysN, isTys, isTyN_3, isTyN_4] <;> rfl
def callF (f : List T → CRes) (ps : List ArgT) : M T := fun fr =>
  if nodupN (refsOf ps) then
    match ps.mapM (argT fr) with
    | some ts => (match f ts with
      | .ok t cs => if cs.length = ps.length then .ok t (wb fr ps cs) else .stuck
      | .exn x cs => if cs.length = ps.length then .exn x (wb fr ps cs) else .stuck
      | .stuck => .stuck)
    | none => .stuck
  else .stuck
def cCallI (f : List T → CRes) (n m : Nat) (a1 : M (List ArgT)) (a2 : M (List T)) (sh : Shape) : M T := a1.bind fun a1 => a2.bind fun a2 => (match if a1.length == n && a2.length == m && nodupN (inls sh) then params (a1 ++ a2.map .val) sh else none with
  | some ps => callF f ps
  | none => fun _ => .stuck)
/-! ### data of ints -/
theorem intsD_map : ∀ l : List Int, intsD (l.map .int) = some l
  | [] => rfl
  | i :: r => by rw [List.map_cons, intsD, intsD_map r]; rfl
theorem blsD_map : ∀ l : List Bool, blsD (l.map .bl) = some l
  | [] => rfl
  | i :: r => by rw [List.map_cons, blsD, blsD_map r]; rfl
theorem pyds_map : ∀ l : List Int, pyds (l.map .int) = some (l.map .int)
  | [] => rfl
  | i :: r => by rw [List.map_cons, pyds, pyds_map r]; rfl
theorem flatDs_map : ∀ l : List Int, flatDs (l.map .int) = some (l.map .int)
  | [] => rfl
  | i :: r => by rw [List.map_cons, flatDs, flatDs_map r]; rfl
theorem fzs_map : ∀ l : List Int, fzs (l.map fun i => .d (.int i)) = l.map .int
  | [] => rfl
  | i :: r => by rw [List.map_cons, fzs, fzs_map r]; rfl
theorem imms_map : ∀ l : List Int, imms (l.map .int) = true
  | [] => rfl
  | i :: r => by rw [List.map_cons, imms, imms_map r]; rfl
end Bw

set_option maxHeartbeats 4000000
namespace Bw
open PySem PySem.Spec PyProof.Rows L2
/-! ### the combinators as rewrite rules -/
def Res.bnd {α β : Type} (r : Res α) (f : α → Fr → Res β) : Res β := match r with
  | .ok a fr => f a fr
  | .exn x fr => .exn x fr
  | .stuck => .stuck
def Res.sq (r : Res Flo) (k : M Flo) : Res Flo := match r with
  | .ok .nx fr => k fr
  | r => r
section
variable {α β : Type} {a : α} {fr : Fr} {x : Exn} {f : α → Fr → Res β} {t : T} {k : M Flo} {i j n : Nat}
theorem bnd_congr {r : Res α} {f g : α → Fr → Res β} (h : ∀ a fr, f a fr = g a fr) : r.bnd f = r.bnd g := by rw [show f = g from funext fun a => funext fun fr => h a fr]
@[simp] theorem bnd_ok : (Res.ok a fr).bnd f = f a fr := of_eq_true (eq_self _)
@[simp] theorem bnd_exn : (Res.exn x fr : Res α).bnd f = .exn x fr := of_eq_true (eq_self _)
@[simp] theorem bnd_stuck : (Res.stuck : Res α).bnd f = .stuck := of_eq_true (eq_self _)
@[simp] theorem sq_nx : (Res.ok Flo.nx fr).sq k = k fr := of_eq_true (eq_self _)
@[simp] theorem sq_bk : (Res.ok Flo.bk fr).sq k = .ok .bk fr := of_eq_true (eq_self _)
@[simp] theorem sq_ct : (Res.ok Flo.ct fr).sq k = .ok .ct fr := of_eq_true (eq_self _)
@[simp] theorem sq_rt : (Res.ok (Flo.rt t) fr).sq k = .ok (.rt t) fr := of_eq_true (eq_self _)
@[simp] theorem sq_exn : (Res.exn x fr).sq k = .exn x fr := of_eq_true (eq_self _)
@[simp] theorem sq_stuck : (Res.stuck).sq k = .stuck := of_eq_true (eq_self _)
@[simp] theorem bind_ap {m : M α} {f : α → M β} : m.bind f fr = (m fr).bnd f := by unfold M.bind Res.bnd; cases m fr <;> rfl
@[simp] theorem pure_ap : (M.pure a : M α) fr = .ok a fr := of_eq_true (eq_self _)
@[simp] theorem ofO_some : (M.ofO (some a) : M α) fr = .ok a fr := of_eq_true (eq_self _)
@[simp] theorem ofO_none : (M.ofO none : M α) fr = .stuck := of_eq_true (eq_self _)
@[simp] theorem seqM_ap {m : M Flo} : seqM m k fr = (m fr).sq k := by
  unfold seqM Res.sq
  cases m fr with
  | ok f fr' => cases f <;> rfl
  | _ => rfl
@[simp] theorem getS_nil : getS [] i = none := of_eq_true (eq_self _)
@[simp] theorem getS_zero {r : Fr} : getS (some t :: r) 0 = some t := of_eq_true (eq_self _)
@[simp] theorem getS_zero0 {r : Fr} : getS (none :: r) 0 = none := of_eq_true (eq_self _)
@[simp] theorem getS_succ {o : Option T} {r : Fr} : getS (o :: r) (i + 1) = getS r i := of_eq_true (eq_self _)
@[simp] theorem opdT_d {d : D} : opdT (.d d) = (d, false) := of_eq_true (eq_self _)
@[simp] theorem opdT_lst {ts : List T} : opdT (.lst ts) = (.lst (fzs ts), true) := by rw [opdT, fz]; intro d h; cases h
@[simp] theorem opdT_dic {kvs : List (Key × D)} : opdT (.dic kvs) = (.dic kvs, true) := by rw [opdT, fz]; intro d h; cases h
@[simp] theorem okk_ff {d : D} : okk (d, false) = true := of_eq_true (eq_self _)
@[simp] theorem okk_tt {d : D} : okk (d, true) = imm d := of_eq_true (eq_self _)
@[simp] theorem fz_d {d : D} : fz (.d d) = d := by rw [fz]
@[simp] theorem fz_lst {ts : List T} : fz (.lst ts) = .lst (fzs ts) := by rw [fz]
@[simp] theorem fz_dic {kvs : List (Key × D)} : fz (.dic kvs) = .dic kvs := by rw [fz]
@[simp] theorem fzs_eq : ∀ ts : List T, fzs ts = ts.map fz
  | [] => by rw [fzs]; rfl
  | t :: ts => by rw [fzs, fzs_eq ts]; rfl
@[simp] theorem pK_ap {d : D} : pK d fr = some (d, false) := of_eq_true (eq_self _)
@[simp] theorem pS_ap : pS i fr = (getS fr i).map opdT := of_eq_true (eq_self _)
@[simp] theorem pSub_ap {p q : PF} : pSub p q fr = (p fr).bind fun x => (q fr).bind fun k => (idxD x.1 k.1).map fun d => (d, x.2) := of_eq_true (eq_self _)
def dOnly : T → Option Opd
  | .d z => some (z, false)
  | _ => none
@[simp] theorem dOnly_d {d : D} : dOnly (.d d) = some (d, false) := of_eq_true (eq_self _)
@[simp] theorem dOnly_lst {ts : List T} : dOnly (.lst ts) = none := of_eq_true (eq_self _)
@[simp] theorem pBin_ap {op : Operator} {p q : PF} : pBin op p q fr = (p fr).bind fun x => (q fr).bind fun y => (binD op x y).bind dOnly := of_eq_true (eq_self _)
@[simp] theorem binD_int {op : Operator} {a b : Int} {u v : Bool} : binD op (.int a, u) (.int b, v) = (intOp op a b).map fun k => .d (.int k) := of_eq_true (eq_self _)
@[simp] theorem add_int {a b : Int} : intOp .Add a b = some (a + b) := of_eq_true (eq_self _)
@[simp] theorem sub_int {a b : Int} : intOp .Sub a b = some (a - b) := of_eq_true (eq_self _)
def negD : D → Option Opd
  | .int i => some (.int (-i), false)
  | _ => none
@[simp] theorem negD_int {i : Int} : negD (.int i) = some (.int (-i), false) := of_eq_true (eq_self _)
@[simp] theorem pNeg_ap {p : PF} : pNeg p fr = (p fr).bind fun x => negD x.1 := by
  unfold pNeg
  cases p fr with
  | none => rfl
  | some x => obtain ⟨d, b⟩ := x; cases d <;> rfl
@[simp] theorem pNot_ap {p : PF} : pNot p fr = (p fr).bind fun x => (truD x.1).map fun b => (.bl (!b), false) := of_eq_true (eq_self _)
@[simp] theorem pCmp_ap {op : CmpOp} {p q : PF} : pCmp op p q fr = (p fr).bind fun x => (q fr).bind fun y => (cmpD op x.1 y.1).map fun k => (.bl k, false) := of_eq_true (eq_self _)
@[simp] theorem pCmp2_ap {op op' : CmpOp} {p q r : PF} : pCmp2 op op' p q r fr = (p fr).bind fun x => (q fr).bind fun y => (cmpD op x.1 y.1).bind fun k => if k then (r fr).bind fun z => (cmpD op' y.1 z.1).map fun k' => (.bl k', false) else some (.bl false, false) := of_eq_true (eq_self _)
@[simp] theorem pAnd_ap {p q : PF} : pAnd p q fr = (p fr).bind fun x => (truD x.1).bind fun k => if k then q fr else some x := of_eq_true (eq_self _)
@[simp] theorem pOr_ap {p q : PF} : pOr p q fr = (p fr).bind fun x => (truD x.1).bind fun k => if k then some x else q fr := of_eq_true (eq_self _)
@[simp] theorem pIte_ap {p q r : PF} : pIte p q r fr = (p fr).bind fun x => (truD x.1).bind fun k => if k then q fr else r fr := of_eq_true (eq_self _)
@[simp] theorem pTup_ap {es : List PF} : pTup es fr = (es.mapM fun (p : PF) => p fr).bind fun xs => (frzs xs).bind fun ds => if lineB ds.length then some (.tup ds, false) else none := of_eq_true (eq_self _)
@[simp] theorem pLen_ap {p : PF} : pLen p fr = (p fr).bind fun x => (lenD x.1).map fun (k : Nat) => (D.int (k : Int), false) := of_eq_true (eq_self _)
@[simp] theorem pIsiN_ap {p : PF} : pIsiN n p fr = (p fr).bind fun x => (isTyN n x.1).map fun b => (.bl b, false) := of_eq_true (eq_self _)
@[simp] theorem pIsiTN_ap {p : PF} {ns : List Nat} : pIsiTN ns p fr = (p fr).bind fun x => (isTysN x.1 ns).map fun b => (.bl b, false) := of_eq_true (eq_self _)
@[simp] theorem frzs_nil : frzs [] = some [] := of_eq_true (eq_self _)
@[simp] theorem frzs_ff {d : D} {r : List Opd} : frzs ((d, false) :: r) = (frzs r).map (d :: ·) := of_eq_true (eq_self _)
@[simp] theorem frzs_tt {d : D} {r : List Opd} : frzs ((d, true) :: r) = if imm d then (frzs r).map (d :: ·) else none := of_eq_true (eq_self _)
def vOf (fr : Fr) : Option Opd → Res T
  | some x => if okk x then .ok (.d x.1) fr else .stuck
  | none => .stuck
@[simp] theorem vOf_some {x : Opd} : vOf fr (some x) = if okk x then .ok (.d x.1) fr else .stuck := of_eq_true (eq_self _)
@[simp] theorem vOf_none : vOf fr none = .stuck := of_eq_true (eq_self _)
@[simp] theorem vP_ap {p : PF} : vP p fr = vOf fr (p fr) := by unfold vP; cases p fr <;> rfl
def vNf (i : Nat) (fr : Fr) : Option Opd → Res T
  | some x => if okk x then .ok (.d x.1) fr else frzSlot i fr
  | none => .stuck
@[simp] theorem vNf_some {x : Opd} : vNf i fr (some x) = if okk x then .ok (.d x.1) fr else frzSlot i fr := of_eq_true (eq_self _)
@[simp] theorem vNf_none : vNf i fr none = .stuck := of_eq_true (eq_self _)
@[simp] theorem vN_ap : vN i fr = vNf i fr (pS i fr) := by unfold vN; cases pS i fr <;> rfl
def frzR (i : Nat) (fr : Fr) : Option T → Res T
  | some t => .ok (.d (fz t)) (fr.set i (some (.d (fz t))))
  | none => .stuck
@[simp] theorem frzR_some : frzR i fr (some t) = .ok (.d (fz t)) (fr.set i (some (.d (fz t)))) := of_eq_true (eq_self _)
@[simp] theorem frzSlot_ap : frzSlot i fr = frzR i fr (getS fr i) := by unfold frzSlot; cases getS fr i <;> rfl
def oOf (fr : Fr) : Option Opd → Res Opd
  | some x => .ok x fr
  | none => .stuck
@[simp] theorem oOf_some {x : Opd} : oOf fr (some x) = .ok x fr := of_eq_true (eq_self _)
@[simp] theorem oOf_none : oOf fr none = .stuck := of_eq_true (eq_self _)
@[simp] theorem oP_ap {p : PF} : oP p fr = oOf fr (p fr) := by unfold oP; cases p fr <;> rfl
@[simp] theorem oC_ap {c : M T} : oC c fr = (c fr).bnd fun t fr => .ok (fz t, false) fr := by rw [oC, bind_ap]; rfl
def kOf (fr : Fr) : Option Opd → Res Bool
  | some x => M.ofO (truD x.1) fr
  | none => .stuck
@[simp] theorem kOf_some {x : Opd} : kOf fr (some x) = M.ofO (truD x.1) fr := of_eq_true (eq_self _)
@[simp] theorem kOf_none : kOf fr none = .stuck := of_eq_true (eq_self _)
@[simp] theorem kP_ap {p : PF} : kP p fr = kOf fr (p fr) := by unfold kP; cases p fr <;> rfl
@[simp] theorem kC_ap {c : M T} : kC c fr = (c fr).bnd fun t fr => M.ofO (truD (fz t)) fr := by rw [kC, bind_ap]
@[simp] theorem kNot_ap {m : M Bool} : kNot m fr = (m fr).bnd fun k fr => .ok (!k) fr := by rw [kNot, bind_ap]; rfl
@[simp] theorem kAnd_ap {m l : M Bool} : kAnd m l fr = (m fr).bnd fun k fr => if k then l fr else .ok false fr := by
  rw [kAnd, bind_ap]; refine bnd_congr fun k fr => ?_; cases k <;> rfl
@[simp] theorem kOr_ap {m l : M Bool} : kOr m l fr = (m fr).bnd fun k fr => if k then .ok true fr else l fr := by
  rw [kOr, bind_ap]; refine bnd_congr fun k fr => ?_; cases k <;> rfl
@[simp] theorem kYes_ap : kYes fr = .ok true fr := of_eq_true (eq_self _)
@[simp] theorem e2_ap {p q : M Opd} {b : Bool} : e2 p b q fr = (p fr).bnd fun x fr => if okk x || b then (q fr).bnd fun y fr => .ok (x, y) fr else .stuck := by
  rw [e2, bind_ap]; refine bnd_congr fun x fr => ?_; simp only [bind_ap]; rfl
@[simp] theorem vB_ap {op : Operator} {p q : PF} : vB op p q fr = match pBin op p q fr with
  | some x => if okk x then .ok (.d x.1) fr else .stuck
  | none => cBin op (e2 (oP p) true (oP q)) fr := rfl
@[simp] theorem cBin_ap {op : Operator} {xy : M (Opd × Opd)} : cBin op xy fr = (xy fr).bnd fun xy fr => M.ofO (binD op xy.1 xy.2) fr := by rw [cBin, bind_ap]
@[simp] theorem cCmp_ap {op : CmpOp} {xy : M (Opd × Opd)} : cCmp op xy fr = (xy fr).bnd fun xy fr => M.ofO ((cmpD op xy.1.1 xy.2.1).map fun k => .d (.bl k)) fr := by rw [cCmp, bind_ap]
@[simp] theorem cNot_ap {p : M Opd} : cNot p fr = (p fr).bnd fun x fr => M.ofO ((truD x.1).map fun k => .d (.bl (!k))) fr := by rw [cNot, bind_ap]
@[simp] theorem cAnd_ap {m l : M T} : cAnd m l fr = (m fr).bnd fun t fr => (M.ofO (truD (fz t)) fr).bnd fun k fr => if k then l fr else .ok t fr := by
  rw [cAnd, bind_ap]; refine bnd_congr fun t fr => ?_; rw [bind_ap]; refine bnd_congr fun k fr => ?_; cases k <;> rfl
@[simp] theorem cOr_ap {m l : M T} : cOr m l fr = (m fr).bnd fun t fr => (M.ofO (truD (fz t)) fr).bnd fun k fr => if k then .ok t fr else l fr := by
  rw [cOr, bind_ap]; refine bnd_congr fun t fr => ?_; rw [bind_ap]; refine bnd_congr fun k fr => ?_; cases k <;> rfl
@[simp] theorem cIte_ap {t : M Bool} {m l : M T} : cIte t m l fr = (t fr).bnd fun k fr => if k then m fr else l fr := by
  rw [cIte, bind_ap]; refine bnd_congr fun k fr => ?_; cases k <;> rfl
@[simp] theorem cB1_ap {g : Str} {p : M Opd} : cB1 g p fr = (p fr).bnd fun x fr => M.ofO (blt1 g x) fr := by rw [cB1, bind_ap]
@[simp] theorem cB2_ap {g : Str} {xy : M (Opd × Opd)} : cB2 g xy fr = (xy fr).bnd fun xy fr => M.ofO (blt2 g xy.1.1 xy.2.1) fr := by rw [cB2, bind_ap]
@[simp] theorem vsN_ap : vsN fr = .ok [] fr := of_eq_true (eq_self _)
@[simp] theorem vsC_ap {m : M T} {r : M (List T)} : vsC m r fr = (m fr).bnd fun t fr => (r fr).bnd fun ts fr => .ok (t :: ts) fr := by
  rw [vsC, bind_ap]; refine bnd_congr fun t fr => ?_; rw [bind_ap]; rfl
@[simp] theorem cLst_ap {vs : M (List T)} : cLst vs fr = (vs fr).bnd fun ts fr => if lineB ts.length then .ok (.lst ts) fr else .stuck := by
  rw [cLst, bind_ap]; refine bnd_congr fun ts fr => ?_; split <;> simp [*]
@[simp] theorem cTup_ap {vs : M (List T)} : cTup vs fr = (vs fr).bnd fun ts fr => if lineB ts.length then .ok (.d (.tup (fzs ts))) fr else .stuck := by
  rw [cTup, bind_ap]; refine bnd_congr fun ts fr => ?_; split <;> simp [*]
@[simp] theorem sRet_ap {v : M T} : sRet v fr = (v fr).bnd fun t fr => .ok (.rt t) fr := by rw [sRet, bind_ap]; rfl
@[simp] theorem sExp_ap {v : M T} : sExp v fr = (v fr).bnd fun _ fr => .ok .nx fr := by rw [sExp, bind_ap]; rfl
@[simp] theorem sIf_ap {c : M Bool} {a b : M Flo} : sIf c a b fr = (c fr).bnd fun k fr => if k then a fr else b fr := by
  rw [sIf, bind_ap]; refine bnd_congr fun k fr => ?_; cases k <;> rfl
@[simp] theorem sAsg_ap {v : M T} : sAsg i v fr = (v fr).bnd fun t fr => .ok .nx (fr.set i (some t)) := by rw [sAsg, bind_ap]
@[simp] theorem asN_ap : asN fr = .ok [] fr := of_eq_true (eq_self _)
@[simp] theorem aV_ap {v : M T} : aV v fr = (v fr).bnd fun t fr => .ok (.val t) fr := by rw [aV, bind_ap]; rfl
@[simp] theorem asC_ap {m : M ArgT} {r : M (List ArgT)} : asC m r fr = (m fr).bnd fun t fr => (r fr).bnd fun ts fr => .ok (t :: ts) fr := by
  rw [asC, bind_ap]; refine bnd_congr fun t fr => ?_; rw [bind_ap]; rfl
@[simp] theorem nodupN_nil : nodupN [] = true := of_eq_true (eq_self _)
@[simp] theorem nodupN_cons {r : List Nat} : nodupN (i :: r) = (!r.contains i && nodupN r) := of_eq_true (eq_self _)
@[simp] theorem inls_nil : inls [] = [] := of_eq_true (eq_self _)
@[simp] theorem inls_l {r : Shape} : inls (.inl i :: r) = i :: inls r := of_eq_true (eq_self _)
@[simp] theorem inls_r {d : D} {r : Shape} : inls (.inr d :: r) = inls r := of_eq_true (eq_self _)
@[simp] theorem refsOf_nil : refsOf [] = [] := of_eq_true (eq_self _)
@[simp] theorem refsOf_r {r : List ArgT} : refsOf (.ref i :: r) = i :: refsOf r := of_eq_true (eq_self _)
@[simp] theorem refsOf_v {r : List ArgT} : refsOf (.val t :: r) = refsOf r := of_eq_true (eq_self _)
@[simp] theorem params_nil {as : List ArgT} : params as [] = some [] := of_eq_true (eq_self _)
@[simp] theorem params_r {as : List ArgT} {d : D} {r : Shape} : params as (.inr d :: r) = (params as r).map (.val (.d d) :: ·) := of_eq_true (eq_self _)
def cons2 (a : Option ArgT) (r : Option (List ArgT)) : Option (List ArgT) := match a, r with
  | some a, some as => some (a :: as)
  | _, _ => none
@[simp] theorem cons2_ss {a : ArgT} {r : List ArgT} : cons2 (some a) (some r) = some (a :: r) := of_eq_true (eq_self _)
@[simp] theorem params_l {as : List ArgT} {r : Shape} : params as (.inl i :: r) = cons2 as[i]? (params as r) := of_eq_true (eq_self _)
@[simp] theorem argT_v : argT fr (.val t) = some t := of_eq_true (eq_self _)
@[simp] theorem argT_r : argT fr (.ref i) = getS fr i := of_eq_true (eq_self _)
@[simp] theorem wb_nil {cs : Fr} : wb fr [] cs = fr := of_eq_true (eq_self _)
@[simp] theorem wb_v {c : Option T} {r : List ArgT} {cs : Fr} : wb fr (.val t :: r) (c :: cs) = wb fr r cs := of_eq_true (eq_self _)
@[simp] theorem wb_r {c : Option T} {r : List ArgT} {cs : Fr} : wb fr (.ref i :: r) (c :: cs) = (wb fr r cs).set i c := of_eq_true (eq_self _)
/-- the callee's result at the caller -/
def cBack (fr : Fr) (ps : List ArgT) : CRes → Res T
  | .ok t cs => if cs.length = ps.length then .ok t (wb fr ps cs) else .stuck
  | .exn x cs => if cs.length = ps.length then .exn x (wb fr ps cs) else .stuck
  | .stuck => .stuck
@[simp] theorem cBack_ok {ps : List ArgT} {cs : Fr} : cBack fr ps (.ok t cs) = if cs.length = ps.length then .ok t (wb fr ps cs) else .stuck := of_eq_true (eq_self _)
@[simp] theorem cBack_exn {ps : List ArgT} {cs : Fr} : cBack fr ps (.exn x cs) = if cs.length = ps.length then .exn x (wb fr ps cs) else .stuck := of_eq_true (eq_self _)
def oCall (f : List T → CRes) (fr : Fr) (ps : List ArgT) : Option (List T) → Res T
  | some ts => cBack fr ps (f ts)
  | none => .stuck
@[simp] theorem oCall_some {f : List T → CRes} {ps : List ArgT} {ts : List T} : oCall f fr ps (some ts) = cBack fr ps (f ts) := of_eq_true (eq_self _)
@[simp] theorem callF_ap {f : List T → CRes} {ps : List ArgT} : callF f ps fr = if nodupN (refsOf ps) then oCall f fr ps (ps.mapM (argT fr)) else .stuck := by
  unfold callF
  split
  · cases ps.mapM (argT fr) with
    | none => rfl
    | some ts => dsimp only [oCall]; cases f ts <;> rfl
  · rfl
def pCall (f : List T → CRes) (fr : Fr) : Option (List ArgT) → Res T
  | some ps => callF f ps fr
  | none => .stuck
@[simp] theorem pCall_some {f : List T → CRes} {ps : List ArgT} : pCall f fr (some ps) = callF f ps fr := of_eq_true (eq_self _)
@[simp] theorem cCallI_ap {f : List T → CRes} {m : Nat} {a1 : M (List ArgT)} {a2 : M (List T)} {sh : Shape} : cCallI f n m a1 a2 sh fr =
    (a1 fr).bnd fun a1 fr => (a2 fr).bnd fun a2 fr => pCall f fr (if a1.length == n && a2.length == m && nodupN (inls sh) then params (a1 ++ a2.map .val) sh else none) := by
  rw [cCallI, bind_ap]; refine bnd_congr fun a1 fr => ?_; rw [bind_ap]; congr 1; funext a2 fr
  generalize (if a1.length == n && a2.length == m && nodupN (inls sh) then params (a1 ++ a2.map .val) sh else none) = o
  cases o <;> rfl
@[simp] theorem nN_ap : nN fr = some none := of_eq_true (eq_self _)
def nOf : Option Opd → Option (Option Int)
  | some (.int i, _) => some (some i)
  | _ => none
@[simp] theorem nOf_int {i : Int} {b : Bool} : nOf (some (.int i, b)) = some (some i) := of_eq_true (eq_self _)
@[simp] theorem nP_ap {p : PF} : nP p fr = nOf (p fr) := of_eq_true (eq_self _)
def cutR (fr : Fr) (x : Opd) : Option (Option Int) → Option (Option Int) → Res T
  | some l, some h => M.ofO (sliceO x l h) fr
  | _, _ => .stuck
@[simp] theorem cutR_ss {x : Opd} {l h : Option Int} : cutR fr x (some l) (some h) = M.ofO (sliceO x l h) fr := of_eq_true (eq_self _)
@[simp] theorem cCut_ap {o : M Opd} {lo hi : PN} : cCut o lo hi fr = (o fr).bnd fun x fr => cutR fr x (lo fr) (hi fr) := by
  rw [cCut, bind_ap]; refine bnd_congr fun x fr => ?_; cases lo fr <;> cases hi fr <;> rfl
@[simp] theorem cRev_ap {o : M Opd} : cRev o fr = (o fr).bnd fun x fr => M.ofO (revO x) fr := by rw [cRev, bind_ap]
def subR (fr : Fr) (p : Bool) : Option D → Res T
  | some d => if okk (d, p) then .ok (.d d) fr else .stuck
  | none => .stuck
@[simp] theorem subR_some {p : Bool} {d : D} : subR fr p (some d) = if okk (d, p) then .ok (.d d) fr else .stuck := of_eq_true (eq_self _)
@[simp] theorem cSub_ap {xy : M (Opd × Opd)} : cSub xy fr = (xy fr).bnd fun xy fr => subR fr xy.1.2 (idxD xy.1.1 xy.2.1) := by
  rw [cSub, bind_ap]; congr 1; funext xy fr
  cases idxD xy.1.1 xy.2.1 with
  | none => rfl
  | some d => dsimp only [subR]; split <;> rfl
@[simp] theorem cDic_ap : cDic fr = .ok (.dic []) fr := of_eq_true (eq_self _)
def methR (m : Str) (i n : Nat) (vs : M (List T)) (fr : Fr) : Option T → Res T
  | some t => if okMeth m (kindT t) n then (vs fr).bnd fun ts fr => methM m (kindT t) i ts fr else .stuck
  | none => .stuck
@[simp] theorem methR_some {m : Str} {vs : M (List T)} : methR m i n vs fr (some t) = if okMeth m (kindT t) n then (vs fr).bnd fun ts fr => methM m (kindT t) i ts fr else .stuck := of_eq_true (eq_self _)
@[simp] theorem cMeth_ap {m : Str} {vs : M (List T)} : cMeth m i n vs fr = methR m i n vs fr (getS fr i) := by
  unfold cMeth
  cases getS fr i with
  | none => rfl
  | some t => dsimp only [methR]; split <;> simp
@[simp] theorem kindT_lst {ts : List T} : kindT (.lst ts) = 0 := of_eq_true (eq_self _)
@[simp] theorem kindT_dlst {ts : List D} : kindT (.d (.lst ts)) = 0 := of_eq_true (eq_self _)
@[simp] theorem kindT_dtup {ts : List D} : kindT (.d (.tup ts)) = 1 := of_eq_true (eq_self _)
@[simp] theorem kindT_dic {ts : List (Key × D)} : kindT (.dic ts) = 2 := of_eq_true (eq_self _)
@[simp] theorem truD_bl {b : Bool} : truD (.bl b) = some b := of_eq_true (eq_self _)
@[simp] theorem truD_non : truD .non = some false := of_eq_true (eq_self _)
@[simp] theorem truD_int {i : Int} : truD (.int i) = some (i != 0) := of_eq_true (eq_self _)
@[simp] theorem truD_lst {ds : List D} : truD (.lst ds) = some (!ds.isEmpty) := of_eq_true (eq_self _)
@[simp] theorem truD_tup {ds : List D} : truD (.tup ds) = some (!ds.isEmpty) := of_eq_true (eq_self _)
@[simp] theorem cmp_lt {a b : Int} : cmpD .Lt (.int a) (.int b) = some (decide (a < b)) := of_eq_true (eq_self _)
@[simp] theorem cmp_le {a b : Int} : cmpD .LtE (.int a) (.int b) = some (decide (a ≤ b)) := of_eq_true (eq_self _)
@[simp] theorem cmp_gt {a b : Int} : cmpD .Gt (.int a) (.int b) = some (decide (b < a)) := of_eq_true (eq_self _)
@[simp] theorem cmp_ge {a b : Int} : cmpD .GtE (.int a) (.int b) = some (decide (b ≤ a)) := of_eq_true (eq_self _)
@[simp] theorem cmp_eq {x y : D} : cmpD .Eq x y = eqD x y := of_eq_true (eq_self _)
@[simp] theorem cmp_ne {x y : D} : cmpD .NotEq x y = (eqD x y).map not := of_eq_true (eq_self _)
@[simp] theorem cmp_in {x y : D} : cmpD .In x y = inD x y := of_eq_true (eq_self _)
@[simp] theorem cmp_notin {x y : D} : cmpD .NotIn x y = (inD x y).map not := of_eq_true (eq_self _)
@[simp] theorem eqD_int {a b : Int} : eqD (.int a) (.int b) = some (decide (a = b)) := by
  unfold eqD
  simp [pyd, SeqAt.shaped, PyData.canLay0, PyData.depth, PyData.eqv]; exact Bool.eq_iff_iff.mpr (by simp)
@[simp] theorem lenD_lst {ds : List D} : lenD (.lst ds) = some ds.length := of_eq_true (eq_self _)
@[simp] theorem lenD_tup {ds : List D} : lenD (.tup ds) = some ds.length := of_eq_true (eq_self _)
@[simp] theorem isTyN_int {m : Nat} {i : Int} : isTyN m (.int i) = some (m == 0) := of_eq_true (eq_self _)
@[simp] theorem isTyN_bl {m : Nat} {i : Bool} : isTyN m (.bl i) = some (m == 0 || m == 1) := of_eq_true (eq_self _)
@[simp] theorem isTyN_non {m : Nat} : isTyN m .non = some false := of_eq_true (eq_self _)
@[simp] theorem isTyN_str {m : Nat} {i : Str} : isTyN m (.str i) = some (m == 2) := of_eq_true (eq_self _)
@[simp] theorem isTyN_lst {m : Nat} {i : List D} : isTyN m (.lst i) = some (m == 3) := of_eq_true (eq_self _)
@[simp] theorem isTyN_tup {m : Nat} {i : List D} : isTyN m (.tup i) = some (m == 4) := of_eq_true (eq_self _)
def isTy2 (o : Option Bool) (r : Option Bool) : Option Bool := match o with
  | some true => some true
  | some false => r
  | none => none
@[simp] theorem isTy2_t {r : Option Bool} : isTy2 (some true) r = some true := of_eq_true (eq_self _)
@[simp] theorem isTy2_f {r : Option Bool} : isTy2 (some false) r = r := of_eq_true (eq_self _)
@[simp] theorem isTysN_nil {x : D} : isTysN x [] = some false := of_eq_true (eq_self _)
@[simp] theorem isTysN_cons {x : D} {m : Nat} {r : List Nat} : isTysN x (m :: r) = isTy2 (isTyN m x) (isTysN x r) := by
  rw [isTysN]; cases isTyN m x with
  | none => rfl
  | some b => cases b <;> rfl
@[simp] theorem srR1_ap {o : M Opd} : srR1 o fr = (o fr).bnd fun x fr => M.ofO (range1 x.1) fr := by rw [srR1, bind_ap]
@[simp] theorem srR2_ap {xy : M (Opd × Opd)} : srR2 xy fr = (xy fr).bnd fun xy fr => M.ofO (range2 xy.1.1 xy.2.1) fr := by rw [srR2, bind_ap]
@[simp] theorem srEn_ap {w : M Src} : srEn w fr = (w fr).bnd fun s fr => .ok ⟨enumD s.items, s.guard, true⟩ fr := by rw [srEn, bind_ap]; rfl
@[simp] theorem srRv_ap {w : M Src} : srRv w fr = (w fr).bnd fun s fr => .ok ⟨s.items.reverse, s.guard, false⟩ fr := by rw [srRv, bind_ap]; rfl
def wkR (p : PF) (nm root : Option Nat) (fr : Fr) : Option Opd → Res Src
  | some x => (match seqD x.1 with
    | some ds => if !x.2 then .ok ⟨ds, none, false⟩ fr else (match nm.bind fun i => (getS fr i).map fun t => (i, t) with
        | some (i, t) => if imms ds then .ok ⟨ds, some (i, t), false⟩ fr else wkF p root fr
        | none => wkF p root fr)
    | none => .stuck)
  | none => .stuck
@[simp] theorem wkP_ap {p : PF} {nm root : Option Nat} : wkP p nm root fr = wkR p nm root fr (p fr) := by unfold wkP; cases p fr <;> rfl
@[simp] theorem wkR_lf {p : PF} {nm root : Option Nat} {ds : List D} : wkR p nm root fr (some (.lst ds, false)) = .ok ⟨ds, none, false⟩ fr := of_eq_true (eq_self _)
@[simp] theorem wkR_tf {p : PF} {nm root : Option Nat} {ds : List D} : wkR p nm root fr (some (.tup ds, false)) = .ok ⟨ds, none, false⟩ fr := of_eq_true (eq_self _)
@[simp] theorem wkC_ap {c : M T} : wkC c fr = (c fr).bnd fun t fr => match seqD (fz t) with
  | some ds => .ok ⟨ds, none, false⟩ fr
  | none => .stuck := by
  rw [wkC, bind_ap]; refine bnd_congr fun t fr => ?_; cases seqD (fz t) <;> rfl
@[simp] theorem seqD_lst {ds : List D} : seqD (.lst ds) = some ds := of_eq_true (eq_self _)
@[simp] theorem seqD_tup {ds : List D} : seqD (.tup ds) = some ds := of_eq_true (eq_self _)
def isOwn : Option T → Bool
  | some (.d _) => false
  | some _ => true
  | none => false
@[simp] theorem isOwn_d {d : D} : isOwn (some (.d d)) = false := of_eq_true (eq_self _)
@[simp] theorem isOwn_lst {d : List T} : isOwn (some (.lst d)) = true := of_eq_true (eq_self _)
@[simp] theorem isOwn_dic {d : List (Key × D)} : isOwn (some (.dic d)) = true := of_eq_true (eq_self _)
@[simp] theorem aR_ap {v : M T} : aR i v fr = if isOwn (getS fr i) then .ok (.ref i) fr else (v fr).bnd fun t fr => .ok (.val t) fr := by
  unfold aR
  cases getS fr i with
  | none => simp [isOwn]; rfl
  | some t => cases t <;> simp [isOwn] <;> rfl
def retR (fr : Fr) (i : Nat) : Option T → Res Flo
  | some (.d d) => .ok (.rt (.d d)) fr
  | some t => .ok (.rt t) (fr.set i none)
  | none => .stuck
@[simp] theorem retR_d {d : D} : retR fr i (some (.d d)) = .ok (.rt (.d d)) fr := of_eq_true (eq_self _)
@[simp] theorem retR_lst {d : List T} : retR fr i (some (.lst d)) = .ok (.rt (.lst d)) (fr.set i none) := of_eq_true (eq_self _)
@[simp] theorem sRetN_ap : sRetN i fr = retR fr i (getS fr i) := by
  unfold sRetN
  cases h : getS fr i with
  | none => simp [h, retR]
  | some t => cases t <;> simp [h, retR]
@[simp] theorem sRet0_ap : sRet0 fr = .ok (.rt (.d .non)) fr := of_eq_true (eq_self _)
def stR (fr : Option Fr) : Res Flo := match fr with
  | some fr1 => .ok .nx fr1
  | none => .stuck
@[simp] theorem stR_some : stR (some fr) = .ok .nx fr := of_eq_true (eq_self _)
@[simp] theorem sTup_ap {g : Sum Nat (List Nat)} {v : M T} : sTup g v fr = (v fr).bnd fun t fr => stR (storeTg g false (fz t) fr) := by
  rw [sTup, bind_ap]; refine bnd_congr fun t fr => ?_; cases storeTg g false (fz t) fr <;> rfl
@[simp] theorem storeTg_l {p : Bool} {d : D} : storeTg (.inl i) p d fr = if p then none else some (fr.set i (some (.d d))) := of_eq_true (eq_self _)
@[simp] theorem storeTg_r {p : Bool} {ds : List D} {is : List Nat} : storeTg (.inr is) p (.tup ds) fr = setMany fr is ds := of_eq_true (eq_self _)
@[simp] theorem setMany_nil : setMany fr [] [] = some fr := of_eq_true (eq_self _)
@[simp] theorem setMany_cons {d : D} {ds : List D} {is : List Nat} : setMany fr (i :: is) (d :: ds) = setMany (fr.set i (some (.d d))) is ds := of_eq_true (eq_self _)
@[simp] theorem sFor_ap {g : Sum Nat (List Nat)} {A : List Nat} {src : M Src} {body : M Flo} : sFor g A src body fr = (src fr).bnd fun s fr => if guardFree s (tgIx g ++ A) then forL g body s s.items fr else .stuck := by
  rw [sFor, bind_ap]; refine bnd_congr fun s fr => ?_; split <;> rfl
@[simp] theorem guardFree_none {ds : List D} {b : Bool} {l : List Nat} : guardFree ⟨ds, none, b⟩ l = true := of_eq_true (eq_self _)
@[simp] theorem guardOk_none {ds : List D} {b : Bool} : guardOk ⟨ds, none, b⟩ fr = true := of_eq_true (eq_self _)
@[simp] theorem sRaise_ap {c f : Str} {v : M T} : sRaise c f v fr = (v fr).bnd fun t fr => if imm (fz t) then .exn ⟨c, [(f, fz t)]⟩ fr else .stuck := by rw [sRaise, bind_ap]
@[simp] theorem sN_ap : sN fr = .ok .nx fr := of_eq_true (eq_self _)
@[simp] theorem sBk_ap : sBk fr = .ok .bk fr := of_eq_true (eq_self _)
@[simp] theorem sCt_ap : sCt fr = .ok .ct fr := of_eq_true (eq_self _)
@[simp] theorem imm_int {i : Int} : imm (.int i) = true := by rw [imm]
@[simp] theorem imm_bl {i : Bool} : imm (.bl i) = true := by rw [imm]
@[simp] theorem imm_non : imm .non = true := by rw [imm]
@[simp] theorem imm_str {i : Str} : imm (.str i) = true := by rw [imm]
@[simp] theorem imm_tup {i : List D} : imm (.tup i) = imms i := by rw [imm]
@[simp] theorem imm_lst {i : List D} : imm (.lst i) = false := by rw [imm]
@[simp] theorem imm_dic {i : List (Key × D)} : imm (.dic i) = false := by rw [imm]
@[simp] theorem imms_nil : imms [] = true := by rw [imms]
@[simp] theorem imms_cons {d : D} {r : List D} : imms (d :: r) = (imm d && imms r) := by rw [imms]
@[simp] theorem imms_ints {l : List Int} : imms (l.map .int) = true := imms_map l
/-- a call's end -/
def runE (np : Nat) (A : List Nat) : Res Flo → CRes
  | .ok .nx fr => .ok (.d .non) (psBack np A fr)
  | .ok (.rt t) fr => .ok t (psBack np A fr)
  | .exn x fr => .exn x (psBack np A fr)
  | _ => .stuck
@[simp] theorem runE_nx {np : Nat} {A : List Nat} : runE np A (.ok .nx fr) = .ok (.d .non) (psBack np A fr) := of_eq_true (eq_self _)
@[simp] theorem runE_rt {np : Nat} {A : List Nat} : runE np A (.ok (.rt t) fr) = .ok t (psBack np A fr) := of_eq_true (eq_self _)
@[simp] theorem runE_exn {np : Nat} {A : List Nat} : runE np A (.exn x fr) = .exn x (psBack np A fr) := of_eq_true (eq_self _)
theorem runB_eq {np nn : Nat} {A : List Nat} {m : M Flo} {ts : List T} (h : ts.length = np) : runB np nn A m ts = runE np A (m (ts.map some ++ List.replicate (nn - np) none)) := by
  unfold runB
  rw [if_pos h]
  cases m (ts.map some ++ List.replicate (nn - np) none) with
  | ok f fr => cases f <;> rfl
  | _ => rfl
@[simp] theorem psBack_zero {A : List Nat} : psBack 0 A fr = [] := of_eq_true (eq_self _)
theorem psBack_one {A : List Nat} {a : Option T} {r : Fr} : psBack 1 A (a :: r) = [if A.contains 0 then none else a] := rfl
theorem psBack_two {A : List Nat} {a b : Option T} {r : Fr} : psBack 2 A (a :: b :: r) = [if A.contains 0 then none else a, if A.contains 1 then none else b] := rfl
theorem psBack_three {A : List Nat} {a b c : Option T} {r : Fr} : psBack 3 A (a :: b :: c :: r) = [if A.contains 0 then none else a, if A.contains 1 then none else b, if A.contains 2 then none else c] := rfl
theorem psBack_four {A : List Nat} {a b c d : Option T} {r : Fr} : psBack 4 A (a :: b :: c :: d :: r) = [if A.contains 0 then none else a, if A.contains 1 then none else b, if A.contains 2 then none else c, if A.contains 3 then none else d] := rfl
end
end Bw

set_option maxHeartbeats 4000000
namespace Bw
open PySem PySem.Spec PyProof.Rows L2
section
variable {α : Type} {fr : Fr} {i j n : Nat} {t : T}
/-! ### built-ins and methods by name -/
@[simp] theorem blt1_len {x : Opd} : blt1 "len" x = (lenD x.1).map fun (k : Nat) => .d (.int (k : Int)) := of_eq_true (eq_self _)
def intR : D → Option T
  | .int i => some (.d (.int i))
  | .bl b => some (.d (.int (if b then 1 else 0)))
  | _ => none
@[simp] theorem intR_int {i : Int} : intR (.int i) = some (.d (.int i)) := of_eq_true (eq_self _)
@[simp] theorem blt1_int {x : Opd} : blt1 "int" x = intR x.1 := by obtain ⟨d, b⟩ := x; cases d <;> rfl
@[simp] theorem blt1_tuple {x : Opd} : blt1 "tuple" x = (itemsO x).map fun ds => .d (.tup ds) := of_eq_true (eq_self _)
@[simp] theorem blt1_list {x : Opd} : blt1 "list" x = (itemsO x).map fun ds => .lst (ds.map .d) := of_eq_true (eq_self _)
def lst1 (f : List D → Option T) : D → Option T
  | .lst ds => f ds
  | _ => none
@[simp] theorem lst1_lst {f : List D → Option T} {ds : List D} : lst1 f (.lst ds) = f ds := of_eq_true (eq_self _)
@[simp] theorem blt1_sum {x : Opd} : blt1 "sum" x = lst1 (fun ds => (intsD ds).map fun ns => .d (.int ns.sum)) x.1 := by obtain ⟨d, b⟩ := x; cases d <;> rfl
@[simp] theorem blt1_all {x : Opd} : blt1 "all" x = lst1 (fun ds => (blsD ds).map fun bs => .d (.bl (bs.all id))) x.1 := by obtain ⟨d, b⟩ := x; cases d <;> rfl
@[simp] theorem blt1_any {x : Opd} : blt1 "any" x = lst1 (fun ds => (blsD ds).map fun bs => .d (.bl (bs.any id))) x.1 := by obtain ⟨d, b⟩ := x; cases d <;> rfl
@[simp] theorem blt1_sorted {x : Opd} : blt1 "sorted" x = (seqD x.1).bind fun ds => (intsD ds).map fun ns => .lst ((sortI ns).map fun i => .d (.int i)) := of_eq_true (eq_self _)
@[simp] theorem blt2_min {a b : Int} : blt2 "min" (.int a) (.int b) = some (.d (.int (if b < a then b else a))) := of_eq_true (eq_self _)
@[simp] theorem blt2_max {a b : Int} : blt2 "max" (.int a) (.int b) = some (.d (.int (if b > a then b else a))) := of_eq_true (eq_self _)
@[simp] theorem itemsO_lf {ds : List D} : itemsO (.lst ds, false) = some ds := of_eq_true (eq_self _)
@[simp] theorem itemsO_tf {ds : List D} : itemsO (.tup ds, false) = some ds := of_eq_true (eq_self _)
@[simp] theorem itemsO_lt {ds : List D} : itemsO (.lst ds, true) = if imms ds then some ds else none := by
  unfold itemsO; simp only [seqD_lst, Option.bind_some]; cases imms ds <;> rfl
@[simp] theorem okMeth_append : okMeth "append" 0 1 = true := of_eq_true (eq_self _)
@[simp] theorem okMeth_pop : okMeth "pop" 0 0 = true := of_eq_true (eq_self _)
@[simp] theorem okMeth_reverse : okMeth "reverse" 0 0 = true := of_eq_true (eq_self _)
@[simp] theorem okMeth_count : okMeth "count" 0 1 = true := of_eq_true (eq_self _)
@[simp] theorem okMeth_count1 : okMeth "count" 1 1 = true := of_eq_true (eq_self _)
@[simp] theorem okMeth_setd : okMeth "setdefault" 2 2 = true := of_eq_true (eq_self _)
def metR (m : Str) (k i : Nat) (ts : List T) (fr : Fr) : Option T → Res T
  | some t => if kindT t = k then methA m i t ts fr else .stuck
  | none => .stuck
@[simp] theorem metR_some {m : Str} {k : Nat} {ts : List T} : metR m k i ts fr (some t) = if kindT t = k then methA m i t ts fr else .stuck := of_eq_true (eq_self _)
@[simp] theorem methM_ap {m : Str} {k : Nat} {ts : List T} : methM m k i ts fr = metR m k i ts fr (getS fr i) := by unfold methM; cases getS fr i <;> rfl
@[simp] theorem methA_append {ts : List T} {u : T} : methA "append" i (.lst ts) [u] fr = if Nat.blt ts.length 16777216 then .ok (.d .non) (fr.set i (some (.lst (ts ++ [u])))) else .stuck := by
  have h : mutT "append" (.lst ts) [u] = if Nat.blt ts.length 16777216 then some (.d .non, .lst (ts ++ [u])) else none := rfl
  unfold methA
  rw [if_neg (show ¬ (("append" : Str) = "count") by decide +kernel), h]
  cases Nat.blt ts.length 16777216 <;> rfl
def popR (i : Nat) (ts : List T) (fr : Fr) : Option T → Res T
  | some u => .ok u (fr.set i (some (.lst ts.dropLast)))
  | none => .stuck
@[simp] theorem popR_some {ts : List T} {u : T} : popR i ts fr (some u) = .ok u (fr.set i (some (.lst ts.dropLast))) := of_eq_true (eq_self _)
@[simp] theorem methA_pop {ts : List T} : methA "pop" i (.lst ts) [] fr = popR i ts fr (lastT ts) := by
  have h : mutT "pop" (.lst ts) [] = (lastT ts).map fun u => (u, .lst ts.dropLast) := rfl
  unfold methA
  rw [if_neg (show ¬ (("pop" : Str) = "count") by decide +kernel), h]
  cases lastT ts <;> rfl
@[simp] theorem methA_reverse {ts : List T} : methA "reverse" i (.lst ts) [] fr = .ok (.d .non) (fr.set i (some (.lst ts.reverse))) := by
  have h : mutT "reverse" (.lst ts) [] = some (.d .non, .lst ts.reverse) := rfl
  unfold methA
  rw [if_neg (show ¬ (("reverse" : Str) = "count") by decide +kernel), h]
def cntR (fr : Fr) (k : Int) : Option (List Int) → Res T
  | some ns => .ok (.d (.int (ns.count k))) fr
  | none => .stuck
@[simp] theorem cntR_some {k : Int} {ns : List Int} : cntR fr k (some ns) = .ok (.d (.int (ns.count k))) fr := of_eq_true (eq_self _)
@[simp] theorem methA_tcount {ds : List D} {k : Int} : methA "count" i (.d (.tup ds)) [.d (.int k)] fr = cntR fr k (intsD ds) := by
  have h : methD "count" (fz (.d (.tup ds))) (fzs [.d (.int k)]) = (intsD ds).map fun ns => .int (ns.count k) := rfl
  unfold methA
  rw [if_pos rfl, h]
  cases intsD ds <;> rfl
def sdR (i : Nat) (kvs : List (Key × D)) (k : Key) (v : D) (fr : Fr) : Option D → Res T
  | some w => .ok (.d w) (fr.set i (some (.dic kvs)))
  | none => .ok (.d v) (fr.set i (some (.dic (kvs ++ [(k, v)]))))
@[simp] theorem sdR_some {kvs : List (Key × D)} {k : Key} {v w : D} : sdR i kvs k v fr (some w) = .ok (.d w) (fr.set i (some (.dic kvs))) := of_eq_true (eq_self _)
@[simp] theorem sdR_none {kvs : List (Key × D)} {k : Key} {v : D} : sdR i kvs k v fr none = .ok (.d v) (fr.set i (some (.dic (kvs ++ [(k, v)])))) := of_eq_true (eq_self _)
@[simp] theorem methA_setd {kvs : List (Key × D)} {k : Int} {v : D} : methA "setdefault" i (.dic kvs) [.d (.int k), .d v] fr = if Nat.blt kvs.length 16777216 then sdR i kvs (.inl k) v fr (findK (.inl k) kvs) else .stuck := by
  have h : mutT "setdefault" (.dic kvs) [.d (.int k), .d v] = if Nat.blt kvs.length 16777216 then (match findK (.inl k) kvs with
        | some w => some (.d w, .dic kvs)
        | none => some (.d v, .dic (kvs ++ [(.inl k, v)]))) else none := rfl
  unfold methA
  rw [if_neg (show ¬ (("setdefault" : Str) = "count") by decide +kernel), h]
  cases Nat.blt kvs.length 16777216
  · rfl
  · cases findK (.inl k) kvs <;> rfl
/-! ### data of ints -/
@[simp] theorem intsD_mp : ∀ (l : List α) (f : α → Int), intsD (l.map fun x => .int (f x)) = some (l.map f)
  | [], _ => rfl
  | i :: r, f => by rw [List.map_cons, intsD, intsD_mp r]; rfl
@[simp] theorem intsD_m (l : List Int) : intsD (l.map .int) = some l := intsD_map l
@[simp] theorem blsD_mp : ∀ (l : List α) (f : α → Bool), blsD (l.map fun x => .bl (f x)) = some (l.map f)
  | [], _ => rfl
  | i :: r, f => by rw [List.map_cons, blsD, blsD_mp r]; rfl
@[simp] theorem blsD_m (l : List Bool) : blsD (l.map .bl) = some l := blsD_map l
theorem eqvAll_ints : ∀ a b : List Int, PyData.eqvAll (a.map .int) (b.map .int) = decide (a = b)
  | [], [] => rfl
  | [], _ :: _ => rfl
  | _ :: _, [] => rfl
  | x :: r, y :: s => by
    rw [List.map_cons, List.map_cons, PyData.eqvAll, eqvAll_ints r s, PyData.eqv]
    exact Bool.eq_iff_iff.mpr (by simp)
theorem shaped_li (a : List Int) : SeqAt.shaped (.list (a.map .int)) = true := PySem.W.ke_shaped_ints a
theorem shaped_ti (a : List Int) : SeqAt.shaped (.tuple (a.map .int)) = true := by
  simp [SeqAt.shaped, PyData.canLay0, PyData.depth, PySem.W.ke_canLayAll0, PySem.W.ke_depthAll]
@[simp] theorem eqD_lst {a b : List Int} : eqD (.lst (a.map .int)) (.lst (b.map .int)) = some (decide (a = b)) := by
  unfold eqD
  simp only [pyd, pyds_map, Option.map_some, shaped_li, Bool.and_self, if_true, PyData.eqv, eqvAll_ints]
@[simp] theorem eqD_tup {a b : List Int} : eqD (.tup (a.map .int)) (.tup (b.map .int)) = some (decide (a = b)) := by
  unfold eqD
  simp only [pyd, pyds_map, Option.map_some, shaped_ti, Bool.and_self, if_true, PyData.eqv, eqvAll_ints]
theorem eqD_pair {a b c d : Int} : eqD (.tup [.int a, .int b]) (.tup [.int c, .int d]) = some (decide (a = c ∧ b = d)) := by
  have := eqD_tup (a := [a, b]) (b := [c, d])
  simpa using this
theorem eqD_nt {a : List Int} : eqD .non (.tup (a.map .int)) = some false := by
  unfold eqD
  simp only [pyd, pyds_map, Option.map_some, shaped_ti]
  rfl
theorem eqD_tn {a : List Int} : eqD (.tup (a.map .int)) .non = some false := by
  unfold eqD
  simp only [pyd, pyds_map, Option.map_some, shaped_ti]
  rfl
theorem eqD_nn : eqD .non .non = some true := rfl
/-! ### places -/
theorem atI_nat' {β : Type} {xs : List β} {n : Nat} (h : n < xs.length) : atI xs (n : Int) = some (xs[n]) := by
  unfold atI ixN
  rw [if_pos (Int.natCast_nonneg n), if_pos (by omega)]
  simp [h]
theorem idx_lst {l : List Int} {n : Nat} (h : n < l.length) : idxD (.lst (l.map .int)) (.int (n : Int)) = some (.int (l.getD n 0)) := by
  show atI _ _ = _
  rw [atI_nat' (by simpa using h)]
  simp [List.getElem?_eq_getElem h]
theorem idx_tup {l : List Int} {n : Nat} (h : n < l.length) : idxD (.tup (l.map .int)) (.int (n : Int)) = some (.int (l.getD n 0)) := by
  show atI _ _ = _
  rw [atI_nat' (by simpa using h)]
  simp [List.getElem?_eq_getElem h]
/-! ### comprehensions -/
@[simp] theorem wipeF_nil : wipeF fr [] = fr := of_eq_true (eq_self _)
@[simp] theorem wipeF_cons {r : List Nat} : wipeF fr (i :: r) = (wipeF fr r).set i none := of_eq_true (eq_self _)
@[simp] theorem backF_nil {old : Fr} : backF old fr [] = fr := of_eq_true (eq_self _)
@[simp] theorem backF_cons {old : Fr} {r : List Nat} : backF old fr (i :: r) = (backF old fr r).set i (old[i]?.join) := of_eq_true (eq_self _)
def ownE : Option (Option T) → Bool
  | some none => true
  | some (some (.d _)) => true
  | _ => false
@[simp] theorem ownE_n : ownE (some none) = true := of_eq_true (eq_self _)
@[simp] theorem ownE_d {d : D} : ownE (some (some (.d d))) = true := of_eq_true (eq_self _)
@[simp] theorem ownOk_nil : ownOk fr [] = true := of_eq_true (eq_self _)
@[simp] theorem ownOk_cons {r : List Nat} : ownOk fr (i :: r) = (ownE fr[i]? && ownOk fr r) := of_eq_true (eq_self _)
def lcR (own : List Nat) (fr : Fr) : Res (List T) → Res T
  | .ok ts fr' => .ok (.lst ts) (backF fr fr' own)
  | _ => .stuck
@[simp] theorem lcR_ok {own : List Nat} {ts : List T} {fr' : Fr} : lcR own fr (.ok ts fr') = .ok (.lst ts) (backF fr fr' own) := of_eq_true (eq_self _)
@[simp] theorem cLc_ap {own : List Nat} {g : Sum Nat (List Nat)} {src : M Src} {test : M Bool} {elt : M T} : cLc own g src test elt fr = (src fr).bnd fun s fr =>
    if ownOk fr own && guardFree s own && (tgIx g).all (fun i => own.contains i) then lcR own fr (compL own g test elt s s.items [] (wipeF fr own)) else .stuck := by
  rw [cLc, bind_ap]
  refine bnd_congr fun s fr => ?_
  split
  · cases compL own g test elt s s.items [] (wipeF fr own) <;> rfl
  · rfl
@[simp] theorem tgIx_l : tgIx (.inl i) = [i] := of_eq_true (eq_self _)
@[simp] theorem tgIx_r {is : List Nat} : tgIx (.inr is) = is := of_eq_true (eq_self _)
/-- a comprehension whose turns leave the frame as it is -/
theorem compL_pureG {own : List Nat} {tg : Sum Nat (List Nat)} {test : M Bool} {elt : M T} {s : Src} {fr : Fr} (hg : guardOk s fr = true) (p : α → Bool) (f : α → T) (g : α → D) : ∀ (l : List α) (acc : List T),
    (∀ x, x ∈ l → ∃ fr1 fr2 fr3, storeTg tg s.pairs (g x) fr = some fr1 ∧ test fr1 = .ok (p x) fr2 ∧ (p x = true → elt fr2 = .ok (f x) fr3 ∧ wipeF fr3 own = fr) ∧ (p x = false → wipeF fr2 own = fr)) →
    acc.length + l.length ≤ 16777216 → compL own tg test elt s (l.map g) acc fr = .ok (acc ++ (l.filter p).map f) fr
  | [], acc, _, _ => by simp [compL, hg]
  | x :: r, acc, h, hl => by
    obtain ⟨fr1, fr2, fr3, h1, h2, h3, h4⟩ := h x List.mem_cons_self
    have hr := fun y (m : y ∈ r) => h y (List.mem_cons_of_mem _ m)
    simp only [List.length_cons] at hl
    rw [List.map_cons, compL]
    simp only [hg, if_true, h1, h2]
    cases hp : p x with
    | true =>
      obtain ⟨e1, e2⟩ := h3 hp
      have hb : Nat.blt acc.length 16777216 = true := by rw [Nat.blt_eq]; omega
      simp only [e1, hb, if_true, e2]
      rw [compL_pureG hg p f g r _ hr (by simp; omega), List.filter_cons_of_pos hp]
      simp
    | false =>
      simp only [h4 hp]
      rw [compL_pureG hg p f g r _ hr (by omega), List.filter_cons_of_neg (by simp [hp])]
/-- .. no guard -/
theorem compL_pure {own : List Nat} {tg : Sum Nat (List Nat)} {test : M Bool} {elt : M T} {its : List D} {b : Bool} {fr : Fr} (p : α → Bool) (f : α → T) (g : α → D) (l : List α) (acc : List T)
    (h : ∀ x, x ∈ l → ∃ fr1 fr2 fr3, storeTg tg b (g x) fr = some fr1 ∧ test fr1 = .ok (p x) fr2 ∧ (p x = true → elt fr2 = .ok (f x) fr3 ∧ wipeF fr3 own = fr) ∧ (p x = false → wipeF fr2 own = fr))
    (hl : acc.length + l.length ≤ 16777216) : compL own tg test elt ⟨its, none, b⟩ (l.map g) acc fr = .ok (acc ++ (l.filter p).map f) fr :=
  compL_pureG (s := ⟨its, none, b⟩) rfl p f g l acc h hl
theorem compL_mapG {own : List Nat} {tg : Sum Nat (List Nat)} {elt : M T} {s : Src} {fr : Fr} (hg : guardOk s fr = true) (f : α → T) (g : α → D) (l : List α)
    (h : ∀ x, x ∈ l → ∃ fr1 fr3, storeTg tg s.pairs (g x) fr = some fr1 ∧ elt fr1 = .ok (f x) fr3 ∧ wipeF fr3 own = fr) (hl : l.length ≤ 16777216) :
    compL own tg kYes elt s (l.map g) [] fr = .ok (l.map f) fr := by
  rw [compL_pureG hg (fun _ => true) f g l [] (fun x m => by
    obtain ⟨fr1, fr3, h1, h2, h3⟩ := h x m
    exact ⟨fr1, fr1, fr3, h1, rfl, fun _ => ⟨h2, h3⟩, fun e => by cases e⟩) (by simpa using hl), List.filter_eq_self.mpr (fun _ _ => rfl)]
  rfl
/-- .. without a test -/
theorem compL_map {own : List Nat} {tg : Sum Nat (List Nat)} {elt : M T} {its : List D} {b : Bool} {fr : Fr} (f : α → T) (g : α → D) (l : List α)
    (h : ∀ x, x ∈ l → ∃ fr1 fr3, storeTg tg b (g x) fr = some fr1 ∧ elt fr1 = .ok (f x) fr3 ∧ wipeF fr3 own = fr) (hl : l.length ≤ 16777216) :
    compL own tg kYes elt ⟨its, none, b⟩ (l.map g) [] fr = .ok (l.map f) fr := by
  rw [compL_pure (fun _ => true) f g l [] (fun x m => by
    obtain ⟨fr1, fr3, h1, h2, h3⟩ := h x m
    exact ⟨fr1, fr1, fr3, h1, rfl, fun _ => ⟨h2, h3⟩, fun e => by cases e⟩) (by simpa using hl), List.filter_eq_self.mpr (fun _ _ => rfl)]
  rfl
/-! ### loops -/
@[simp] theorem forL_nil {g : Sum Nat (List Nat)} {body : M Flo} {its : List D} {b : Bool} : forL g body ⟨its, none, b⟩ [] fr = .ok .nx fr := of_eq_true (eq_self _)
def stepL (k : Fr → Res Flo) : Res Flo → Res Flo
  | .ok .nx fr => k fr
  | .ok .ct fr => k fr
  | .ok .bk fr => .ok .nx fr
  | .ok (.rt t) fr => .ok (.rt t) fr
  | .exn x fr => .exn x fr
  | .stuck => .stuck
@[simp] theorem stepL_nx {k : Fr → Res Flo} : stepL k (.ok .nx fr) = k fr := of_eq_true (eq_self _)
@[simp] theorem stepL_ct {k : Fr → Res Flo} : stepL k (.ok .ct fr) = k fr := of_eq_true (eq_self _)
@[simp] theorem stepL_bk {k : Fr → Res Flo} : stepL k (.ok .bk fr) = .ok .nx fr := of_eq_true (eq_self _)
@[simp] theorem stepL_rt {k : Fr → Res Flo} : stepL k (.ok (.rt t) fr) = .ok (.rt t) fr := of_eq_true (eq_self _)
@[simp] theorem stepL_exn {k : Fr → Res Flo} {x : Exn} : stepL k (.exn x fr) = .exn x fr := of_eq_true (eq_self _)
def frR (body : M Flo) (k : Fr → Res Flo) : Option Fr → Res Flo
  | some fr => stepL k (body fr)
  | none => .stuck
@[simp] theorem frR_some {body : M Flo} {k : Fr → Res Flo} : frR body k (some fr) = stepL k (body fr) := of_eq_true (eq_self _)
theorem forL_cons {g : Sum Nat (List Nat)} {body : M Flo} {its : List D} {b : Bool} {x : D} {r : List D} : forL g body ⟨its, none, b⟩ (x :: r) fr = frR body (fun fr => forL g body ⟨its, none, b⟩ r fr) (storeTg g b x fr) := by
  rw [forL]
  simp only [guardOk_none, if_true]
  cases storeTg g b x fr with
  | none => rfl
  | some fr1 =>
    dsimp only [frR]
    cases body fr1 with
    | ok f fr2 => cases f <;> rfl
    | _ => rfl
end
end Bw

set_option maxHeartbeats 4000000
namespace Bw
open PySem PySem.Spec PyProof.Rows L2
section
variable {α β : Type} {fr : Fr} {i j n : Nat} {t : T}
def srchR (fr : Fr) : Option T → Res Flo
  | some t => .ok (.rt t) fr
  | none => .ok .nx fr
@[simp] theorem srchR_some : srchR fr (some t) = .ok (.rt t) fr := of_eq_true (eq_self _)
@[simp] theorem srchR_none : srchR fr none = .ok .nx fr := of_eq_true (eq_self _)
/-- a loop that returns at the first item that .. -/
theorem forL_search {g : Sum Nat (List Nat)} {body : M Flo} {its : List D} {b : Bool} (I : Fr → Prop) (enc : α → D) (q : α → Option T) : ∀ (l : List α) (fr : Fr), I fr →
    (∀ x, x ∈ l → ∀ fr, I fr → ∃ fr1, storeTg g b (enc x) fr = some fr1 ∧ ∃ fr2, I fr2 ∧ body fr1 = srchR fr2 (q x)) →
    ∃ fr', I fr' ∧ forL g body ⟨its, none, b⟩ (l.map enc) fr = srchR fr' (l.findSome? q)
  | [], fr, h, _ => ⟨fr, h, rfl⟩
  | x :: r, fr, h, hs => by
    obtain ⟨fr1, h1, fr2, h2, h3⟩ := hs x List.mem_cons_self fr h
    rw [List.map_cons, forL_cons, h1, frR_some, h3, List.findSome?_cons]
    cases q x with
    | some t => exact ⟨fr2, h2, rfl⟩
    | none => exact forL_search I enc q r fr2 h2 fun y m => hs y (List.mem_cons_of_mem _ m)
/-- a loop that goes to its end -/
theorem forL_fold {g : Sum Nat (List Nat)} {body : M Flo} {its : List D} {b : Bool} (J : β → Fr → Prop) (enc : α → D) (f : β → α → β) : ∀ (l : List α) (s : β) (fr : Fr), J s fr →
    (∀ x, x ∈ l → ∀ s fr, J s fr → ∃ fr1, storeTg g b (enc x) fr = some fr1 ∧ ∃ fr2, J (f s x) fr2 ∧ body fr1 = .ok .nx fr2) →
    ∃ fr', J (l.foldl f s) fr' ∧ forL g body ⟨its, none, b⟩ (l.map enc) fr = .ok .nx fr'
  | [], s, fr, h, _ => ⟨fr, h, rfl⟩
  | x :: r, s, fr, h, hs => by
    obtain ⟨fr1, h1, fr2, h2, h3⟩ := hs x List.mem_cons_self s fr h
    rw [List.map_cons, forL_cons, h1, frR_some, h3]
    exact forL_fold J enc f r (f s x) fr2 h2 fun y m => hs y (List.mem_cons_of_mem _ m)
/-- .. knowing what came ahead -/
theorem forL_foldP {g : Sum Nat (List Nat)} {body : M Flo} {its : List D} {b : Bool} (J : β → Fr → Prop) (enc : α → D) (f : β → α → β) (l : List α) (s0 : β)
    (hs : ∀ pre x post, l = pre ++ x :: post → ∀ fr, J (pre.foldl f s0) fr → ∃ fr1, storeTg g b (enc x) fr = some fr1 ∧ ∃ fr2, J (f (pre.foldl f s0) x) fr2 ∧ body fr1 = .ok .nx fr2) :
    ∀ (post pre : List α) (fr : Fr), l = pre ++ post → J (pre.foldl f s0) fr → ∃ fr', J (l.foldl f s0) fr' ∧ forL g body ⟨its, none, b⟩ (post.map enc) fr = .ok .nx fr'
  | [], pre, fr, e, h => ⟨fr, by rw [e, List.append_nil]; exact h, rfl⟩
  | x :: r, pre, fr, e, h => by
    obtain ⟨fr1, h1, fr2, h2, h3⟩ := hs pre x r e fr h
    rw [List.map_cons, forL_cons, h1, frR_some, h3]
    exact forL_foldP J enc f l s0 hs r (pre ++ [x]) fr2 (by rw [e]; simp) (by rw [List.foldl_append]; exact h2)
theorem foldl_app {γ : Type} (g : α → List γ) : ∀ (l : List α) (s : List γ), l.foldl (fun s x => s ++ g x) s = s ++ l.flatMap g
  | [], s => by simp
  | x :: r, s => by rw [List.foldl_cons, foldl_app g r, List.flatMap_cons, List.append_assoc]
theorem flatMap_ite {γ : Type} (p : α → Bool) (f : α → γ) : ∀ l : List α, (l.flatMap fun x => if p x then [f x] else []) = (l.filter p).map f
  | [] => rfl
  | x :: r => by
    rw [List.flatMap_cons, flatMap_ite p f r]
    cases h : p x
    · rw [List.filter_cons_of_neg (by simp [h])]; simp
    · rw [List.filter_cons_of_pos h]; simp
theorem flatMap_len {γ : Type} (g : α → List γ) (c : Nat) (h : ∀ x, (g x).length ≤ c) : ∀ l : List α, (l.flatMap g).length ≤ l.length * c
  | [] => by simp
  | x :: r => by
    rw [List.flatMap_cons, List.length_append, List.length_cons, Nat.add_mul, Nat.one_mul]
    have := flatMap_len g c h r
    have := h x
    omega
theorem foldl_or (c : α → Bool) : ∀ (l : List α) (b : Bool), l.foldl (fun b x => b || c x) b = (b || l.any c)
  | [], b => by simp
  | x :: r, b => by rw [List.foldl_cons, foldl_or c r, List.any_cons, Bool.or_assoc]
def wkG (p : PF) (root : Option Nat) (fr : Fr) (ds : List D) (i : Nat) : Option T → Res Src
  | some t => if imms ds then .ok ⟨ds, some (i, t), false⟩ fr else wkF p root fr
  | none => wkF p root fr
@[simp] theorem wkG_some {p : PF} {root : Option Nat} {ds : List D} : wkG p root fr ds i (some t) = if imms ds then .ok ⟨ds, some (i, t), false⟩ fr else wkF p root fr := of_eq_true (eq_self _)
@[simp] theorem wkR_lt {p : PF} {root : Option Nat} {ds : List D} : wkR p (some i) root fr (some (.lst ds, true)) = wkG p root fr ds i (getS fr i) := by
  unfold wkR wkG
  simp only [seqD_lst, Option.bind_some]
  cases getS fr i <;> rfl
@[simp] theorem guardFree_some {ds : List D} {b : Bool} {l : List Nat} : guardFree ⟨ds, some (i, t), b⟩ l = !l.contains i := of_eq_true (eq_self _)
theorem guardOk_some {ds : List D} {b : Bool} (h : getS fr i = some t) : guardOk ⟨ds, some (i, t), b⟩ fr = true := by
  unfold guardOk
  simp only [h]
  exact beqT_refl t
theorem range1_nat {v : Nat} (h : v < 2 ^ 62) : range1 (.int (v : Int)) = some ⟨(List.range v).map fun k => .int (k : Nat), none, false⟩ := by
  have h2 : fit62 (v : Int) = true := by unfold fit62; simp; omega
  simp only [range1, h2, if_true]
  unfold rangeI
  simp
@[simp] theorem revO_tf {ds : List D} : revO (.tup ds, false) = some (.d (.tup ds.reverse)) := of_eq_true (eq_self _)
@[simp] theorem revO_lf {ds : List D} : revO (.lst ds, false) = some (.lst (ds.reverse.map .d)) := of_eq_true (eq_self _)
theorem setD_eq {xs : List Int} {n : Nat} (h : n < xs.length) : xs[n]? = some (xs.getD n 0) := by simp [List.getElem?_eq_getElem h]
end
end Bw

set_option maxHeartbeats 4000000
namespace Bw
open PySem PySem.Spec PyProof.Rows L2
/-! ### what the head says: facts by names, own exception classes -/
/-- an own exception class with one field -/
def clsB (K : PySem.W.Frag) (C : Addr) : Bool := match K.lookup C with
  | some ⟨.type "type", _, .cls cd, sl⟩ => (match cd.mro, sl.toList with
    | .ref C1 :: rest, [_, _, _, _, some (.builtin n), _] => decide (C1 = C) && (decide (n = "ValueError.__new__") && (decide (cd.hasDel = false) && (decide (cd.hasDict = true) && PySem.HandSPX.refsVE rest)))
    | _, _ => false)
  | _ => false
theorem clsB_ok {K : PySem.W.Frag} {C : Addr} (q : clsB K C = true) : ∃ nm q N bs bm sn sub ab col dd k0 k1 k2 k3 k5, K.lookup C = some (PySem.excClassObj nm q C N bs bm true sn sub ab col dd k0 k1 k2 k3 k5 "ValueError.__new__") ∧ PySem.HandSPX.refsVE bm = true := by
  unfold clsB at q
  split at q
  · rename_i dct rec arr look
    split at q
    · rename_i C1 rest s0 s1 s2 s3 nw s5 em es
      obtain ⟨p1, q⟩ := He.ba q
      obtain ⟨p2, q⟩ := He.ba q
      obtain ⟨p3, q⟩ := He.ba q
      obtain ⟨p4, p5⟩ := He.ba q
      have w1 := of_decide_eq_true p1
      have w2 := of_decide_eq_true p2
      have w3 := of_decide_eq_true p3
      have w4 := of_decide_eq_true p4
      obtain ⟨l⟩ := arr
      have el : l = _ := es
      obtain ⟨c1, c2, c3, c4, c5, c6, c7, c8, c9, c10, c11⟩ := rec
      dsimp only at em w3 w4
      clear p1 p2 p3 p4 es q
      subst w1 w2 w3 w4 em el
      exact ⟨c1, c5, c4, c2, rest, c7, c8, c9, c10, dct, s0, s1, s2, s3, s5, look, p5⟩
    · cases q
  · cases q
def excB (K : PySem.W.Frag) (c f : Str) : Bool :=
  clsB K (He.ga K c) && (He.eqO (PySem.W.findIn K (.ref (He.ga K c)) "__setattr__") (some (some (.builtin "object.__setattr__"))) && (He.eqO (PySem.W.findIn K (.ref (He.ga K c)) "__getattribute__") (some (some (.builtin "BaseException.__getattribute__"))) &&
  (He.eqO (PySem.W.findIn K (.ref (He.ga K c)) "__getattr__") (some none) && (He.eqO (PySem.W.findIn K (.ref (He.ga K c)) f) (some none) && (He.eqO (PySem.W.findIn K (.ref (He.ga K c)) "__init__") (some (some (.ref (He.ma K (He.ga K c) "__init__")))) &&
  (decide (PySem.W.typeIn K (.ref (He.ma K (He.ga K c) "__init__")) = some (.type "function")) && (PySem.W.keepIn K (.ref (He.ga K c)) && (decide (PySem.W.subIn K (.ref (He.ga K c)) (.type "BaseException") = some true) && (decide (PySem.W.typeIn K (.ref (He.ga K c)) = some (.type "type")) && PySem.W.hasDictIn K (He.ga K c))))))))))
theorem excB_ok {K : PySem.W.Frag} {c f q : Str} {p1 p2 q1 q2 q3 q4 : Pos} (h : excB K c f = true) (fo : PySem.ExcX.FldOk f) {fd : FuncData} (F : FunD K "__init__" q (PySem.ExcX.iA f p1 p2) (PySem.ExcX.iB f q1 q2 q3 q4) (PySem.ExcX.iS f) [] [] (He.ma K (He.ga K c) "__init__") fd) :
    PySem.ExcX.ExcTxt K f q (He.ga K c) (He.ma K (He.ga K c) "__init__") := by
  obtain ⟨h1, h⟩ := He.ba h
  obtain ⟨h2, h⟩ := He.ba h
  obtain ⟨h3, h⟩ := He.ba h
  obtain ⟨h4, h⟩ := He.ba h
  obtain ⟨h5, h⟩ := He.ba h
  obtain ⟨h6, h⟩ := He.ba h
  obtain ⟨h7, h⟩ := He.ba h
  obtain ⟨h8, h⟩ := He.ba h
  obtain ⟨h9, h⟩ := He.ba h
  obtain ⟨h10, h11⟩ := He.ba h
  obtain ⟨oc, od, dV, kV, doc, pm, an, cdv, ct, osl, rfl, lk, hcd, hD, hK⟩ := F.ex
  have hd : dV = .none := by
    rcases hD with ⟨_, e⟩ | ⟨e, _⟩
    · exact e
    · exact absurd rfl e
  subst hd
  exact ⟨fo, clsB_ok h1, He.eqO_ok h2, He.eqO_ok h3, He.eqO_ok h4, He.eqO_ok h5, He.eqO_ok h6, of_decide_eq_true h7, h8, of_decide_eq_true h9, of_decide_eq_true h10, h11,
    ⟨oc, od, kV, doc, pm, an, cdv, ct, osl, p1, p2, q1, q2, q3, q4, lk, hcd⟩⟩
def obsXG (n : Nat) (fa : List He.Fa) (fn : List He.DefD) (ex : PySem.W.Frag → Bool) (g : Addr → Option Obj) : He.AlD × Bool := (He.obsD fa fn (He.frG g (He.asD g n)), ex (He.frG g (He.asD g n)))
def hookX (n : Nat) (fa : List He.Fa) (fn : List He.DefD) (ex : PySem.W.Frag → Bool) : PySem.W.Hook where
  α := He.AlD × Bool
  obs := fun s => obsXG n fa fn ex s.heap.get?
  val := fun _ => (He.valD fn, true)
  says := fun _ h => ∃ K : PySem.W.Frag, K.In h ∧ He.SaysD fa fn K ∧ ex K = true
  of := fun _ _ e => ⟨_, He.frG_in, congrArg Prod.fst e, congrArg Prod.snd e⟩
  keeps := fun _ _ _ ⟨K, hK, c⟩ k => ⟨K, PySem.W.Frag.In.keeps hK k, c⟩
theorem obsXG_eq {n : Nat} {fa : List He.Fa} {fn : List He.DefD} {ex : PySem.W.Frag → Bool} {g : Addr → Option Obj} {s : Shared} (h : ∀ a, g a = s.heap.get? a) : obsXG n fa fn ex g = (hookX n fa fn ex).obs s := by
  have e : g = s.heap.get? := funext h
  rw [e] <;> rfl
/-! ### the law's call, whatever the world lets out -/
/-- what a call may let out, at some world -/
def CXa (P : Program) : CXT := fun o H s E u s' => ∃ w, L2.CX P w o H s E u s'
theorem fnok_any {P : Program} {w : World} {K : PySem.W.Frag} {mg : Str → Option Value} {base : Heap} {k : Nat} {f : Addr} {fd : FuncData} {ps : List Str} {sp : Sp} (F : FnOk P w K mg base (L2.CX P w) k f fd ps sp) : FnOk P w K mg base (CXa P) k f fd ps sp :=
  ⟨F.len, fun A o s H args us vs Q E hr he hb hv hs => codeAny_mono (F.run A o s H args us vs Q E hr he hb hv hs) fun r s' q => by
    cases r with
    | error e => exact ⟨w, q⟩
    | ok fl => cases fl <;> exact q⟩
theorem cxa_none {P : Program} (H : Hp) (s : Shared) (e : Value) (s' : Shared) : CXa P [] H s (fun _ _ _ => False) e s' → False := fun ⟨_, _, _, _, _, _, _, _, _, _, _, _, _, z⟩ => z
theorem ite_inv {α : Type} {c : Prop} [Decidable c] {a b d : α} (h : (if c then a else b) = d) : (c ∧ a = d) ∨ (¬ c ∧ b = d) := by
  by_cases q : c
  · rw [if_pos q] at h; exact .inl ⟨q, h⟩
  · rw [if_neg q] at h; exact .inr ⟨q, h⟩
/-! ### how arguments bind -/
theorem shv_range {G : Gx} : ∀ (m k : Nat) (ws : List V), ws.length = k + m → ShV G ws ((List.range' k m).map .inl) (ws.drop k)
  | 0, k, ws, h => by
    rw [List.drop_of_length_le (by omega)]
    exact .nil
  | m + 1, k, ws, h => by
    have hk : k < ws.length := by omega
    rw [List.range'_succ, List.map_cons, List.drop_eq_getElem_cons hk]
    exact .arg (List.getElem?_eq_getElem hk) (shv_range m (k + 1) ws (by omega))
section
variable {K : PySem.W.Frag} {x qual : Str} {params : Arguments} {body : List Stmt} {scope : Scope} {dvs : List V} {kws : List (Str × V)} {f : Addr} {fd : FuncData} {ps : List Str}
theorem kbn_std (G : Gx) (F : FunD K x qual params body scope [] kws f fd) {n : Nat} (hn : ps.length = n)
    (h : ∀ (kV doc pm : Value) (an : Option Addr) (cdv ct : Value) (us : List Value), us.length = ps.length → bindArgs (PySem.W.fnOf x qual params body scope .none kV doc pm an cdv ct) ⟨us, []⟩ = pure (ps.zip us)) :
    ∃ gg gV, KBn K fd ps n [] gg gV ∧ ∀ vs zs, vs.length = n → zs.length = ([] : List Str).length → ShV G (vs ++ zs) ((List.range' 0 n).map .inl) (gV vs zs) := by
  refine ⟨fun us _ => us, fun vs _ => vs, ⟨fun s us ws X l1 l2 => ?_, fun r _ => r⟩, fun vs zs l1 l2 => ?_⟩
  · have e : ws = [] := List.length_eq_zero_iff.mp l2
    subst e
    exact F.bindsA h s us (by omega)
  · have e : zs = [] := List.length_eq_zero_iff.mp l2
    subst e
    rw [List.append_nil]
    have := shv_range (G := G) n 0 vs (by omega)
    rwa [List.drop_zero] at this
theorem kbn_kw (G : Gx) (F : FunD K x qual params body scope [] kws f fd) {n : Nat} {ks : List Str} (hn : ps.length = n + ks.length)
    (h : ∀ (kV doc pm : Value) (an : Option Addr) (cdv ct : Value) (us ws : List Value), us.length = n → ws.length = ks.length → bindArgs (PySem.W.fnOf x qual params body scope .none kV doc pm an cdv ct) ⟨us, ks.zip ws⟩ = pure (ps.zip (us ++ ws))) :
    ∃ gg gV, KBn K fd ps n ks gg gV ∧ ∀ vs zs, vs.length = n → zs.length = ks.length → ShV G (vs ++ zs) ((List.range' 0 (n + ks.length)).map .inl) (gV vs zs) := by
  refine ⟨fun us ws => us ++ ws, fun vs zs => vs ++ zs, ⟨fun s us ws X l1 l2 => ?_, fun r r2 => r.append r2⟩, fun vs zs l1 l2 => ?_⟩
  · obtain ⟨oc, od, dV, kV, doc, pm, an, cdv, ct, osl, rfl, lk, hcd, hD, hK⟩ := F.ex
    rcases hD with ⟨_, rfl⟩ | ⟨e, _⟩
    · exact .of_eq (h kV doc pm an cdv ct us ws l1 l2)
    · exact absurd rfl e
  · have := shv_range (G := G) (n + ks.length) 0 (vs ++ zs) (by rw [List.length_append]; omega)
    rwa [List.drop_zero] at this
theorem kbn_d (F : FunD K x qual params body scope dvs kws f fd) (hd : dvs ≠ []) (n j : Nat)
    (h : ∀ (T : Addr) (kV doc pm : Value) (an : Option Addr) (cdv ct : Value) (us its : List Value), us.length = n → its.length = dvs.length →
      ∃ k, bindArgs (PySem.W.fnOf x qual params body scope (.ref T) kV doc pm an cdv ct) ⟨us, []⟩ = seqItems? (.ref T) >>= k ∧ k (some its.toArray) = pure (ps.zip (us ++ its.drop j))) : ∃ gg, KBn K fd ps n [] gg (fun vs _ => vs ++ dvs.drop j) := by
  obtain ⟨oc, od, dV, kV, doc, pm, an, cdv, ct, osl, rfl, lk, hcd, hD, hK⟩ := F.ex
  rcases hD with ⟨e, _⟩ | ⟨_, T, o, its, m, rfl, lT, oT, rT⟩
  · exact absurd e hd
  · refine ⟨fun us _ => us ++ its.drop j, ⟨fun s us ws X l1 l2 => ?_, fun r _ => r.append (rT.drop j)⟩⟩
    have e : ws = [] := List.length_eq_zero_iff.mp l2
    subst e
    obtain ⟨k, e1, e2⟩ := h T kV doc pm an cdv ct us its l1 rT.length.symm
    refine BindsTo.of_looks fun M => ?_
    show PySem.W.Looks M s.heap (bindArgs _ ⟨us, []⟩) _
    rw [e1]
    exact looks_items X lT oT (.of_pure e2)
end
/-! ### the law's call -/
theorem rel_int {i : Int} {t : Nat} : RelV (.int i) (.int i t) := ⟨t, rfl⟩
theorem law_sp {G : Gx} {call : List T → CRes} {H : Hp} {a : Addr} {ns : List Int} (hS : SqL G.K H a (ns.map V.int)) {cs : Fr} (hc : call [.d (.lst (ns.map .int))] = .ok (.d (.bl true)) cs) (hl : cs.length = 1) :
    spF G call [.ref a] H (fun v _ => v = .bl true) fun _ _ _ => False := by
  have key : ∀ Z : Addr → Prop, (∀ b, Z b → ∃ o, H b = some o) → LsAt G.K Z H a (ns.map V.int) → spF G call [.ref a] H (fun v _ => v = .bl true) fun _ _ _ => False := fun Z hZ hL => by
    refine ⟨Z, [.d (.lst (ns.map .int))], fun _ => [], ⟨rfl, fun i t e => ?_, fun _ _ => rfl, fun _ => List.nodup_nil, (fun _ _ _ m => nomatch m), (fun _ _ m => nomatch m), hZ⟩, ?_⟩
    · cases i with
      | zero =>
        cases e
        exact ⟨.ref a, rfl, .d (.lst hL (rd_ints ns))⟩
      | succ i => simp at e
    · rw [hc]
      refine ⟨by rw [hl]; rfl, fun v H' Z' pa' g F hv s => ?_⟩
      cases hv.rt with
      | d h => cases h; rfl
  rcases hS with (h | h) | h
  · exact key (fun b => b = a) (fun b e => ⟨_, (congrArg H e).trans h⟩) (.inl ⟨rfl, h⟩)
  · exact key (fun _ => False) (fun _ z => z.elim) (.inr (.inl h))
  · exact key (fun _ => False) (fun _ z => z.elim) (.inr (.inr (.inr h)))
end Bw

namespace K02
/-- the k-th bit -/
def bt (n k : Nat) : Int := ((n / 2 ^ k % 2 : Nat) : Int)
def Bits (t : List Int) : Prop := ∀ x, x ∈ t → x = 0 ∨ x = 1
def tg (t : List Int) (n : Nat) : Int := t.getD n 0
def fallAt (t : List Int) (n k : Nat) : Bool := bt n k == 0 && (tg t n == 1 && tg t (n + 2 ^ k) == 0)
def falls (t : List Int) (v : Nat) : List (Nat × Nat) := (List.range t.length).flatMap fun n => ((List.range v).filter (fallAt t n)).map fun k => (n, k)
def firstFall (t : List Int) (v : Nat) : Option (Nat × Nat) := (List.range t.length).findSome? fun n => ((List.range v).find? (fallAt t n)).map fun k => (n, k)
theorem firstFall_eq (t : List Int) (v : Nat) : firstFall t v = (falls t v).head? := by
  unfold firstFall falls
  rw [List.head?_flatMap]
  congr 1
  funext n
  rw [List.head?_map, List.head?_filter]
/-- who is heard -/
def heardP (t : List Int) (k : Nat) : Bool := (List.range t.length).any fun n => tg t n != tg t (n ^^^ 2 ^ k)
def heardL (t : List Int) (k : Nat) : Bool := (List.range t.length).any fun n => bt n k == 0 && tg t n != tg t (n + 2 ^ k)
theorem xor_facts : ∀ v, v < 6 → ∀ k, k < v → ∀ n, n < 2 ^ v → (n / 2 ^ k % 2 = 0 ∧ n ^^^ 2 ^ k = n + 2 ^ k ∧ n + 2 ^ k < 2 ^ v) ∨ (n / 2 ^ k % 2 = 1 ∧ 2 ^ k ≤ n ∧ n ^^^ 2 ^ k = n - 2 ^ k ∧ (n - 2 ^ k) / 2 ^ k % 2 = 0) := by
  have h : (List.range 6).all (fun v => (List.range v).all fun k => (List.range (2 ^ v)).all fun n => decide ((n / 2 ^ k % 2 = 0 ∧ n ^^^ 2 ^ k = n + 2 ^ k ∧ n + 2 ^ k < 2 ^ v) ∨ (n / 2 ^ k % 2 = 1 ∧ 2 ^ k ≤ n ∧ n ^^^ 2 ^ k = n - 2 ^ k ∧ (n - 2 ^ k) / 2 ^ k % 2 = 0))) = true := by decide +kernel
  intro v hv k hk n hn
  simp only [List.all_eq_true, List.mem_range, decide_eq_true_eq] at h
  exact h v hv k hk n hn
theorem heard_eq {t : List Int} {v : Nat} (hv : v < 6) (hl : t.length = 2 ^ v) {k : Nat} (hk : k < v) : heardP t k = heardL t k := by
  rw [Bool.eq_iff_iff]
  unfold heardP heardL
  simp only [List.any_eq_true, List.mem_range, Bool.and_eq_true, beq_iff_eq, bne_iff_ne]
  constructor
  · rintro ⟨n, h1, h2⟩
    rcases xor_facts v hv k hk n (by omega) with ⟨a, b, c⟩ | ⟨a, b, c, d⟩
    · exact ⟨n, h1, by unfold bt; rw [a]; rfl, by rw [← b]; exact h2⟩
    · have hp := Nat.two_pow_pos k
      refine ⟨n - 2 ^ k, by omega, by unfold bt; rw [d]; rfl, ?_⟩
      rw [show n - 2 ^ k + 2 ^ k = n by omega, ← c]
      exact fun e => h2 e.symm
  · rintro ⟨n, h1, h2, h3⟩
    rcases xor_facts v hv k hk n (by omega) with ⟨a, b, c⟩ | ⟨a, b, c, d⟩
    · exact ⟨n, h1, by rw [b]; exact h3⟩
    · unfold bt at h2
      rw [a] at h2
      exact absurd h2 (by decide)
/-- flat -/
theorem sum_bits : ∀ {t : List Int}, Bits t → 0 ≤ t.sum ∧ t.sum ≤ t.length ∧ t.sum = (t.count 1 : Nat) ∧ t.count 0 + t.count 1 = t.length
  | [], _ => by simp
  | x :: r, h => by
    obtain ⟨a, b, c, d⟩ := sum_bits (t := r) fun y m => h y (List.mem_cons_of_mem _ m)
    rcases h x List.mem_cons_self with rfl | rfl
    · simp [List.sum_cons]; omega
    · simp [List.sum_cons]; omega
theorem flat_eq {t : List Int} (h : Bits t) (hn : t ≠ []) : ((t.count (tg t 0) : Nat) : Int) = t.length ↔ (t.sum = 0 ∨ t.sum = t.length) := by
  obtain ⟨a, b, c, d⟩ := sum_bits h
  cases t with
  | nil => exact absurd rfl hn
  | cons x r =>
    have e : tg (x :: r) 0 = x := rfl
    rw [e]
    have c1 : 0 < (x :: r).count x := List.count_pos_iff.mpr List.mem_cons_self
    rcases h x List.mem_cons_self with e0 | e0
    · rw [e0] at c1 a b c d ⊢
      omega
    · rw [e0] at c1 a b c d ⊢
      omega
/-- by sizes -/
def sz (n : Nat) : Nat := n % 2 + n / 2 % 2 + n / 4 % 2 + n / 8 % 2 + n / 16 % 2
def sizedL (t : List Int) : List Nat → List (Nat × Int) → Bool
  | [], _ => true
  | n :: r, d => match d.lookup (sz n) with
    | some w => if w = tg t n then sizedL t r d else false
    | none => sizedL t r (d ++ [(sz n, tg t n)])
def bySize (t : List Int) : Bool := (List.range t.length).all fun a => (List.range a).all fun b => !(sz a == sz b && tg t a != tg t b)
theorem lookup_append {α : Type} (d : List (Nat × α)) (k k' : Nat) (w : α) : (d ++ [(k, w)]).lookup k' = match d.lookup k' with
    | some x => some x
    | none => if k' = k then some w else none := by
  induction d with
  | nil =>
    by_cases e : k' = k
    · subst e; simp [List.lookup]
    · simp [List.lookup, e, beq_eq_false_iff_ne.mpr e]
  | cons x r ih =>
    obtain ⟨a, b⟩ := x
    rw [List.cons_append, List.lookup_cons, List.lookup_cons]
    cases k' == a
    · exact ih
    · rfl
theorem sized_aux (t : List Int) : ∀ (m i : Nat) (d : List (Nat × Int)), i + m = t.length →
    (∀ a, a < i → d.lookup (sz a) = some (tg t a)) → (∀ s w, d.lookup s = some w → ∃ a, a < i ∧ sz a = s ∧ tg t a = w) →
    (sizedL t (List.range' i m) d = true ↔ ∀ a, i ≤ a → a < t.length → ∀ b, b < a → sz a = sz b → tg t a = tg t b)
  | 0, i, d, e, h1, h2 => by
    simp [sizedL]
    intro a p q
    omega
  | m + 1, i, d, e, h1, h2 => by
    rw [List.range'_succ, sizedL]
    cases hd : d.lookup (sz i) with
    | some w =>
      dsimp only
      obtain ⟨a, p1, p2, p3⟩ := h2 _ _ hd
      by_cases q : w = tg t i
      · rw [if_pos q, sized_aux t m (i + 1) d (by omega) (fun b hb => ?_) (fun s w hs => ?_)]
        · constructor
          · intro h a' g1 g2 b g3 g4
            by_cases z : a' = i
            · subst z
              have := h1 b g3
              rw [← g4, hd] at this
              rw [← q]
              exact Option.some.inj this
            · exact h a' (by omega) g2 b g3 g4
          · intro h a' g1 g2 b g3 g4
            exact h a' (by omega) g2 b g3 g4
        · by_cases z : b = i
          · subst z; rw [hd, q]
          · exact h1 b (by omega)
        · obtain ⟨b, g1, g2, g3⟩ := h2 s w hs
          exact ⟨b, by omega, g2, g3⟩
      · rw [if_neg q]
        refine ⟨(fun h => by cases h), fun h => ?_⟩
        exact absurd (by rw [h i (Nat.le_refl _) (by omega) a p1 p2.symm, p3]) q
    | none =>
      dsimp only
      rw [sized_aux t m (i + 1) _ (by omega) (fun b hb => ?_) (fun s w hs => ?_)]
      · constructor
        · intro h a' g1 g2 b g3 g4
          by_cases z : a' = i
          · subst z
            have := h1 b g3
            rw [← g4, hd] at this
            cases this
          · exact h a' (by omega) g2 b g3 g4
        · intro h a' g1 g2 b g3 g4
          exact h a' (by omega) g2 b g3 g4
      · rw [lookup_append]
        by_cases z : b = i
        · subst z; rw [hd]; simp
        · rw [h1 b (by omega)]
      · rw [lookup_append] at hs
        cases hq : d.lookup s with
        | some x =>
          rw [hq] at hs
          cases hs
          obtain ⟨b, g1, g2, g3⟩ := h2 _ _ hq
          exact ⟨b, by omega, g2, g3⟩
        | none =>
          rw [hq] at hs
          dsimp only at hs
          split at hs
          · cases hs
            exact ⟨i, by omega, by simp [*], rfl⟩
          · cases hs
theorem sized_eq (t : List Int) : sizedL t (List.range t.length) [] = bySize t := by
  rw [Bool.eq_iff_iff, List.range_eq_range', sized_aux t t.length 0 [] (by omega) (fun _ h => by omega) (fun s w h => by cases h)]
  unfold bySize
  simp only [List.all_eq_true, List.mem_range, Bool.not_eq_true', Bool.and_eq_false_iff, beq_eq_false_iff_ne, bne_eq_false_iff_eq]
  constructor
  · intro h a p b q
    by_cases z : sz a = sz b
    · exact .inr (h a (Nat.zero_le _) p b q z)
    · exact .inl z
  · intro h a _ p b q z
    rcases h a p b q with g | g
    · exact absurd z g
    · exact g
end K02

set_option maxHeartbeats 4000000
namespace Bw
open PySem PySem.Spec PyProof.Rows L2
def top (i : Nat) : Stmt := PySem.Challenge.pw_behindwebs_k02_tables_of_voters.main.body.getD i (.Pass ⟨0, 0, 0, 0⟩)
def dI (q : Str) (i : Nat) (N ps : List Str) : DefI := ⟨q, defArgs (top i), defBody (top i), defScope (top i), N, ps⟩
def d_is_integer : DefI := dI "is_integer" 5 ["value"] ["value"]
def d_is_thing : DefI := dI "is_thing" 6 ["size", "value"] ["size", "value"]
def d_number_of_kind : DefI := dI "number_of_kind" 7 ["value", "low", "high", "name"] ["value", "low", "high", "name"]
def d_first_bad : DefI := dI "first_bad" 8 ["size", "things", "met", "place", "value"] ["size", "things"]
def d_lot_of : DefI := dI "lot_of" 9 ["size", "things", "empty", "place"] ["size", "things", "empty"]
def d_voters_in : DefI := dI "voters_in" 14 ["value"] ["value"]
def d_entries_in : DefI := dI "entries_in" 15 ["many", "table", "place", "entry"] ["many", "table"]
def d_table_of : DefI := dI "table_of" 16 ["voters", "table"] ["voters", "table"]
def d_any_table : DefI := dI "any_table" 17 ["table", "voters"] ["table"]
def d_set_number : DefI := dI "set_number" 18 ["voters", "lot", "met", "voter"] ["voters", "lot"]
def d_set_of : DefI := dI "set_of" 19 ["voters", "number", "voter"] ["voters", "number"]
def d_dual_of : DefI := dI "dual_of" 20 ["table", "entries", "voters", "entry"] ["table"]
def d_is_flat : DefI := dI "is_flat" 21 ["table", "entries", "voters"] ["table"]
def d_following : DefI := dI "following" 22 ["voters", "voter", "straight", "along", "number"] ["voters", "voter", "straight"]
def d_followed : DefI := dI "followed" 23 ["table", "entries", "voters", "voter", "sign"] ["table"]
def d_heard_in : DefI := dI "heard_in" 24 ["table", "entries", "voters", "voter", "number"] ["table"]
def d_first_fall : DefI := dI "first_fall" 25 ["table", "entries", "voters", "number", "entry", "voter"] ["table"]
def d_is_rising : DefI := dI "is_rising" 26 ["table"] ["table"]
def d_is_sized : DefI := dI "is_sized" 27 ["table", "entries", "voters", "by_size", "number", "entry", "size"] ["table"]
def d_majority_table : DefI := dI "majority_table" 28 ["voters", "number"] ["voters"]
def d_count_rising : DefI := dI "count_rising" 29 ["voters", "rows", "step", "width", "low", "high"] ["voters"]
def d__law_draws : DefI := dI "_law_draws" 31 ["script", "draws", "place", "raw", "cell", "k", "mixed"] ["script"]
def d__law_take : DefI := dI "_law_take" 32 ["draws", "many"] ["draws", "many"]
def d__law_int : DefI := dI "_law_int" 33 ["value"] ["value"]
def d__law_bool : DefI := dI "_law_bool" 34 ["value", "due"] ["value", "due"]
def d__law_bits : DefI := dI "_law_bits" 35 ["voters", "many", "k"] ["voters"]
def d__law_in : DefI := dI "_law_in" 36 ["number", "voter"] ["number", "voter"]
def d__law_size : DefI := dI "_law_size" 37 ["number", "voter"] ["number"]
def d__law_dual : DefI := dI "_law_dual" 38 ["table", "one"] ["table"]
def d__law_flat : DefI := dI "_law_flat" 39 ["table"] ["table"]
def d__law_table : DefI := dI "_law_table" 40 ["draws", "voters", "word", "voter", "many", "flat", "number"] ["draws", "voters"]
def d__law_row_told : DefI := dI "_law_row_told" 41 ["value", "due", "one"] ["value", "due"]
def d__law_power : DefI := dI "_law_power" 42 ["voter"] ["voter"]
def d__law_falls : DefI := dI "_law_falls" 43 ["table", "voters", "found", "number", "voter"] ["table", "voters"]
def d__law_heard : DefI := dI "_law_heard" 44 ["table", "voters", "found", "voter", "number"] ["table", "voters"]
def d__law_by_size : DefI := dI "_law_by_size" 45 ["table", "one", "other"] ["table"]
def d__law_follows : DefI := dI "_law_follows" 46 ["table", "voters", "voter", "straight", "number", "one"] ["table", "voters"]
def d__law_looked_at : DefI := dI "_law_looked_at" 47 ["table", "voters", "kept", "falls", "due"] ["table", "voters"]
def d__law_each_voter : DefI := dI "_law_each_voter" 48 ["voters", "voter", "straight", "back", "number", "one"] ["voters"]
def d__law_sets : DefI := dI "_law_sets" 49 ["voters", "number", "due", "told", "back", "first", "second", "voter"] ["voters", "number"]
def d__law_wider : DefI := dI "_law_wider" 50 ["rows", "longer", "low", "high", "at"] ["rows"]
def d__law_rising : DefI := dI "_law_rising" 51 ["voters", "rows", "k"] ["voters"]
def d__law_most : DefI := dI "_law_most" 52 ["voters", "word", "told", "e", "due", "number"] ["voters"]
def d__law_door : DefI := dI "_law_door" 53 ["door", "voters", "value", "word", "e"] ["door", "voters", "value"]
def d__law_refused : DefI := dI "_law_refused" 54 ["draws", "table", "voters", "at", "entry", "wrong", "door", "number", "k"] ["draws", "table", "voters"]
def d_law : DefI := dI "law" 55 ["script", "draws", "voters", "table", "number", "many", "told"] ["script"]
def exs0 (c : Str) : Option Str := if c = "BadNumber" then some "name" else if c = "BadLot" then some "place" else if c = "BadTable" then some "place" else none
def sh_is_integer (n : Nat) (ks : List Str) : Option Shape := if n = 1 ∧ ks = ([] : List Str) then some [.inl 0] else none
def sh_is_thing (n : Nat) (ks : List Str) : Option Shape := if n = 2 ∧ ks = ([] : List Str) then some [.inl 0, .inl 1] else none
def sh_number_of_kind (n : Nat) (ks : List Str) : Option Shape := if n = 4 ∧ ks = ([] : List Str) then some [.inl 0, .inl 1, .inl 2, .inl 3] else none
def sh_first_bad (n : Nat) (ks : List Str) : Option Shape := if n = 2 ∧ ks = ([] : List Str) then some [.inl 0, .inl 1] else none
def sh_lot_of (n : Nat) (ks : List Str) : Option Shape := if n = 2 ∧ ks = (["empty"] : List Str) then some [.inl 0, .inl 1, .inl 2] else none
def sh_voters_in (n : Nat) (ks : List Str) : Option Shape := if n = 1 ∧ ks = ([] : List Str) then some [.inl 0] else none
def sh_entries_in (n : Nat) (ks : List Str) : Option Shape := if n = 2 ∧ ks = ([] : List Str) then some [.inl 0, .inl 1] else none
def sh_table_of (n : Nat) (ks : List Str) : Option Shape := if n = 2 ∧ ks = ([] : List Str) then some [.inl 0, .inl 1] else none
def sh_any_table (n : Nat) (ks : List Str) : Option Shape := if n = 1 ∧ ks = ([] : List Str) then some [.inl 0] else none
def sh_set_number (n : Nat) (ks : List Str) : Option Shape := if n = 2 ∧ ks = ([] : List Str) then some [.inl 0, .inl 1] else none
def sh_set_of (n : Nat) (ks : List Str) : Option Shape := if n = 2 ∧ ks = ([] : List Str) then some [.inl 0, .inl 1] else none
def sh_dual_of (n : Nat) (ks : List Str) : Option Shape := if n = 1 ∧ ks = ([] : List Str) then some [.inl 0] else none
def sh_is_flat (n : Nat) (ks : List Str) : Option Shape := if n = 1 ∧ ks = ([] : List Str) then some [.inl 0] else none
def sh_following (n : Nat) (ks : List Str) : Option Shape := if n = 2 ∧ ks = ([] : List Str) then some [.inl 0, .inl 1, .inr (.bl true)] else if n = 3 ∧ ks = ([] : List Str) then some [.inl 0, .inl 1, .inl 2] else none
def sh_followed (n : Nat) (ks : List Str) : Option Shape := if n = 1 ∧ ks = ([] : List Str) then some [.inl 0] else none
def sh_heard_in (n : Nat) (ks : List Str) : Option Shape := if n = 1 ∧ ks = ([] : List Str) then some [.inl 0] else none
def sh_first_fall (n : Nat) (ks : List Str) : Option Shape := if n = 1 ∧ ks = ([] : List Str) then some [.inl 0] else none
def sh_is_rising (n : Nat) (ks : List Str) : Option Shape := if n = 1 ∧ ks = ([] : List Str) then some [.inl 0] else none
def sh_is_sized (n : Nat) (ks : List Str) : Option Shape := if n = 1 ∧ ks = ([] : List Str) then some [.inl 0] else none
def sh_majority_table (n : Nat) (ks : List Str) : Option Shape := if n = 1 ∧ ks = ([] : List Str) then some [.inl 0] else none
def sh_count_rising (n : Nat) (ks : List Str) : Option Shape := if n = 1 ∧ ks = ([] : List Str) then some [.inl 0] else none
def sh__law_draws (n : Nat) (ks : List Str) : Option Shape := if n = 1 ∧ ks = ([] : List Str) then some [.inl 0] else none
def sh__law_take (n : Nat) (ks : List Str) : Option Shape := if n = 2 ∧ ks = ([] : List Str) then some [.inl 0, .inl 1] else none
def sh__law_int (n : Nat) (ks : List Str) : Option Shape := if n = 1 ∧ ks = ([] : List Str) then some [.inl 0] else none
def sh__law_bool (n : Nat) (ks : List Str) : Option Shape := if n = 2 ∧ ks = ([] : List Str) then some [.inl 0, .inl 1] else none
def sh__law_bits (n : Nat) (ks : List Str) : Option Shape := if n = 1 ∧ ks = ([] : List Str) then some [.inl 0] else none
def sh__law_in (n : Nat) (ks : List Str) : Option Shape := if n = 2 ∧ ks = ([] : List Str) then some [.inl 0, .inl 1] else none
def sh__law_size (n : Nat) (ks : List Str) : Option Shape := if n = 1 ∧ ks = ([] : List Str) then some [.inl 0] else none
def sh__law_dual (n : Nat) (ks : List Str) : Option Shape := if n = 1 ∧ ks = ([] : List Str) then some [.inl 0] else none
def sh__law_flat (n : Nat) (ks : List Str) : Option Shape := if n = 1 ∧ ks = ([] : List Str) then some [.inl 0] else none
def sh__law_table (n : Nat) (ks : List Str) : Option Shape := if n = 2 ∧ ks = ([] : List Str) then some [.inl 0, .inl 1] else none
def sh__law_row_told (n : Nat) (ks : List Str) : Option Shape := if n = 2 ∧ ks = ([] : List Str) then some [.inl 0, .inl 1] else none
def sh__law_power (n : Nat) (ks : List Str) : Option Shape := if n = 1 ∧ ks = ([] : List Str) then some [.inl 0] else none
def sh__law_falls (n : Nat) (ks : List Str) : Option Shape := if n = 2 ∧ ks = ([] : List Str) then some [.inl 0, .inl 1] else none
def sh__law_heard (n : Nat) (ks : List Str) : Option Shape := if n = 2 ∧ ks = ([] : List Str) then some [.inl 0, .inl 1] else none
def sh__law_by_size (n : Nat) (ks : List Str) : Option Shape := if n = 1 ∧ ks = ([] : List Str) then some [.inl 0] else none
def sh__law_follows (n : Nat) (ks : List Str) : Option Shape := if n = 2 ∧ ks = ([] : List Str) then some [.inl 0, .inl 1] else none
def sh__law_looked_at (n : Nat) (ks : List Str) : Option Shape := if n = 2 ∧ ks = ([] : List Str) then some [.inl 0, .inl 1] else none
def sh__law_each_voter (n : Nat) (ks : List Str) : Option Shape := if n = 1 ∧ ks = ([] : List Str) then some [.inl 0] else none
def sh__law_sets (n : Nat) (ks : List Str) : Option Shape := if n = 2 ∧ ks = ([] : List Str) then some [.inl 0, .inl 1] else none
def sh__law_wider (n : Nat) (ks : List Str) : Option Shape := if n = 1 ∧ ks = ([] : List Str) then some [.inl 0] else none
def sh__law_rising (n : Nat) (ks : List Str) : Option Shape := if n = 1 ∧ ks = ([] : List Str) then some [.inl 0] else none
def sh__law_most (n : Nat) (ks : List Str) : Option Shape := if n = 1 ∧ ks = ([] : List Str) then some [.inl 0] else none
def sh__law_door (n : Nat) (ks : List Str) : Option Shape := if n = 3 ∧ ks = ([] : List Str) then some [.inl 0, .inl 1, .inl 2] else none
def sh__law_refused (n : Nat) (ks : List Str) : Option Shape := if n = 3 ∧ ks = ([] : List Str) then some [.inl 0, .inl 1, .inl 2] else none
def sh_law (n : Nat) (ks : List Str) : Option Shape := none
def shape0 (g : Str) (n : Nat) (ks : List Str) : Option Shape := if g = "is_integer" then sh_is_integer n ks else if g = "is_thing" then sh_is_thing n ks else if g = "number_of_kind" then sh_number_of_kind n ks else if g = "first_bad" then sh_first_bad n ks else if g = "lot_of" then sh_lot_of n ks else if g = "voters_in" then sh_voters_in n ks else if g = "entries_in" then sh_entries_in n ks else if g = "table_of" then sh_table_of n ks else if g = "any_table" then sh_any_table n ks else if g = "set_number" then sh_set_number n ks else if g = "set_of" then sh_set_of n ks else if g = "dual_of" then sh_dual_of n ks else if g = "is_flat" then sh_is_flat n ks else if g = "following" then sh_following n ks else if g = "followed" then sh_followed n ks else if g = "heard_in" then sh_heard_in n ks else if g = "first_fall" then sh_first_fall n ks else if g = "is_rising" then sh_is_rising n ks else if g = "is_sized" then sh_is_sized n ks else if g = "majority_table" then sh_majority_table n ks else if g = "count_rising" then sh_count_rising n ks else if g = "_law_draws" then sh__law_draws n ks else if g = "_law_take" then sh__law_take n ks else if g = "_law_int" then sh__law_int n ks else if g = "_law_bool" then sh__law_bool n ks else if g = "_law_bits" then sh__law_bits n ks else if g = "_law_in" then sh__law_in n ks else if g = "_law_size" then sh__law_size n ks else if g = "_law_dual" then sh__law_dual n ks else if g = "_law_flat" then sh__law_flat n ks else if g = "_law_table" then sh__law_table n ks else if g = "_law_row_told" then sh__law_row_told n ks else if g = "_law_power" then sh__law_power n ks else if g = "_law_falls" then sh__law_falls n ks else if g = "_law_heard" then sh__law_heard n ks else if g = "_law_by_size" then sh__law_by_size n ks else if g = "_law_follows" then sh__law_follows n ks else if g = "_law_looked_at" then sh__law_looked_at n ks else if g = "_law_each_voter" then sh__law_each_voter n ks else if g = "_law_sets" then sh__law_sets n ks else if g = "_law_wider" then sh__law_wider n ks else if g = "_law_rising" then sh__law_rising n ks else if g = "_law_most" then sh__law_most n ks else if g = "_law_door" then sh__law_door n ks else if g = "_law_refused" then sh__law_refused n ks else if g = "law" then sh_law n ks else none
def byref0 (g : Str) (k : Nat) : Bool := (g = "_law_take" && k == 0) || (g = "_law_table" && k == 0) || (g = "_law_refused" && k == 0)
def cst0 (x : Str) : Option D := if x = "MOST_VOTERS" then some (.int 5) else none
def blt0 (x : Str) : Bool := x = "all" || x = "any" || x = "bool" || x = "enumerate" || x = "int" || x = "isinstance" || x = "len" || x = "list" || x = "max" || x = "min" || x = "range" || x = "reversed" || x = "sorted" || x = "str" || x = "sum" || x = "tuple"
def B0 : Ev := { N := [], np := 0, cst := cst0, shape := shape0, byref := byref0, call := fun _ _ => .stuck, exs := exs0, blt := blt0 }
def tab0 (g : Str) : Option DefI := if g = "is_integer" then some d_is_integer else if g = "is_thing" then some d_is_thing else if g = "number_of_kind" then some d_number_of_kind else if g = "first_bad" then some d_first_bad else if g = "lot_of" then some d_lot_of else if g = "voters_in" then some d_voters_in else if g = "entries_in" then some d_entries_in else if g = "table_of" then some d_table_of else if g = "any_table" then some d_any_table else if g = "set_number" then some d_set_number else if g = "set_of" then some d_set_of else if g = "dual_of" then some d_dual_of else if g = "is_flat" then some d_is_flat else if g = "following" then some d_following else if g = "followed" then some d_followed else if g = "heard_in" then some d_heard_in else if g = "first_fall" then some d_first_fall else if g = "is_rising" then some d_is_rising else if g = "is_sized" then some d_is_sized else if g = "majority_table" then some d_majority_table else if g = "count_rising" then some d_count_rising else if g = "_law_draws" then some d__law_draws else if g = "_law_take" then some d__law_take else if g = "_law_int" then some d__law_int else if g = "_law_bool" then some d__law_bool else if g = "_law_bits" then some d__law_bits else if g = "_law_in" then some d__law_in else if g = "_law_size" then some d__law_size else if g = "_law_dual" then some d__law_dual else if g = "_law_flat" then some d__law_flat else if g = "_law_table" then some d__law_table else if g = "_law_row_told" then some d__law_row_told else if g = "_law_power" then some d__law_power else if g = "_law_falls" then some d__law_falls else if g = "_law_heard" then some d__law_heard else if g = "_law_by_size" then some d__law_by_size else if g = "_law_follows" then some d__law_follows else if g = "_law_looked_at" then some d__law_looked_at else if g = "_law_each_voter" then some d__law_each_voter else if g = "_law_sets" then some d__law_sets else if g = "_law_wider" then some d__law_wider else if g = "_law_rising" then some d__law_rising else if g = "_law_most" then some d__law_most else if g = "_law_door" then some d__law_door else if g = "_law_refused" then some d__law_refused else if g = "law" then some d_law else none
def nm : Nat → Str
  | 0 => "is_integer"
  | 1 => "is_thing"
  | 2 => "number_of_kind"
  | 3 => "first_bad"
  | 4 => "lot_of"
  | 5 => "voters_in"
  | 6 => "entries_in"
  | 7 => "table_of"
  | 8 => "any_table"
  | 9 => "set_number"
  | 10 => "set_of"
  | 11 => "dual_of"
  | 12 => "is_flat"
  | 13 => "following"
  | 14 => "followed"
  | 15 => "heard_in"
  | 16 => "first_fall"
  | 17 => "is_rising"
  | 18 => "is_sized"
  | 19 => "majority_table"
  | 20 => "count_rising"
  | 21 => "_law_draws"
  | 22 => "_law_take"
  | 23 => "_law_int"
  | 24 => "_law_bool"
  | 25 => "_law_bits"
  | 26 => "_law_in"
  | 27 => "_law_size"
  | 28 => "_law_dual"
  | 29 => "_law_flat"
  | 30 => "_law_table"
  | 31 => "_law_row_told"
  | 32 => "_law_power"
  | 33 => "_law_falls"
  | 34 => "_law_heard"
  | 35 => "_law_by_size"
  | 36 => "_law_follows"
  | 37 => "_law_looked_at"
  | 38 => "_law_each_voter"
  | 39 => "_law_sets"
  | 40 => "_law_wider"
  | 41 => "_law_rising"
  | 42 => "_law_most"
  | 43 => "_law_door"
  | 44 => "_law_refused"
  | 45 => "law"
  | _ => ""
abbrev E_is_integer (call : Str → List T → CRes) : Ev := evOf B0 call d_is_integer
def b_is_integer (call : CN) : M Flo :=
  (seqM (sRet (vP (pAnd (pIsiN 0 (pS 0)) (pNot (pIsiN 1 (pS 0)))))) sN)
theorem c_is_integer (call : Str → List T → CRes) : evSs (E_is_integer call) d_is_integer.scope 60 d_is_integer.body = b_is_integer (fun i => call (nm i)) := by simp only [b_is_integer, pIsiN_0, pIsiN_1, pIsiN_2, pIsiN_3, pIsiN_4, pIsiTN_34]; rfl
def u_is_integer (call : CN) (ts : List T) : CRes := runB 1 1 [] (b_is_integer call) ts
theorem r_is_integer (k : Nat) (ts : List T) : callN B0 tab0 60 (k + 1) "is_integer" ts = u_is_integer (fun i => callN B0 tab0 60 k (nm i)) ts := run_eq rfl (c_is_integer _)
abbrev E_is_thing (call : Str → List T → CRes) : Ev := evOf B0 call d_is_thing
def b_is_thing (call : CN) : M Flo :=
  (seqM (sRet (cAnd (cCallI (call 0) 1 0 (asC (aV (vN 1)) asN) vsN [.inl 0]) (vP (pCmp2 .LtE .Lt (pK (.int 0)) (pS 1) (pS 0))))) sN)
theorem c_is_thing (call : Str → List T → CRes) : evSs (E_is_thing call) d_is_thing.scope 60 d_is_thing.body = b_is_thing (fun i => call (nm i)) := by rfl
def u_is_thing (call : CN) (ts : List T) : CRes := runB 2 2 [] (b_is_thing call) ts
theorem r_is_thing (k : Nat) (ts : List T) : callN B0 tab0 60 (k + 1) "is_thing" ts = u_is_thing (fun i => callN B0 tab0 60 k (nm i)) ts := run_eq rfl (c_is_thing _)
abbrev E_number_of_kind (call : Str → List T → CRes) : Ev := evOf B0 call d_number_of_kind
def b_number_of_kind (call : CN) : M Flo :=
  (seqM (sIf (kOr (kNot (kC (cCallI (call 0) 1 0 (asC (aV (vN 0)) asN) vsN [.inl 0]))) (kP (pNot (pCmp2 .LtE .LtE (pS 1) (pS 0) (pS 2))))) (seqM (sRaise "BadNumber" "name" (vN 3)) sN) sN) (seqM (sRet (vN 0)) sN))
theorem c_number_of_kind (call : Str → List T → CRes) : evSs (E_number_of_kind call) d_number_of_kind.scope 60 d_number_of_kind.body = b_number_of_kind (fun i => call (nm i)) := by rfl
def u_number_of_kind (call : CN) (ts : List T) : CRes := runB 4 4 [] (b_number_of_kind call) ts
theorem r_number_of_kind (k : Nat) (ts : List T) : callN B0 tab0 60 (k + 1) "number_of_kind" ts = u_number_of_kind (fun i => callN B0 tab0 60 k (nm i)) ts := run_eq rfl (c_number_of_kind _)
abbrev E_first_bad (call : Str → List T → CRes) : Ev := evOf B0 call d_first_bad
def b_first_bad_L1 (call : CN) : M Flo :=
  (seqM (sIf (kOr (kNot (kC (cCallI (call 1) 2 0 (asC (aV (vN 0)) (asC (aV (vN 4)) asN)) vsN [.inl 0, .inl 1]))) (kP (pCmp .In (pS 4) (pS 2)))) (seqM (sRetN 3) sN) sN) (seqM (sSub 2 (vP (pK (.bl true))) (oP (pS 4))) sN))
def b_first_bad (call : CN) : M Flo :=
  (seqM (sAsg 2 cDic) (seqM (sFor (.inr [3, 4]) [] (srEn (wkP (pS 1) (some 1) (some 1))) (b_first_bad_L1 call)) (seqM (sRet (vP (pK .non))) sN)))
theorem c_first_bad (call : Str → List T → CRes) : evSs (E_first_bad call) d_first_bad.scope 60 d_first_bad.body = b_first_bad (fun i => call (nm i)) := by rfl
def u_first_bad (call : CN) (ts : List T) : CRes := runB 2 5 [2, 3, 4] (b_first_bad call) ts
theorem r_first_bad (k : Nat) (ts : List T) : callN B0 tab0 60 (k + 1) "first_bad" ts = u_first_bad (fun i => callN B0 tab0 60 k (nm i)) ts := run_eq rfl (c_first_bad _)
abbrev E_lot_of (call : Str → List T → CRes) : Ev := evOf B0 call d_lot_of
def b_lot_of (call : CN) : M Flo :=
  (seqM (sIf (kP (pOr (pNot (pIsiTN [3, 4] (pS 1))) (pAnd (pNot (pS 1)) (pNot (pS 2))))) (seqM (sRaise "BadLot" "place" (vP (pNeg (pK (.int 1))))) sN) sN) (seqM (sAsg 3 (cCallI (call 3) 2 0 (asC (aV (vN 0)) (asC (aV (vN 1)) asN)) vsN [.inl 0, .inl 1])) (seqM (sIf (kP (pCmp .IsNot (pS 3) (pK .non))) (seqM (sRaise "BadLot" "place" (vN 3)) sN) sN) (seqM (sRet (cB1 "tuple" (oC (cB1 "sorted" (oP (pS 1)))))) sN))))
theorem c_lot_of (call : Str → List T → CRes) : evSs (E_lot_of call) d_lot_of.scope 60 d_lot_of.body = b_lot_of (fun i => call (nm i)) := by simp only [b_lot_of, pIsiN_0, pIsiN_1, pIsiN_2, pIsiN_3, pIsiN_4, pIsiTN_34]; rfl
def u_lot_of (call : CN) (ts : List T) : CRes := runB 3 4 [3] (b_lot_of call) ts
theorem r_lot_of (k : Nat) (ts : List T) : callN B0 tab0 60 (k + 1) "lot_of" ts = u_lot_of (fun i => callN B0 tab0 60 k (nm i)) ts := run_eq rfl (c_lot_of _)
abbrev E_voters_in (call : Str → List T → CRes) : Ev := evOf B0 call d_voters_in
def b_voters_in (call : CN) : M Flo :=
  (seqM (sRet (cCallI (call 2) 4 0 (asC (aV (vN 0)) (asC (aV (vP (pK (.int 1)))) (asC (aV (vP (pK (.int 5)))) (asC (aV (vP (pK (.str "voters")))) asN)))) vsN [.inl 0, .inl 1, .inl 2, .inl 3])) sN)
theorem c_voters_in (call : Str → List T → CRes) : evSs (E_voters_in call) d_voters_in.scope 60 d_voters_in.body = b_voters_in (fun i => call (nm i)) := by rfl
def u_voters_in (call : CN) (ts : List T) : CRes := runB 1 1 [] (b_voters_in call) ts
theorem r_voters_in (k : Nat) (ts : List T) : callN B0 tab0 60 (k + 1) "voters_in" ts = u_voters_in (fun i => callN B0 tab0 60 k (nm i)) ts := run_eq rfl (c_voters_in _)
abbrev E_entries_in (call : Str → List T → CRes) : Ev := evOf B0 call d_entries_in
def b_entries_in_L1 (call : CN) : M Flo :=
  (seqM (sIf (kOr (kNot (kC (cCallI (call 0) 1 0 (asC (aV (vN 3)) asN) vsN [.inl 0]))) (kP (pNot (pCmp2 .LtE .LtE (pK (.int 0)) (pS 3) (pK (.int 1)))))) (seqM (sRaise "BadTable" "place" (vN 2)) sN) sN) sN)
def b_entries_in (call : CN) : M Flo :=
  (seqM (sIf (kP (pOr (pNot (pIsiTN [3, 4] (pS 1))) (pCmp .NotEq (pLen (pS 1)) (pS 0)))) (seqM (sRaise "BadTable" "place" (vP (pNeg (pK (.int 1))))) sN) sN) (seqM (sFor (.inr [2, 3]) [] (srEn (wkP (pS 1) (some 1) (some 1))) (b_entries_in_L1 call)) (seqM (sRet (cB1 "tuple" (oP (pS 1)))) sN)))
theorem c_entries_in (call : Str → List T → CRes) : evSs (E_entries_in call) d_entries_in.scope 60 d_entries_in.body = b_entries_in (fun i => call (nm i)) := by simp only [b_entries_in, b_entries_in_L1, pIsiN_0, pIsiN_1, pIsiN_2, pIsiN_3, pIsiN_4, pIsiTN_34]; rfl
def u_entries_in (call : CN) (ts : List T) : CRes := runB 2 4 [2, 3] (b_entries_in call) ts
theorem r_entries_in (k : Nat) (ts : List T) : callN B0 tab0 60 (k + 1) "entries_in" ts = u_entries_in (fun i => callN B0 tab0 60 k (nm i)) ts := run_eq rfl (c_entries_in _)
abbrev E_table_of (call : Str → List T → CRes) : Ev := evOf B0 call d_table_of
def b_table_of (call : CN) : M Flo :=
  (seqM (sRet (cCallI (call 6) 2 0 (asC (aV (cBin .LShift (e2 (oP (pK (.int 1))) false (oC (cCallI (call 5) 1 0 (asC (aV (vN 0)) asN) vsN [.inl 0]))))) (asC (aV (vN 1)) asN)) vsN [.inl 0, .inl 1])) sN)
theorem c_table_of (call : Str → List T → CRes) : evSs (E_table_of call) d_table_of.scope 60 d_table_of.body = b_table_of (fun i => call (nm i)) := by rfl
def u_table_of (call : CN) (ts : List T) : CRes := runB 2 2 [] (b_table_of call) ts
theorem r_table_of (k : Nat) (ts : List T) : callN B0 tab0 60 (k + 1) "table_of" ts = u_table_of (fun i => callN B0 tab0 60 k (nm i)) ts := run_eq rfl (c_table_of _)
abbrev E_any_table (call : Str → List T → CRes) : Ev := evOf B0 call d_any_table
def b_any_table_L1 (call : CN) : M Flo :=
  (seqM (sIf (kP (pCmp .Eq (pLen (pS 0)) (pBin .LShift (pK (.int 1)) (pS 1)))) (seqM (sRet (cTup (vsC (cCallI (call 6) 2 0 (asC (aV (vP (pLen (pS 0)))) (asC (aV (vN 0)) asN)) vsN [.inl 0, .inl 1]) (vsC (vN 1) vsN)))) sN) sN) sN)
def b_any_table (call : CN) : M Flo :=
  (seqM (sIf (kP (pIsiTN [3, 4] (pS 0))) (seqM (sFor (.inl 1) [] (srR2 (e2 (oP (pK (.int 1))) true (oP (pBin .Add (pK (.int 5)) (pK (.int 1)))))) (b_any_table_L1 call)) sN) sN) (seqM (sRaise "BadTable" "place" (vP (pNeg (pK (.int 1))))) sN))
theorem c_any_table (call : Str → List T → CRes) : evSs (E_any_table call) d_any_table.scope 60 d_any_table.body = b_any_table (fun i => call (nm i)) := by simp only [b_any_table, b_any_table_L1, pIsiN_0, pIsiN_1, pIsiN_2, pIsiN_3, pIsiN_4, pIsiTN_34]; rfl
def u_any_table (call : CN) (ts : List T) : CRes := runB 1 2 [1] (b_any_table call) ts
theorem r_any_table (k : Nat) (ts : List T) : callN B0 tab0 60 (k + 1) "any_table" ts = u_any_table (fun i => callN B0 tab0 60 k (nm i)) ts := run_eq rfl (c_any_table _)
abbrev E_set_number (call : Str → List T → CRes) : Ev := evOf B0 call d_set_number
def b_set_number_E1 (call : CN) : M T :=
  (vB .LShift (pK (.int 1)) (pS 3))
def b_set_number (call : CN) : M Flo :=
  (seqM (sAsg 2 (cCallI (call 4) 2 1 (asC (aV (cCallI (call 5) 1 0 (asC (aV (vN 0)) asN) vsN [.inl 0])) (asC (aV (vN 1)) asN)) (vsC (vP (pK (.bl true))) vsN) [.inl 0, .inl 1, .inl 2])) (seqM (sRet (cB1 "sum" (oC (cLc [3] (.inl 3) (wkP (pS 2) (some 2) (some 2)) kYes (b_set_number_E1 call))))) sN))
theorem c_set_number (call : Str → List T → CRes) : evSs (E_set_number call) d_set_number.scope 60 d_set_number.body = b_set_number (fun i => call (nm i)) := by rfl
def u_set_number (call : CN) (ts : List T) : CRes := runB 2 4 [2] (b_set_number call) ts
theorem r_set_number (k : Nat) (ts : List T) : callN B0 tab0 60 (k + 1) "set_number" ts = u_set_number (fun i => callN B0 tab0 60 k (nm i)) ts := run_eq rfl (c_set_number _)
abbrev E_set_of (call : Str → List T → CRes) : Ev := evOf B0 call d_set_of
def b_set_of_T1 (call : CN) : M Bool :=
  (kP (pCmp .Eq (pBin .BitAnd (pBin .RShift (pS 1) (pS 2)) (pK (.int 1))) (pK (.int 1))))
def b_set_of_E2 (call : CN) : M T :=
  (vN 2)
def b_set_of (call : CN) : M Flo :=
  (seqM (sExp (cCallI (call 5) 1 0 (asC (aV (vN 0)) asN) vsN [.inl 0])) (seqM (sExp (cCallI (call 2) 4 0 (asC (aV (vN 1)) (asC (aV (vP (pK (.int 0)))) (asC (aV (vB .Sub (pBin .LShift (pK (.int 1)) (pS 0)) (pK (.int 1)))) (asC (aV (vP (pK (.str "number")))) asN)))) vsN [.inl 0, .inl 1, .inl 2, .inl 3])) (seqM (sRet (cB1 "tuple" (oC (cLc [2] (.inl 2) (srR1 (oP (pS 0))) (b_set_of_T1 call) (b_set_of_E2 call))))) sN)))
theorem c_set_of (call : Str → List T → CRes) : evSs (E_set_of call) d_set_of.scope 60 d_set_of.body = b_set_of (fun i => call (nm i)) := by rfl
def u_set_of (call : CN) (ts : List T) : CRes := runB 2 3 [] (b_set_of call) ts
theorem r_set_of (k : Nat) (ts : List T) : callN B0 tab0 60 (k + 1) "set_of" ts = u_set_of (fun i => callN B0 tab0 60 k (nm i)) ts := run_eq rfl (c_set_of _)
abbrev E_dual_of (call : Str → List T → CRes) : Ev := evOf B0 call d_dual_of
def b_dual_of_E1 (call : CN) : M T :=
  (vB .Sub (pK (.int 1)) (pS 3))
def b_dual_of (call : CN) : M Flo :=
  (seqM (sTup (.inr [1, 2]) (cCallI (call 8) 1 0 (asC (aV (vN 0)) asN) vsN [.inl 0])) (seqM (sRet (cB1 "tuple" (oC (cLc [3] (.inl 3) (wkC (cRev (oP (pS 1)))) kYes (b_dual_of_E1 call))))) sN))
theorem c_dual_of (call : Str → List T → CRes) : evSs (E_dual_of call) d_dual_of.scope 60 d_dual_of.body = b_dual_of (fun i => call (nm i)) := by rfl
def u_dual_of (call : CN) (ts : List T) : CRes := runB 1 4 [1, 2] (b_dual_of call) ts
theorem r_dual_of (k : Nat) (ts : List T) : callN B0 tab0 60 (k + 1) "dual_of" ts = u_dual_of (fun i => callN B0 tab0 60 k (nm i)) ts := run_eq rfl (c_dual_of _)
abbrev E_is_flat (call : Str → List T → CRes) : Ev := evOf B0 call d_is_flat
def b_is_flat (call : CN) : M Flo :=
  (seqM (sTup (.inr [1, 2]) (cCallI (call 8) 1 0 (asC (aV (vN 0)) asN) vsN [.inl 0])) (seqM (sRet (cCmp .Eq (e2 (oC (cMeth "count" 1 1 (vsC (vP (pSub (pS 1) (pK (.int 0)))) vsN))) true (oP (pLen (pS 1)))))) sN))
theorem c_is_flat (call : Str → List T → CRes) : evSs (E_is_flat call) d_is_flat.scope 60 d_is_flat.body = b_is_flat (fun i => call (nm i)) := by rfl
def u_is_flat (call : CN) (ts : List T) : CRes := runB 1 3 [1, 2] (b_is_flat call) ts
theorem r_is_flat (k : Nat) (ts : List T) : callN B0 tab0 60 (k + 1) "is_flat" ts = u_is_flat (fun i => callN B0 tab0 60 k (nm i)) ts := run_eq rfl (c_is_flat _)
abbrev E_following (call : Str → List T → CRes) : Ev := evOf B0 call d_following
def b_following_E1 (call : CN) : M T :=
  (vP (pIte (pCmp .Eq (pBin .BitAnd (pBin .RShift (pS 4) (pS 1)) (pK (.int 1))) (pK (.int 1))) (pS 3) (pBin .Sub (pK (.int 1)) (pS 3))))
def b_following (call : CN) : M Flo :=
  (seqM (sExp (cCallI (call 5) 1 0 (asC (aV (vN 0)) asN) vsN [.inl 0])) (seqM (sExp (cCallI (call 2) 4 0 (asC (aV (vN 1)) (asC (aV (vP (pK (.int 0)))) (asC (aV (vB .Sub (pS 0) (pK (.int 1)))) (asC (aV (vP (pK (.str "voter")))) asN)))) vsN [.inl 0, .inl 1, .inl 2, .inl 3])) (seqM (sAsg 3 (vP (pIte (pS 2) (pK (.int 1)) (pK (.int 0))))) (seqM (sRet (cB1 "tuple" (oC (cLc [4] (.inl 4) (srR1 (oP (pBin .LShift (pK (.int 1)) (pS 0)))) kYes (b_following_E1 call))))) sN))))
theorem c_following (call : Str → List T → CRes) : evSs (E_following call) d_following.scope 60 d_following.body = b_following (fun i => call (nm i)) := by rfl
def u_following (call : CN) (ts : List T) : CRes := runB 3 5 [3] (b_following call) ts
theorem r_following (k : Nat) (ts : List T) : callN B0 tab0 60 (k + 1) "following" ts = u_following (fun i => callN B0 tab0 60 k (nm i)) ts := run_eq rfl (c_following _)
abbrev E_followed (call : Str → List T → CRes) : Ev := evOf B0 call d_followed
def b_followed_L1 (call : CN) : M Flo :=
  (seqM (sIf (kC (cCmp .Eq (e2 (oP (pS 1)) false (oC (cCallI (call 13) 3 0 (asC (aV (vN 2)) (asC (aV (vN 3)) (asC (aV (vP (pCmp .Eq (pS 4) (pK (.int 1))))) asN))) vsN [.inl 0, .inl 1, .inl 2]))))) (seqM (sRet (vP (pTup [(pS 3), (pS 4)]))) sN) sN) sN)
def b_followed_L2 (call : CN) : M Flo :=
  (seqM (sFor (.inl 4) [] (wkP (pTup [(pK (.int 1)), (pK (.int 0))]) none none) (b_followed_L1 call)) sN)
def b_followed (call : CN) : M Flo :=
  (seqM (sTup (.inr [1, 2]) (cCallI (call 8) 1 0 (asC (aV (vN 0)) asN) vsN [.inl 0])) (seqM (sFor (.inl 3) [4] (srR1 (oP (pS 2))) (b_followed_L2 call)) (seqM (sRet (vP (pK .non))) sN)))
theorem c_followed (call : Str → List T → CRes) : evSs (E_followed call) d_followed.scope 60 d_followed.body = b_followed (fun i => call (nm i)) := by rfl
def u_followed (call : CN) (ts : List T) : CRes := runB 1 5 [1, 2, 3, 4] (b_followed call) ts
theorem r_followed (k : Nat) (ts : List T) : callN B0 tab0 60 (k + 1) "followed" ts = u_followed (fun i => callN B0 tab0 60 k (nm i)) ts := run_eq rfl (c_followed _)
abbrev E_heard_in (call : Str → List T → CRes) : Ev := evOf B0 call d_heard_in
def b_heard_in_E1 (call : CN) : M T :=
  (vP (pCmp .NotEq (pSub (pS 1) (pS 4)) (pSub (pS 1) (pBin .BitXor (pS 4) (pBin .LShift (pK (.int 1)) (pS 3))))))
def b_heard_in_T2 (call : CN) : M Bool :=
  (kC (cB1 "any" (oC (cLc [4] (.inl 4) (srR1 (oP (pLen (pS 1)))) kYes (b_heard_in_E1 call)))))
def b_heard_in_E3 (call : CN) : M T :=
  (vN 3)
def b_heard_in (call : CN) : M Flo :=
  (seqM (sTup (.inr [1, 2]) (cCallI (call 8) 1 0 (asC (aV (vN 0)) asN) vsN [.inl 0])) (seqM (sRet (cB1 "tuple" (oC (cLc [3] (.inl 3) (srR1 (oP (pS 2))) (b_heard_in_T2 call) (b_heard_in_E3 call))))) sN))
theorem c_heard_in (call : Str → List T → CRes) : evSs (E_heard_in call) d_heard_in.scope 60 d_heard_in.body = b_heard_in (fun i => call (nm i)) := by rfl
def u_heard_in (call : CN) (ts : List T) : CRes := runB 1 5 [1, 2] (b_heard_in call) ts
theorem r_heard_in (k : Nat) (ts : List T) : callN B0 tab0 60 (k + 1) "heard_in" ts = u_heard_in (fun i => callN B0 tab0 60 k (nm i)) ts := run_eq rfl (c_heard_in _)
abbrev E_first_fall (call : Str → List T → CRes) : Ev := evOf B0 call d_first_fall
def b_first_fall_L1 (call : CN) : M Flo :=
  (seqM (sIf (kP (pAnd (pCmp .Eq (pS 4) (pK (.int 1))) (pAnd (pCmp .Eq (pBin .BitAnd (pBin .RShift (pS 3) (pS 5)) (pK (.int 1))) (pK (.int 0))) (pCmp .Eq (pSub (pS 1) (pBin .Add (pS 3) (pBin .LShift (pK (.int 1)) (pS 5)))) (pK (.int 0)))))) (seqM (sRet (vP (pTup [(pS 3), (pS 5)]))) sN) sN) sN)
def b_first_fall_L2 (call : CN) : M Flo :=
  (seqM (sFor (.inl 5) [] (srR1 (oP (pS 2))) (b_first_fall_L1 call)) sN)
def b_first_fall (call : CN) : M Flo :=
  (seqM (sTup (.inr [1, 2]) (cCallI (call 8) 1 0 (asC (aV (vN 0)) asN) vsN [.inl 0])) (seqM (sFor (.inr [3, 4]) [5] (srEn (wkP (pS 1) (some 1) (some 1))) (b_first_fall_L2 call)) (seqM (sRet (vP (pK .non))) sN)))
theorem c_first_fall (call : Str → List T → CRes) : evSs (E_first_fall call) d_first_fall.scope 60 d_first_fall.body = b_first_fall (fun i => call (nm i)) := by rfl
def u_first_fall (call : CN) (ts : List T) : CRes := runB 1 6 [1, 2, 3, 4, 5] (b_first_fall call) ts
theorem r_first_fall (k : Nat) (ts : List T) : callN B0 tab0 60 (k + 1) "first_fall" ts = u_first_fall (fun i => callN B0 tab0 60 k (nm i)) ts := run_eq rfl (c_first_fall _)
abbrev E_is_rising (call : Str → List T → CRes) : Ev := evOf B0 call d_is_rising
def b_is_rising (call : CN) : M Flo :=
  (seqM (sRet (cCmp .Is (e2 (oC (cCallI (call 16) 1 0 (asC (aV (vN 0)) asN) vsN [.inl 0])) true (oP (pK .non))))) sN)
theorem c_is_rising (call : Str → List T → CRes) : evSs (E_is_rising call) d_is_rising.scope 60 d_is_rising.body = b_is_rising (fun i => call (nm i)) := by rfl
def u_is_rising (call : CN) (ts : List T) : CRes := runB 1 1 [] (b_is_rising call) ts
theorem r_is_rising (k : Nat) (ts : List T) : callN B0 tab0 60 (k + 1) "is_rising" ts = u_is_rising (fun i => callN B0 tab0 60 k (nm i)) ts := run_eq rfl (c_is_rising _)
abbrev E_is_sized (call : Str → List T → CRes) : Ev := evOf B0 call d_is_sized
def b_is_sized_L1 (call : CN) : M Flo :=
  (seqM (sAsg 6 (cB1 "len" (oC (cCallI (call 10) 2 0 (asC (aV (vN 2)) (asC (aV (vN 4)) asN)) vsN [.inl 0, .inl 1])))) (seqM (sIf (kC (cCmp .NotEq (e2 (oC (cMeth "setdefault" 3 2 (vsC (vN 6) (vsC (vN 5) vsN)))) true (oP (pS 5))))) (seqM (sRet (vP (pK (.bl false)))) sN) sN) sN))
def b_is_sized (call : CN) : M Flo :=
  (seqM (sTup (.inr [1, 2]) (cCallI (call 8) 1 0 (asC (aV (vN 0)) asN) vsN [.inl 0])) (seqM (sAsg 3 cDic) (seqM (sFor (.inr [4, 5]) [6] (srEn (wkP (pS 1) (some 1) (some 1))) (b_is_sized_L1 call)) (seqM (sRet (vP (pK (.bl true)))) sN))))
theorem c_is_sized (call : Str → List T → CRes) : evSs (E_is_sized call) d_is_sized.scope 60 d_is_sized.body = b_is_sized (fun i => call (nm i)) := by rfl
def u_is_sized (call : CN) (ts : List T) : CRes := runB 1 7 [1, 2, 3, 4, 5, 6] (b_is_sized call) ts
theorem r_is_sized (k : Nat) (ts : List T) : callN B0 tab0 60 (k + 1) "is_sized" ts = u_is_sized (fun i => callN B0 tab0 60 k (nm i)) ts := run_eq rfl (c_is_sized _)
abbrev E_majority_table (call : Str → List T → CRes) : Ev := evOf B0 call d_majority_table
def b_majority_table_E1 (call : CN) : M T :=
  (cIte (kC (cCmp .Gt (e2 (oC (cBin .Mult (e2 (oP (pK (.int 2))) false (oC (cB1 "len" (oC (cCallI (call 10) 2 0 (asC (aV (vN 0)) (asC (aV (vN 1)) asN)) vsN [.inl 0, .inl 1]))))))) true (oP (pS 0))))) (vP (pK (.int 1))) (vP (pK (.int 0))))
def b_majority_table (call : CN) : M Flo :=
  (seqM (sExp (cCallI (call 5) 1 0 (asC (aV (vN 0)) asN) vsN [.inl 0])) (seqM (sIf (kP (pCmp .Eq (pBin .Mod (pS 0) (pK (.int 2))) (pK (.int 0)))) (seqM (sRaise "BadNumber" "name" (vP (pK (.str "voters")))) sN) sN) (seqM (sRet (cB1 "tuple" (oC (cLc [1] (.inl 1) (srR1 (oP (pBin .LShift (pK (.int 1)) (pS 0)))) kYes (b_majority_table_E1 call))))) sN)))
theorem c_majority_table (call : Str → List T → CRes) : evSs (E_majority_table call) d_majority_table.scope 60 d_majority_table.body = b_majority_table (fun i => call (nm i)) := by rfl
def u_majority_table (call : CN) (ts : List T) : CRes := runB 1 2 [] (b_majority_table call) ts
theorem r_majority_table (k : Nat) (ts : List T) : callN B0 tab0 60 (k + 1) "majority_table" ts = u_majority_table (fun i => callN B0 tab0 60 k (nm i)) ts := run_eq rfl (c_majority_table _)
abbrev E_count_rising (call : Str → List T → CRes) : Ev := evOf B0 call d_count_rising
def b_count_rising_T1 (call : CN) : M Bool :=
  (kP (pCmp .Eq (pBin .BitAnd (pS 4) (pS 5)) (pS 4)))
def b_count_rising_E2 (call : CN) : M T :=
  (vN 4)
def b_count_rising_T3 (call : CN) : M Bool :=
  (kP (pCmp .Eq (pBin .BitAnd (pS 4) (pS 5)) (pS 4)))
def b_count_rising_E4 (call : CN) : M T :=
  (vB .Add (pS 4) (pBin .LShift (pS 5) (pS 3)))
def b_count_rising_L5 (call : CN) : M Flo :=
  (seqM (sAsg 3 (vB .LShift (pK (.int 1)) (pS 2))) (seqM (sAsg 1 (cLc2 [4, 5] (.inl 4) (.inl 5) (wkP (pS 1) (some 1) (some 1)) kYes (wkP (pS 1) (some 1) (some 1)) (b_count_rising_T3 call) (b_count_rising_E4 call))) sN))
def b_count_rising (call : CN) : M Flo :=
  (seqM (sExp (cCallI (call 5) 1 0 (asC (aV (vN 0)) asN) vsN [.inl 0])) (seqM (sAsg 1 (cLst (vsC (vP (pK (.int 0))) (vsC (vP (pK (.int 1))) vsN)))) (seqM (sFor (.inl 2) [3, 1] (srR1 (oP (pBin .Sub (pS 0) (pK (.int 1))))) (b_count_rising_L5 call)) (seqM (sRet (cB1 "len" (oC (cLc2 [4, 5] (.inl 4) (.inl 5) (wkP (pS 1) (some 1) (some 1)) kYes (wkP (pS 1) (some 1) (some 1)) (b_count_rising_T1 call) (b_count_rising_E2 call))))) sN))))
theorem c_count_rising (call : Str → List T → CRes) : evSs (E_count_rising call) d_count_rising.scope 60 d_count_rising.body = b_count_rising (fun i => call (nm i)) := by rfl
def u_count_rising (call : CN) (ts : List T) : CRes := runB 1 6 [1, 2, 3, 1] (b_count_rising call) ts
theorem r_count_rising (k : Nat) (ts : List T) : callN B0 tab0 60 (k + 1) "count_rising" ts = u_count_rising (fun i => callN B0 tab0 60 k (nm i)) ts := run_eq rfl (c_count_rising _)
abbrev E__law_draws (call : Str → List T → CRes) : Ev := evOf B0 call d__law_draws
def b__law_draws_L1 (call : CN) : M Flo :=
  (seqM (sIf (kP (pCmp .Gt (pS 4) (pK (.int 0)))) (seqM (sExp (cMeth "append" 1 1 (vsC (cBin .Mod (e2 (oC (cB1 "int" (oP (pS 4)))) true (oP (pK (.int 24))))) vsN))) (seqM (sAsg 4 (vB .FloorDiv (pS 4) (pK (.int 24)))) sN)) sN) sN)
def b__law_draws_L2 (call : CN) : M Flo :=
  (seqM (sAsg 6 (cBin .Mod (e2 (oC (cB1 "int" (oP (pBin .Add (pBin .Add (pBin .Mult (pS 6) (pBin .Add (pBin .Add (pS 6) (pBin .Mult (pK (.int 2)) (pS 5))) (pK (.int 3)))) (pBin .Mult (pS 2) (pK (.int 7919)))) (pK (.int 11)))))) true (oP (pK (.int 2147483587)))))) (seqM (sExp (cMeth "append" 1 1 (vsC (vB .FloorDiv (pS 6) (pK (.int 64))) vsN))) sN))
def b__law_draws_L3 (call : CN) : M Flo :=
  (seqM (sAsg 4 (cB1 "int" (oP (pS 3)))) (seqM (sAsg 2 (vB .Add (pS 2) (pK (.int 1)))) (seqM (sIf (kP (pCmp .Lt (pS 4) (pK (.int 0)))) (seqM (sAsg 4 (vB .Sub (pK (.int 3)) (pBin .Mult (pK (.int 2)) (pS 4)))) sN) sN) (seqM (sIf (kP (pCmp .GtE (pS 4) (pBin .Pow (pK (.int 10)) (pK (.int 18))))) (seqM (sFor (.inl 5) [4] (srR1 (oP (pK (.int 60)))) (b__law_draws_L1 call)) sN) (seqM (sAsg 6 (cBin .Mod (e2 (oC (cB1 "int" (oP (pBin .Add (pBin .Add (pBin .Mult (pS 4) (pK (.int 69069))) (pBin .Mult (pS 2) (pK (.int 40503)))) (pK (.int 17)))))) true (oP (pK (.int 2147483629)))))) (seqM (sFor (.inl 5) [6] (srR1 (oP (pK (.int 5)))) (b__law_draws_L2 call)) sN))) sN))))
def b__law_draws (call : CN) : M Flo :=
  (seqM (sAsg 1 (cLst vsN)) (seqM (sAsg 2 (vP (pK (.int 0)))) (seqM (sFor (.inl 3) [4, 2, 4, 5, 4, 6, 5, 6] (wkC (cCut (oP (pS 0)) nN (nP (pK (.int 63))))) (b__law_draws_L3 call)) (seqM (sExp (cMeth "reverse" 1 0 vsN)) (seqM (sRetN 1) sN)))))
theorem c__law_draws (call : Str → List T → CRes) : evSs (E__law_draws call) d__law_draws.scope 60 d__law_draws.body = b__law_draws (fun i => call (nm i)) := by rfl
def u__law_draws (call : CN) (ts : List T) : CRes := runB 1 7 [1, 2, 3, 4, 2, 4, 5, 4, 6, 5, 6] (b__law_draws call) ts
theorem r__law_draws (k : Nat) (ts : List T) : callN B0 tab0 60 (k + 1) "_law_draws" ts = u__law_draws (fun i => callN B0 tab0 60 k (nm i)) ts := run_eq rfl (c__law_draws _)
abbrev E__law_take (call : Str → List T → CRes) : Ev := evOf B0 call d__law_take
def b__law_take (call : CN) : M Flo :=
  (seqM (sIf (kP (pCmp .Eq (pLen (pS 0)) (pK (.int 0)))) (seqM (sRet (vP (pK (.int 0)))) sN) sN) (seqM (sRet (cBin .Mod (e2 (oC (cB1 "int" (oC (cMeth "pop" 0 0 vsN)))) true (oP (pS 1))))) sN))
theorem c__law_take (call : Str → List T → CRes) : evSs (E__law_take call) d__law_take.scope 60 d__law_take.body = b__law_take (fun i => call (nm i)) := by rfl
def u__law_take (call : CN) (ts : List T) : CRes := runB 2 2 [] (b__law_take call) ts
theorem r__law_take (k : Nat) (ts : List T) : callN B0 tab0 60 (k + 1) "_law_take" ts = u__law_take (fun i => callN B0 tab0 60 k (nm i)) ts := run_eq rfl (c__law_take _)
abbrev E__law_int (call : Str → List T → CRes) : Ev := evOf B0 call d__law_int
def b__law_int (call : CN) : M Flo :=
  (seqM (sRet (vP (pAnd (pIsiN 0 (pS 0)) (pNot (pIsiN 1 (pS 0)))))) sN)
theorem c__law_int (call : Str → List T → CRes) : evSs (E__law_int call) d__law_int.scope 60 d__law_int.body = b__law_int (fun i => call (nm i)) := by simp only [b__law_int, pIsiN_0, pIsiN_1, pIsiN_2, pIsiN_3, pIsiN_4, pIsiTN_34]; rfl
def u__law_int (call : CN) (ts : List T) : CRes := runB 1 1 [] (b__law_int call) ts
theorem r__law_int (k : Nat) (ts : List T) : callN B0 tab0 60 (k + 1) "_law_int" ts = u__law_int (fun i => callN B0 tab0 60 k (nm i)) ts := run_eq rfl (c__law_int _)
abbrev E__law_bool (call : Str → List T → CRes) : Ev := evOf B0 call d__law_bool
def b__law_bool (call : CN) : M Flo :=
  (seqM (sRet (vP (pAnd (pIsiN 1 (pS 0)) (pCmp .Eq (pS 0) (pS 1))))) sN)
theorem c__law_bool (call : Str → List T → CRes) : evSs (E__law_bool call) d__law_bool.scope 60 d__law_bool.body = b__law_bool (fun i => call (nm i)) := by simp only [b__law_bool, pIsiN_0, pIsiN_1, pIsiN_2, pIsiN_3, pIsiN_4, pIsiTN_34]; rfl
def u__law_bool (call : CN) (ts : List T) : CRes := runB 2 2 [] (b__law_bool call) ts
theorem r__law_bool (k : Nat) (ts : List T) : callN B0 tab0 60 (k + 1) "_law_bool" ts = u__law_bool (fun i => callN B0 tab0 60 k (nm i)) ts := run_eq rfl (c__law_bool _)
abbrev E__law_bits (call : Str → List T → CRes) : Ev := evOf B0 call d__law_bits
def b__law_bits_L1 (call : CN) : M Flo :=
  (seqM (sAsg 1 (vB .Mult (pS 1) (pK (.int 2)))) sN)
def b__law_bits (call : CN) : M Flo :=
  (seqM (sAsg 1 (vP (pK (.int 1)))) (seqM (sFor (.inl 2) [1] (srR1 (oP (pS 0))) (b__law_bits_L1 call)) (seqM (sRetN 1) sN)))
theorem c__law_bits (call : Str → List T → CRes) : evSs (E__law_bits call) d__law_bits.scope 60 d__law_bits.body = b__law_bits (fun i => call (nm i)) := by rfl
def u__law_bits (call : CN) (ts : List T) : CRes := runB 1 3 [1, 2, 1] (b__law_bits call) ts
theorem r__law_bits (k : Nat) (ts : List T) : callN B0 tab0 60 (k + 1) "_law_bits" ts = u__law_bits (fun i => callN B0 tab0 60 k (nm i)) ts := run_eq rfl (c__law_bits _)
abbrev E__law_in (call : Str → List T → CRes) : Ev := evOf B0 call d__law_in
def b__law_in (call : CN) : M Flo :=
  (seqM (sRet (cBin .Mod (e2 (oC (cB1 "int" (oP (pBin .FloorDiv (pS 0) (pSub (pTup [(pK (.int 1)), (pK (.int 2)), (pK (.int 4)), (pK (.int 8)), (pK (.int 16))]) (pS 1)))))) true (oP (pK (.int 2)))))) sN)
theorem c__law_in (call : Str → List T → CRes) : evSs (E__law_in call) d__law_in.scope 60 d__law_in.body = b__law_in (fun i => call (nm i)) := by rfl
def u__law_in (call : CN) (ts : List T) : CRes := runB 2 2 [] (b__law_in call) ts
theorem r__law_in (k : Nat) (ts : List T) : callN B0 tab0 60 (k + 1) "_law_in" ts = u__law_in (fun i => callN B0 tab0 60 k (nm i)) ts := run_eq rfl (c__law_in _)
abbrev E__law_size (call : Str → List T → CRes) : Ev := evOf B0 call d__law_size
def b__law_size_E1 (call : CN) : M T :=
  (cCallI (call 26) 2 0 (asC (aV (vN 0)) (asC (aV (vN 1)) asN)) vsN [.inl 0, .inl 1])
def b__law_size (call : CN) : M Flo :=
  (seqM (sRet (cB1 "sum" (oC (cLc [1] (.inl 1) (srR1 (oP (pK (.int 5)))) kYes (b__law_size_E1 call))))) sN)
theorem c__law_size (call : Str → List T → CRes) : evSs (E__law_size call) d__law_size.scope 60 d__law_size.body = b__law_size (fun i => call (nm i)) := by rfl
def u__law_size (call : CN) (ts : List T) : CRes := runB 1 2 [] (b__law_size call) ts
theorem r__law_size (k : Nat) (ts : List T) : callN B0 tab0 60 (k + 1) "_law_size" ts = u__law_size (fun i => callN B0 tab0 60 k (nm i)) ts := run_eq rfl (c__law_size _)
abbrev E__law_dual (call : Str → List T → CRes) : Ev := evOf B0 call d__law_dual
def b__law_dual_E1 (call : CN) : M T :=
  (vB .Sub (pK (.int 1)) (pS 1))
def b__law_dual (call : CN) : M Flo :=
  (seqM (sRet (cLc [1] (.inl 1) (srRv (wkP (pS 0) (some 0) (some 0))) kYes (b__law_dual_E1 call))) sN)
theorem c__law_dual (call : Str → List T → CRes) : evSs (E__law_dual call) d__law_dual.scope 60 d__law_dual.body = b__law_dual (fun i => call (nm i)) := by rfl
def u__law_dual (call : CN) (ts : List T) : CRes := runB 1 2 [] (b__law_dual call) ts
theorem r__law_dual (k : Nat) (ts : List T) : callN B0 tab0 60 (k + 1) "_law_dual" ts = u__law_dual (fun i => callN B0 tab0 60 k (nm i)) ts := run_eq rfl (c__law_dual _)
abbrev E__law_flat (call : Str → List T → CRes) : Ev := evOf B0 call d__law_flat
def b__law_flat (call : CN) : M Flo :=
  (seqM (sRet (cCmp .In (e2 (oC (cB1 "sum" (oP (pS 0)))) true (oP (pTup [(pK (.int 0)), (pLen (pS 0))]))))) sN)
theorem c__law_flat (call : Str → List T → CRes) : evSs (E__law_flat call) d__law_flat.scope 60 d__law_flat.body = b__law_flat (fun i => call (nm i)) := by rfl
def u__law_flat (call : CN) (ts : List T) : CRes := runB 1 1 [] (b__law_flat call) ts
theorem r__law_flat (k : Nat) (ts : List T) : callN B0 tab0 60 (k + 1) "_law_flat" ts = u__law_flat (fun i => callN B0 tab0 60 k (nm i)) ts := run_eq rfl (c__law_flat _)
abbrev E__law_table (call : Str → List T → CRes) : Ev := evOf B0 call d__law_table
def b__law_table_E1 (call : CN) : M T :=
  (cCallI (call 22) 2 0 (asC (aR 0 (vN 0)) (asC (aV (vP (pK (.int 2)))) asN)) vsN [.inl 0, .inl 1])
def b__law_table_E2 (call : CN) : M T :=
  (cIte (kC (cCmp .Gt (e2 (oC (cCallI (call 27) 1 0 (asC (aV (vN 6)) asN) vsN [.inl 0])) true (oP (pS 3))))) (vP (pK (.int 1))) (vP (pK (.int 0))))
def b__law_table_E3 (call : CN) : M T :=
  (vN 5)
def b__law_table_E4 (call : CN) : M T :=
  (cBin .Sub (e2 (oP (pK (.int 1))) false (oC (cCallI (call 26) 2 0 (asC (aV (vN 6)) (asC (aV (vN 3)) asN)) vsN [.inl 0, .inl 1]))))
def b__law_table_E5 (call : CN) : M T :=
  (cCallI (call 26) 2 0 (asC (aV (vN 6)) (asC (aV (vN 3)) asN)) vsN [.inl 0, .inl 1])
def b__law_table (call : CN) : M Flo :=
  (seqM (sAsg 2 (cCallI (call 22) 2 0 (asC (aR 0 (vN 0)) (asC (aV (vP (pK (.int 6)))) asN)) vsN [.inl 0, .inl 1])) (seqM (sAsg 3 (cCallI (call 22) 2 0 (asC (aR 0 (vN 0)) (asC (aV (vN 1)) asN)) vsN [.inl 0, .inl 1])) (seqM (sAsg 4 (cCallI (call 25) 1 0 (asC (aV (vN 1)) asN) vsN [.inl 0])) (seqM (sIf (kP (pCmp .Eq (pS 2) (pK (.int 0)))) (seqM (sRet (cLc [6] (.inl 6) (srR1 (oP (pS 4))) kYes (b__law_table_E5 call))) sN) sN) (seqM (sIf (kP (pCmp .Eq (pS 2) (pK (.int 1)))) (seqM (sRet (cLc [6] (.inl 6) (srR1 (oP (pS 4))) kYes (b__law_table_E4 call))) sN) sN) (seqM (sIf (kP (pCmp .Eq (pS 2) (pK (.int 2)))) (seqM (sAsg 5 (cCallI (call 22) 2 0 (asC (aR 0 (vN 0)) (asC (aV (vP (pK (.int 2)))) asN)) vsN [.inl 0, .inl 1])) (seqM (sRet (cLc [6] (.inl 6) (srR1 (oP (pS 4))) kYes (b__law_table_E3 call))) sN)) sN) (seqM (sIf (kP (pCmp .Eq (pS 2) (pK (.int 3)))) (seqM (sRet (cLc [6] (.inl 6) (srR1 (oP (pS 4))) kYes (b__law_table_E2 call))) sN) sN) (seqM (sRet (cLc [6] (.inl 6) (srR1 (oP (pS 4))) kYes (b__law_table_E1 call))) sN))))))))
theorem c__law_table (call : Str → List T → CRes) : evSs (E__law_table call) d__law_table.scope 60 d__law_table.body = b__law_table (fun i => call (nm i)) := by rfl
def u__law_table (call : CN) (ts : List T) : CRes := runB 2 7 [2, 3, 4, 5] (b__law_table call) ts
theorem r__law_table (k : Nat) (ts : List T) : callN B0 tab0 60 (k + 1) "_law_table" ts = u__law_table (fun i => callN B0 tab0 60 k (nm i)) ts := run_eq rfl (c__law_table _)
abbrev E__law_row_told (call : Str → List T → CRes) : Ev := evOf B0 call d__law_row_told
def b__law_row_told_E1 (call : CN) : M T :=
  (cCallI (call 23) 1 0 (asC (aV (vN 2)) asN) vsN [.inl 0])
def b__law_row_told (call : CN) : M Flo :=
  (seqM (sIf (kP (pOr (pNot (pIsiN 4 (pS 0))) (pCmp .NotEq (pLen (pS 0)) (pLen (pS 1))))) (seqM (sRet (vP (pK (.bl false)))) sN) sN) (seqM (sRet (cAnd (cB1 "all" (oC (cLc [2] (.inl 2) (wkP (pS 0) (some 0) (some 0)) kYes (b__law_row_told_E1 call)))) (cCmp .Eq (e2 (oC (cB1 "list" (oP (pS 0)))) false (oC (cB1 "list" (oP (pS 1)))))))) sN))
theorem c__law_row_told (call : Str → List T → CRes) : evSs (E__law_row_told call) d__law_row_told.scope 60 d__law_row_told.body = b__law_row_told (fun i => call (nm i)) := by simp only [b__law_row_told, b__law_row_told_E1, pIsiN_0, pIsiN_1, pIsiN_2, pIsiN_3, pIsiN_4, pIsiTN_34]; rfl
def u__law_row_told (call : CN) (ts : List T) : CRes := runB 2 3 [] (b__law_row_told call) ts
theorem r__law_row_told (k : Nat) (ts : List T) : callN B0 tab0 60 (k + 1) "_law_row_told" ts = u__law_row_told (fun i => callN B0 tab0 60 k (nm i)) ts := run_eq rfl (c__law_row_told _)
abbrev E__law_power (call : Str → List T → CRes) : Ev := evOf B0 call d__law_power
def b__law_power (call : CN) : M Flo :=
  (seqM (sRet (vP (pSub (pTup [(pK (.int 1)), (pK (.int 2)), (pK (.int 4)), (pK (.int 8)), (pK (.int 16))]) (pS 0)))) sN)
theorem c__law_power (call : Str → List T → CRes) : evSs (E__law_power call) d__law_power.scope 60 d__law_power.body = b__law_power (fun i => call (nm i)) := by rfl
def u__law_power (call : CN) (ts : List T) : CRes := runB 1 1 [] (b__law_power call) ts
theorem r__law_power (k : Nat) (ts : List T) : callN B0 tab0 60 (k + 1) "_law_power" ts = u__law_power (fun i => callN B0 tab0 60 k (nm i)) ts := run_eq rfl (c__law_power _)
abbrev E__law_falls (call : Str → List T → CRes) : Ev := evOf B0 call d__law_falls
def b__law_falls_L1 (call : CN) : M Flo :=
  (seqM (sIf (kAnd (kC (cCmp .Eq (e2 (oC (cCallI (call 26) 2 0 (asC (aV (vN 3)) (asC (aV (vN 4)) asN)) vsN [.inl 0, .inl 1])) true (oP (pK (.int 0)))))) (kAnd (kP (pCmp .Eq (pSub (pS 0) (pS 3)) (pK (.int 1)))) (kC (cCmp .Eq (e2 (oC (cSub (e2 (oP (pS 0)) false (oC (cBin .Add (e2 (oP (pS 3)) false (oC (cCallI (call 32) 1 0 (asC (aV (vN 4)) asN) vsN [.inl 0])))))))) true (oP (pK (.int 0)))))))) (seqM (sExp (cMeth "append" 2 1 (vsC (vP (pTup [(pS 3), (pS 4)])) vsN))) sN) sN) sN)
def b__law_falls_L2 (call : CN) : M Flo :=
  (seqM (sFor (.inl 4) [] (srR1 (oP (pS 1))) (b__law_falls_L1 call)) sN)
def b__law_falls (call : CN) : M Flo :=
  (seqM (sAsg 2 (cLst vsN)) (seqM (sFor (.inl 3) [4] (srR1 (oP (pLen (pS 0)))) (b__law_falls_L2 call)) (seqM (sRetN 2) sN)))
theorem c__law_falls (call : Str → List T → CRes) : evSs (E__law_falls call) d__law_falls.scope 60 d__law_falls.body = b__law_falls (fun i => call (nm i)) := by rfl
def u__law_falls (call : CN) (ts : List T) : CRes := runB 2 5 [2, 3, 4] (b__law_falls call) ts
theorem r__law_falls (k : Nat) (ts : List T) : callN B0 tab0 60 (k + 1) "_law_falls" ts = u__law_falls (fun i => callN B0 tab0 60 k (nm i)) ts := run_eq rfl (c__law_falls _)
abbrev E__law_heard (call : Str → List T → CRes) : Ev := evOf B0 call d__law_heard
def b__law_heard_L1 (call : CN) : M Flo :=
  (seqM (sIf (kAnd (kC (cCmp .Eq (e2 (oC (cCallI (call 26) 2 0 (asC (aV (vN 4)) (asC (aV (vN 3)) asN)) vsN [.inl 0, .inl 1])) true (oP (pK (.int 0)))))) (kC (cCmp .NotEq (e2 (oP (pSub (pS 0) (pS 4))) false (oC (cSub (e2 (oP (pS 0)) false (oC (cBin .Add (e2 (oP (pS 4)) false (oC (cCallI (call 32) 1 0 (asC (aV (vN 3)) asN) vsN [.inl 0])))))))))))) (seqM (sIf (kP (pCmp .NotIn (pS 3) (pS 2))) (seqM (sExp (cMeth "append" 2 1 (vsC (vN 3) vsN))) sN) sN) sN) sN) sN)
def b__law_heard_L2 (call : CN) : M Flo :=
  (seqM (sFor (.inl 4) [] (srR1 (oP (pLen (pS 0)))) (b__law_heard_L1 call)) sN)
def b__law_heard (call : CN) : M Flo :=
  (seqM (sAsg 2 (cLst vsN)) (seqM (sFor (.inl 3) [4] (srR1 (oP (pS 1))) (b__law_heard_L2 call)) (seqM (sRetN 2) sN)))
theorem c__law_heard (call : Str → List T → CRes) : evSs (E__law_heard call) d__law_heard.scope 60 d__law_heard.body = b__law_heard (fun i => call (nm i)) := by rfl
def u__law_heard (call : CN) (ts : List T) : CRes := runB 2 5 [2, 3, 4] (b__law_heard call) ts
theorem r__law_heard (k : Nat) (ts : List T) : callN B0 tab0 60 (k + 1) "_law_heard" ts = u__law_heard (fun i => callN B0 tab0 60 k (nm i)) ts := run_eq rfl (c__law_heard _)
abbrev E__law_by_size (call : Str → List T → CRes) : Ev := evOf B0 call d__law_by_size
def b__law_by_size_L1 (call : CN) : M Flo :=
  (seqM (sIf (kAnd (kC (cCmp .Eq (e2 (oC (cCallI (call 27) 1 0 (asC (aV (vN 1)) asN) vsN [.inl 0])) false (oC (cCallI (call 27) 1 0 (asC (aV (vN 2)) asN) vsN [.inl 0]))))) (kP (pCmp .NotEq (pSub (pS 0) (pS 1)) (pSub (pS 0) (pS 2))))) (seqM (sRet (vP (pK (.bl false)))) sN) sN) sN)
def b__law_by_size_L2 (call : CN) : M Flo :=
  (seqM (sFor (.inl 2) [] (srR1 (oP (pS 1))) (b__law_by_size_L1 call)) sN)
def b__law_by_size (call : CN) : M Flo :=
  (seqM (sFor (.inl 1) [2] (srR1 (oP (pLen (pS 0)))) (b__law_by_size_L2 call)) (seqM (sRet (vP (pK (.bl true)))) sN))
theorem c__law_by_size (call : Str → List T → CRes) : evSs (E__law_by_size call) d__law_by_size.scope 60 d__law_by_size.body = b__law_by_size (fun i => call (nm i)) := by rfl
def u__law_by_size (call : CN) (ts : List T) : CRes := runB 1 3 [1, 2] (b__law_by_size call) ts
theorem r__law_by_size (k : Nat) (ts : List T) : callN B0 tab0 60 (k + 1) "_law_by_size" ts = u__law_by_size (fun i => callN B0 tab0 60 k (nm i)) ts := run_eq rfl (c__law_by_size _)
abbrev E__law_follows (call : Str → List T → CRes) : Ev := evOf B0 call d__law_follows
def b__law_follows_E1 (call : CN) : M T :=
  (vB .Sub (pK (.int 1)) (pS 5))
def b__law_follows_E2 (call : CN) : M T :=
  (cCallI (call 26) 2 0 (asC (aV (vN 4)) (asC (aV (vN 2)) asN)) vsN [.inl 0, .inl 1])
def b__law_follows_L3 (call : CN) : M Flo :=
  (seqM (sAsg 3 (cLc [4] (.inl 4) (srR1 (oP (pLen (pS 0)))) kYes (b__law_follows_E2 call))) (seqM (sIf (kP (pCmp .Eq (pS 0) (pS 3))) (seqM (sRet (vP (pTup [(pS 2), (pK (.int 1))]))) sN) sN) (seqM (sIf (kC (cCmp .Eq (e2 (oP (pS 0)) false (oC (cLc [5] (.inl 5) (wkP (pS 3) (some 3) (some 3)) kYes (b__law_follows_E1 call)))))) (seqM (sRet (vP (pTup [(pS 2), (pK (.int 0))]))) sN) sN) sN)))
def b__law_follows (call : CN) : M Flo :=
  (seqM (sFor (.inl 2) [3] (srR1 (oP (pS 1))) (b__law_follows_L3 call)) (seqM (sRet (vP (pK .non))) sN))
theorem c__law_follows (call : Str → List T → CRes) : evSs (E__law_follows call) d__law_follows.scope 60 d__law_follows.body = b__law_follows (fun i => call (nm i)) := by rfl
def u__law_follows (call : CN) (ts : List T) : CRes := runB 2 6 [2, 3] (b__law_follows call) ts
theorem r__law_follows (k : Nat) (ts : List T) : callN B0 tab0 60 (k + 1) "_law_follows" ts = u__law_follows (fun i => callN B0 tab0 60 k (nm i)) ts := run_eq rfl (c__law_follows _)
abbrev E__law_looked_at (call : Str → List T → CRes) : Ev := evOf B0 call d__law_looked_at
def b__law_looked_at (call : CN) : M Flo :=
  (seqM (sAsg 2 (cB1 "list" (oP (pS 0)))) (seqM (sAsg 3 (cCallI (call 33) 2 0 (asC (aV (vN 2)) (asC (aV (vN 1)) asN)) vsN [.inl 0, .inl 1])) (seqM (sIf (kOr (kNot (kC (cCallI (call 31) 2 0 (asC (aV (cCallI (call 7) 2 0 (asC (aV (vN 1)) (asC (aV (vN 0)) asN)) vsN [.inl 0, .inl 1])) (asC (aV (vN 2)) asN)) vsN [.inl 0, .inl 1]))) (kNot (kC (cCallI (call 31) 2 0 (asC (aV (cCallI (call 11) 1 0 (asC (aV (cB1 "tuple" (oP (pS 0)))) asN) vsN [.inl 0])) (asC (aV (cCallI (call 28) 1 0 (asC (aV (vN 2)) asN) vsN [.inl 0])) asN)) vsN [.inl 0, .inl 1])))) (seqM (sRet (vP (pK (.bl false)))) sN) sN) (seqM (sIf (kOr (kNot (kC (cCallI (call 24) 2 0 (asC (aV (cCallI (call 12) 1 0 (asC (aV (vN 0)) asN) vsN [.inl 0])) (asC (aV (cCallI (call 29) 1 0 (asC (aV (vN 2)) asN) vsN [.inl 0])) asN)) vsN [.inl 0, .inl 1]))) (kNot (kC (cCallI (call 24) 2 0 (asC (aV (cCallI (call 17) 1 0 (asC (aV (vN 0)) asN) vsN [.inl 0])) (asC (aV (vP (pCmp .Eq (pLen (pS 3)) (pK (.int 0))))) asN)) vsN [.inl 0, .inl 1])))) (seqM (sRet (vP (pK (.bl false)))) sN) sN) (seqM (sIf (kNot (kC (cCallI (call 24) 2 0 (asC (aV (cCallI (call 18) 1 0 (asC (aV (vN 0)) asN) vsN [.inl 0])) (asC (aV (cCallI (call 35) 1 0 (asC (aV (vN 2)) asN) vsN [.inl 0])) asN)) vsN [.inl 0, .inl 1]))) (seqM (sRet (vP (pK (.bl false)))) sN) sN) (seqM (sIf (kNot (kC (cCallI (call 31) 2 0 (asC (aV (cCallI (call 15) 1 0 (asC (aV (vN 0)) asN) vsN [.inl 0])) (asC (aV (cCallI (call 34) 2 0 (asC (aV (vN 2)) (asC (aV (vN 1)) asN)) vsN [.inl 0, .inl 1])) asN)) vsN [.inl 0, .inl 1]))) (seqM (sRet (vP (pK (.bl false)))) sN) sN) (seqM (sAsg 4 (vP (pK .non))) (seqM (sIf (kP (pCmp .Gt (pLen (pS 3)) (pK (.int 0)))) (seqM (sAsg 4 (vP (pSub (pS 3) (pK (.int 0))))) sN) sN) (seqM (sIf (kOr (kC (cCmp .NotEq (e2 (oC (cCallI (call 16) 1 0 (asC (aV (vN 0)) asN) vsN [.inl 0])) true (oP (pS 4))))) (kC (cCmp .NotEq (e2 (oC (cCallI (call 14) 1 0 (asC (aV (vN 0)) asN) vsN [.inl 0])) false (oC (cCallI (call 36) 2 0 (asC (aV (vN 2)) (asC (aV (vN 1)) asN)) vsN [.inl 0, .inl 1])))))) (seqM (sRet (vP (pK (.bl false)))) sN) sN) (seqM (sRet (vP (pCmp .Eq (pS 0) (pS 2)))) sN))))))))))
theorem c__law_looked_at (call : Str → List T → CRes) : evSs (E__law_looked_at call) d__law_looked_at.scope 60 d__law_looked_at.body = b__law_looked_at (fun i => call (nm i)) := by rfl
def u__law_looked_at (call : CN) (ts : List T) : CRes := runB 2 5 [2, 3, 4, 4] (b__law_looked_at call) ts
theorem r__law_looked_at (k : Nat) (ts : List T) : callN B0 tab0 60 (k + 1) "_law_looked_at" ts = u__law_looked_at (fun i => callN B0 tab0 60 k (nm i)) ts := run_eq rfl (c__law_looked_at _)
abbrev E__law_each_voter (call : Str → List T → CRes) : Ev := evOf B0 call d__law_each_voter
def b__law_each_voter_E1 (call : CN) : M T :=
  (vB .Sub (pK (.int 1)) (pS 5))
def b__law_each_voter_E2 (call : CN) : M T :=
  (cCallI (call 26) 2 0 (asC (aV (vN 4)) (asC (aV (vN 1)) asN)) vsN [.inl 0, .inl 1])
def b__law_each_voter_L3 (call : CN) : M Flo :=
  (seqM (sAsg 2 (cLc [4] (.inl 4) (srR1 (oC (cCallI (call 25) 1 0 (asC (aV (vN 0)) asN) vsN [.inl 0]))) kYes (b__law_each_voter_E2 call))) (seqM (sAsg 3 (cLc [5] (.inl 5) (wkP (pS 2) (some 2) (some 2)) kYes (b__law_each_voter_E1 call))) (seqM (sIf (kNot (kC (cCallI (call 31) 2 0 (asC (aV (cCallI (call 13) 2 0 (asC (aV (vN 0)) (asC (aV (vN 1)) asN)) vsN [.inl 0, .inl 1, .inr (.bl true)])) (asC (aV (vN 2)) asN)) vsN [.inl 0, .inl 1]))) (seqM (sRet (vP (pK (.bl false)))) sN) sN) (seqM (sIf (kNot (kC (cCallI (call 31) 2 0 (asC (aV (cCallI (call 13) 3 0 (asC (aV (vN 0)) (asC (aV (vN 1)) (asC (aV (vP (pK (.bl true)))) asN))) vsN [.inl 0, .inl 1, .inl 2])) (asC (aV (vN 2)) asN)) vsN [.inl 0, .inl 1]))) (seqM (sRet (vP (pK (.bl false)))) sN) sN) (seqM (sIf (kNot (kC (cCallI (call 31) 2 0 (asC (aV (cCallI (call 13) 3 0 (asC (aV (vN 0)) (asC (aV (vN 1)) (asC (aV (vP (pK (.bl false)))) asN))) vsN [.inl 0, .inl 1, .inl 2])) (asC (aV (vN 3)) asN)) vsN [.inl 0, .inl 1]))) (seqM (sRet (vP (pK (.bl false)))) sN) sN) (seqM (sIf (kOr (kC (cCmp .NotEq (e2 (oC (cCallI (call 14) 1 0 (asC (aV (vN 2)) asN) vsN [.inl 0])) true (oP (pTup [(pS 1), (pK (.int 1))]))))) (kC (cCmp .NotEq (e2 (oC (cCallI (call 14) 1 0 (asC (aV (cB1 "tuple" (oP (pS 3)))) asN) vsN [.inl 0])) true (oP (pTup [(pS 1), (pK (.int 0))])))))) (seqM (sRet (vP (pK (.bl false)))) sN) sN) sN))))))
def b__law_each_voter (call : CN) : M Flo :=
  (seqM (sFor (.inl 1) [2, 3] (srR1 (oP (pS 0))) (b__law_each_voter_L3 call)) (seqM (sRet (vP (pK (.bl true)))) sN))
theorem c__law_each_voter (call : Str → List T → CRes) : evSs (E__law_each_voter call) d__law_each_voter.scope 60 d__law_each_voter.body = b__law_each_voter (fun i => call (nm i)) := by rfl
def u__law_each_voter (call : CN) (ts : List T) : CRes := runB 1 6 [1, 2, 3] (b__law_each_voter call) ts
theorem r__law_each_voter (k : Nat) (ts : List T) : callN B0 tab0 60 (k + 1) "_law_each_voter" ts = u__law_each_voter (fun i => callN B0 tab0 60 k (nm i)) ts := run_eq rfl (c__law_each_voter _)
abbrev E__law_sets (call : Str → List T → CRes) : Ev := evOf B0 call d__law_sets
def b__law_sets_T1 (call : CN) : M Bool :=
  (kC (cCmp .Eq (e2 (oC (cCallI (call 26) 2 0 (asC (aV (vN 1)) (asC (aV (vN 7)) asN)) vsN [.inl 0, .inl 1])) true (oP (pK (.int 1))))))
def b__law_sets_E2 (call : CN) : M T :=
  (vN 7)
def b__law_sets (call : CN) : M Flo :=
  (seqM (sAsg 2 (cLc [7] (.inl 7) (srR1 (oP (pS 0))) (b__law_sets_T1 call) (b__law_sets_E2 call))) (seqM (sAsg 3 (cCallI (call 10) 2 0 (asC (aV (vN 0)) (asC (aV (vN 1)) asN)) vsN [.inl 0, .inl 1])) (seqM (sIf (kNot (kC (cCallI (call 31) 2 0 (asC (aV (vN 3)) (asC (aV (vN 2)) asN)) vsN [.inl 0, .inl 1]))) (seqM (sRet (vP (pK (.bl false)))) sN) sN) (seqM (sAsg 4 (cB1 "list" (oP (pS 2)))) (seqM (sExp (cMeth "reverse" 4 0 vsN)) (seqM (sAsg 5 (cCallI (call 9) 2 0 (asC (aV (vN 0)) (asC (aV (vN 4)) asN)) vsN [.inl 0, .inl 1])) (seqM (sAsg 6 (cCallI (call 9) 2 0 (asC (aV (vN 0)) (asC (aV (vN 3)) asN)) vsN [.inl 0, .inl 1])) (seqM (sRet (cAnd (cCallI (call 23) 1 0 (asC (aV (vN 5)) asN) vsN [.inl 0]) (cAnd (cCallI (call 23) 1 0 (asC (aV (vN 6)) asN) vsN [.inl 0]) (vP (pAnd (pCmp .Eq (pS 5) (pS 1)) (pCmp .Eq (pS 6) (pS 1))))))) sN))))))))
theorem c__law_sets (call : Str → List T → CRes) : evSs (E__law_sets call) d__law_sets.scope 60 d__law_sets.body = b__law_sets (fun i => call (nm i)) := by rfl
def u__law_sets (call : CN) (ts : List T) : CRes := runB 2 8 [2, 3, 4, 5, 6] (b__law_sets call) ts
theorem r__law_sets (k : Nat) (ts : List T) : callN B0 tab0 60 (k + 1) "_law_sets" ts = u__law_sets (fun i => callN B0 tab0 60 k (nm i)) ts := run_eq rfl (c__law_sets _)
abbrev E__law_wider (call : Str → List T → CRes) : Ev := evOf B0 call d__law_wider
def b__law_wider_E1 (call : CN) : M T :=
  (vP (pCmp .LtE (pSub (pS 2) (pS 4)) (pSub (pS 3) (pS 4))))
def b__law_wider_L2 (call : CN) : M Flo :=
  (seqM (sIf (kC (cB1 "all" (oC (cLc [4] (.inl 4) (srR1 (oP (pLen (pS 2)))) kYes (b__law_wider_E1 call))))) (seqM (sExp (cMeth "append" 1 1 (vsC (vB .Add (pS 2) (pS 3)) vsN))) sN) sN) sN)
def b__law_wider_L3 (call : CN) : M Flo :=
  (seqM (sFor (.inl 3) [] (wkP (pS 0) (some 0) (some 0)) (b__law_wider_L2 call)) sN)
def b__law_wider (call : CN) : M Flo :=
  (seqM (sAsg 1 (cLst vsN)) (seqM (sFor (.inl 2) [3] (wkP (pS 0) (some 0) (some 0)) (b__law_wider_L3 call)) (seqM (sRetN 1) sN)))
theorem c__law_wider (call : Str → List T → CRes) : evSs (E__law_wider call) d__law_wider.scope 60 d__law_wider.body = b__law_wider (fun i => call (nm i)) := by rfl
def u__law_wider (call : CN) (ts : List T) : CRes := runB 1 5 [1, 2, 3] (b__law_wider call) ts
theorem r__law_wider (k : Nat) (ts : List T) : callN B0 tab0 60 (k + 1) "_law_wider" ts = u__law_wider (fun i => callN B0 tab0 60 k (nm i)) ts := run_eq rfl (c__law_wider _)
abbrev E__law_rising (call : Str → List T → CRes) : Ev := evOf B0 call d__law_rising
def b__law_rising_L1 (call : CN) : M Flo :=
  (seqM (sAsg 1 (cCallI (call 40) 1 0 (asC (aV (vN 1)) asN) vsN [.inl 0])) sN)
def b__law_rising (call : CN) : M Flo :=
  (seqM (sAsg 1 (cLst (vsC (cLst (vsC (vP (pK (.int 0))) vsN)) (vsC (cLst (vsC (vP (pK (.int 1))) vsN)) vsN)))) (seqM (sFor (.inl 2) [1] (srR1 (oP (pS 0))) (b__law_rising_L1 call)) (seqM (sRet (vP (pLen (pS 1)))) sN)))
theorem c__law_rising (call : Str → List T → CRes) : evSs (E__law_rising call) d__law_rising.scope 60 d__law_rising.body = b__law_rising (fun i => call (nm i)) := by rfl
def u__law_rising (call : CN) (ts : List T) : CRes := runB 1 3 [1, 2, 1] (b__law_rising call) ts
theorem r__law_rising (k : Nat) (ts : List T) : callN B0 tab0 60 (k + 1) "_law_rising" ts = u__law_rising (fun i => callN B0 tab0 60 k (nm i)) ts := run_eq rfl (c__law_rising _)
abbrev E__law_most (call : Str → List T → CRes) : Ev := evOf B0 call d__law_most
def b__law_most_E1 (call : CN) : M T :=
  (cIte (kC (cCmp .Gt (e2 (oC (cBin .Mult (e2 (oP (pK (.int 2))) false (oC (cCallI (call 27) 1 0 (asC (aV (vN 5)) asN) vsN [.inl 0]))))) true (oP (pS 0))))) (vP (pK (.int 1))) (vP (pK (.int 0))))
def b__law_most (call : CN) : M Flo :=
  (seqM (sAsg 1 (vP (pK .non))) (seqM (sAsg 2 (vP (pK .non))) (seqM (sTry exs0 [⟨"BadNumber", 3, 1, none, "name"⟩] (seqM (sAsg 2 (cCallI (call 19) 1 0 (asC (aV (vN 0)) asN) vsN [.inl 0])) sN)) (seqM (sIf (kC (cCmp .Eq (e2 (oC (cBin .Mod (e2 (oC (cB1 "int" (oP (pS 0)))) true (oP (pK (.int 2)))))) true (oP (pK (.int 0)))))) (seqM (sRet (vP (pAnd (pCmp .Is (pS 2) (pK .non)) (pCmp .Eq (pS 1) (pK (.str "voters")))))) sN) sN) (seqM (sAsg 4 (cLc [5] (.inl 5) (srR1 (oC (cCallI (call 25) 1 0 (asC (aV (vN 0)) asN) vsN [.inl 0]))) kYes (b__law_most_E1 call))) (seqM (sRet (cAnd (vP (pCmp .Is (pS 1) (pK .non))) (cCallI (call 31) 2 0 (asC (aV (vN 2)) (asC (aV (vN 4)) asN)) vsN [.inl 0, .inl 1]))) sN))))))
theorem c__law_most (call : Str → List T → CRes) : evSs (E__law_most call) d__law_most.scope 60 d__law_most.body = b__law_most (fun i => call (nm i)) := by rfl
def u__law_most (call : CN) (ts : List T) : CRes := runB 1 6 [1, 2, 2, 3, 1, 4] (b__law_most call) ts
theorem r__law_most (k : Nat) (ts : List T) : callN B0 tab0 60 (k + 1) "_law_most" ts = u__law_most (fun i => callN B0 tab0 60 k (nm i)) ts := run_eq rfl (c__law_most _)
abbrev E__law_door (call : Str → List T → CRes) : Ev := evOf B0 call d__law_door
def b__law_door (call : CN) : M Flo :=
  (seqM (sAsg 3 (vP (pK .non))) (seqM (sTry exs0 [⟨"BadTable", 4, 3, some "BadTable", "place"⟩, ⟨"BadNumber", 4, 3, some "BadNumber", "name"⟩, ⟨"BadLot", 4, 3, some "BadLot", "place"⟩] (seqM (sIf (kP (pCmp .Eq (pS 0) (pK (.int 0)))) (seqM (sExp (cCallI (call 7) 2 0 (asC (aV (vN 1)) (asC (aV (vN 2)) asN)) vsN [.inl 0, .inl 1])) sN) (seqM (sIf (kP (pCmp .Eq (pS 0) (pK (.int 1)))) (seqM (sExp (cCallI (call 11) 1 0 (asC (aV (vN 2)) asN) vsN [.inl 0])) sN) (seqM (sIf (kP (pCmp .Eq (pS 0) (pK (.int 2)))) (seqM (sExp (cCallI (call 17) 1 0 (asC (aV (vN 2)) asN) vsN [.inl 0])) sN) (seqM (sIf (kP (pCmp .Eq (pS 0) (pK (.int 3)))) (seqM (sExp (cCallI (call 9) 2 0 (asC (aV (vN 1)) (asC (aV (vN 2)) asN)) vsN [.inl 0, .inl 1])) sN) (seqM (sIf (kP (pCmp .Eq (pS 0) (pK (.int 4)))) (seqM (sExp (cCallI (call 10) 2 0 (asC (aV (vN 1)) (asC (aV (vN 2)) asN)) vsN [.inl 0, .inl 1])) sN) (seqM (sIf (kP (pCmp .Eq (pS 0) (pK (.int 5)))) (seqM (sExp (cCallI (call 13) 2 0 (asC (aV (vN 1)) (asC (aV (vN 2)) asN)) vsN [.inl 0, .inl 1, .inr (.bl true)])) sN) (seqM (sIf (kP (pCmp .Eq (pS 0) (pK (.int 6)))) (seqM (sExp (cCallI (call 20) 1 0 (asC (aV (vN 2)) asN) vsN [.inl 0])) sN) (seqM (sExp (cCallI (call 14) 1 0 (asC (aV (vN 2)) asN) vsN [.inl 0])) sN)) sN)) sN)) sN)) sN)) sN)) sN)) sN)) (seqM (sRetN 3) sN)))
theorem c__law_door (call : Str → List T → CRes) : evSs (E__law_door call) d__law_door.scope 60 d__law_door.body = b__law_door (fun i => call (nm i)) := by rfl
def u__law_door (call : CN) (ts : List T) : CRes := runB 3 5 [3, 4, 3, 4, 3, 4, 3] (b__law_door call) ts
theorem r__law_door (k : Nat) (ts : List T) : callN B0 tab0 60 (k + 1) "_law_door" ts = u__law_door (fun i => callN B0 tab0 60 k (nm i)) ts := run_eq rfl (c__law_door _)
abbrev E__law_refused (call : Str → List T → CRes) : Ev := evOf B0 call d__law_refused
def b__law_refused_L1 (call : CN) : M Flo :=
  (seqM (sIf (kC (cCmp .NotEq (e2 (oC (cCallI (call 43) 3 0 (asC (aV (vP (pK (.int 5)))) (asC (aV (vN 2)) (asC (aV (vN 7)) asN))) vsN [.inl 0, .inl 1, .inl 2])) true (oP (pTup [(pK (.str "BadNumber")), (pK (.str "voter"))]))))) (seqM (sRet (vP (pK (.bl false)))) sN) sN) (seqM (sIf (kAnd (kP (pCmp .IsNot (pS 7) (pK .non))) (kC (cCmp .NotEq (e2 (oC (cCallI (call 43) 3 0 (asC (aV (vP (pK (.int 3)))) (asC (aV (vN 2)) (asC (aV (cLst (vsC (vP (pK (.int 0))) (vsC (vN 7) vsN)))) asN))) vsN [.inl 0, .inl 1, .inl 2])) true (oP (pTup [(pK (.str "BadLot")), (pK (.int 1))])))))) (seqM (sRet (vP (pK (.bl false)))) sN) sN) sN))
def b__law_refused_L2 (call : CN) : M Flo :=
  (seqM (sIf (kC (cCmp .NotEq (e2 (oC (cCallI (call 43) 3 0 (asC (aV (vP (pK (.int 4)))) (asC (aV (vN 2)) (asC (aV (vN 7)) asN))) vsN [.inl 0, .inl 1, .inl 2])) true (oP (pTup [(pK (.str "BadNumber")), (pK (.str "number"))]))))) (seqM (sRet (vP (pK (.bl false)))) sN) sN) sN)
def b__law_refused_L3 (call : CN) : M Flo :=
  (seqM (sIf (kC (cCmp .NotEq (e2 (oC (cCallI (call 43) 3 0 (asC (aV (vN 6)) (asC (aV (vN 7)) (asC (aV (vP (pK .non))) asN))) vsN [.inl 0, .inl 1, .inl 2])) true (oP (pTup [(pK (.str "BadNumber")), (pK (.str "voters"))]))))) (seqM (sRet (vP (pK (.bl false)))) sN) sN) sN)
def b__law_refused_L4 (call : CN) : M Flo :=
  (seqM (sFor (.inl 6) [] (wkC (cLst (vsC (vP (pK (.int 0))) (vsC (vP (pK (.int 3))) (vsC (vP (pK (.int 4))) (vsC (vP (pK (.int 5))) vsN)))))) (b__law_refused_L3 call)) (seqM (sIf (kC (cCmp .NotEq (e2 (oC (cCallI (call 43) 3 0 (asC (aV (vP (pK (.int 6)))) (asC (aV (vP (pK (.int 1)))) (asC (aV (vN 7)) asN))) vsN [.inl 0, .inl 1, .inl 2])) true (oP (pTup [(pK (.str "BadNumber")), (pK (.str "voters"))]))))) (seqM (sRet (vP (pK (.bl false)))) sN) sN) sN))
def b__law_refused_E5 (call : CN) : M T :=
  (vP (pK (.int 0)))
def b__law_refused_L6 (call : CN) : M Flo :=
  (seqM (sIf (kC (cCmp .NotEq (e2 (oC (cCallI (call 43) 3 0 (asC (aV (vN 6)) (asC (aV (vN 2)) (asC (aV (vN 5)) asN))) vsN [.inl 0, .inl 1, .inl 2])) true (oP (pTup [(pK (.str "BadTable")), (pNeg (pK (.int 1)))]))))) (seqM (sRet (vP (pK (.bl false)))) sN) sN) sN)
def b__law_refused_L7 (call : CN) : M Flo :=
  (seqM (sFor (.inl 6) [] (wkC (cLst (vsC (vP (pK (.int 0))) (vsC (vP (pK (.int 1))) (vsC (vP (pK (.int 2))) (vsC (vP (pK (.int 7))) vsN)))))) (b__law_refused_L6 call)) sN)
def b__law_refused_L8 (call : CN) : M Flo :=
  (seqM (sIf (kC (cCmp .NotEq (e2 (oC (cCallI (call 43) 3 0 (asC (aV (vN 6)) (asC (aV (vN 2)) (asC (aV (vN 5)) asN))) vsN [.inl 0, .inl 1, .inl 2])) true (oP (pTup [(pK (.str "BadTable")), (pS 3)]))))) (seqM (sRet (vP (pK (.bl false)))) sN) sN) sN)
def b__law_refused_L9 (call : CN) : M Flo :=
  (seqM (sAsg 5 (cBin .Add (e2 (oC (cBin .Add (e2 (oC (cCut (oP (pS 1)) nN (nP (pS 3)))) false (oC (cLst (vsC (vN 4) vsN)))))) false (oC (cCut (oP (pS 1)) (nP (pBin .Add (pS 3) (pK (.int 1)))) nN))))) (seqM (sFor (.inl 6) [] (wkC (cLst (vsC (vP (pK (.int 0))) (vsC (vP (pK (.int 1))) (vsC (vP (pK (.int 2))) (vsC (vP (pK (.int 7))) vsN)))))) (b__law_refused_L8 call)) sN))
def b__law_refused (call : CN) : M Flo :=
  (seqM (sAsg 3 (cCallI (call 22) 2 0 (asC (aR 0 (vN 0)) (asC (aV (vP (pLen (pS 1)))) asN)) vsN [.inl 0, .inl 1])) (seqM (sFor (.inl 4) [5, 6] (wkC (cLst (vsC (vP (pK (.int 2))) (vsC (vP (pNeg (pK (.int 1)))) (vsC (vP (pK .non)) (vsC (vP (pK (.bl true))) (vsC (vP (pK (.str "1"))) vsN))))))) (b__law_refused_L9 call)) (seqM (sFor (.inl 5) [6] (wkC (cLst (vsC (vP (pK .non)) (vsC (vP (pK (.int 1))) (vsC (cLst vsN) (vsC (cLst (vsC (vP (pK (.int 0))) vsN)) (vsC (cBin .Add (e2 (oP (pS 1)) false (oC (cLst (vsC (vP (pK (.int 0))) vsN))))) (vsC (vP (pK (.str "0110"))) (vsC (cLc [8] (.inl 8) (srR1 (oP (pK (.int 64)))) kYes (b__law_refused_E5 call)) vsN))))))))) (b__law_refused_L7 call)) (seqM (sFor (.inl 7) [6] (wkC (cLst (vsC (vP (pK (.int 0))) (vsC (vP (pK (.int 6))) (vsC (vP (pK .non)) (vsC (vP (pK (.bl true))) (vsC (vP (pNeg (pK (.int 1)))) vsN))))))) (b__law_refused_L4 call)) (seqM (sFor (.inl 7) [] (wkC (cLst (vsC (vP (pNeg (pK (.int 1)))) (vsC (vP (pLen (pS 1))) (vsC (vP (pK .non)) (vsC (vP (pK (.bl false))) vsN)))))) (b__law_refused_L2 call)) (seqM (sFor (.inl 7) [] (wkC (cLst (vsC (vP (pNeg (pK (.int 1)))) (vsC (vN 2) (vsC (vP (pK .non)) (vsC (vP (pK (.bl false))) vsN)))))) (b__law_refused_L1 call)) (seqM (sRet (cAnd (cCmp .Eq (e2 (oC (cCallI (call 43) 3 0 (asC (aV (vP (pK (.int 3)))) (asC (aV (vN 2)) (asC (aV (vP (pK .non))) asN))) vsN [.inl 0, .inl 1, .inl 2])) true (oP (pTup [(pK (.str "BadLot")), (pNeg (pK (.int 1)))])))) (cCmp .Eq (e2 (oC (cCallI (call 43) 3 0 (asC (aV (vP (pK (.int 3)))) (asC (aV (vN 2)) (asC (aV (vP (pTup [(pK (.int 0)), (pK (.int 0))]))) asN))) vsN [.inl 0, .inl 1, .inl 2])) true (oP (pTup [(pK (.str "BadLot")), (pK (.int 1))])))))) sN)))))))
theorem c__law_refused (call : Str → List T → CRes) : evSs (E__law_refused call) d__law_refused.scope 60 d__law_refused.body = b__law_refused (fun i => call (nm i)) := by rfl
def u__law_refused (call : CN) (ts : List T) : CRes := runB 3 9 [3, 4, 5, 6, 5, 6, 7, 6, 7, 7] (b__law_refused call) ts
theorem r__law_refused (k : Nat) (ts : List T) : callN B0 tab0 60 (k + 1) "_law_refused" ts = u__law_refused (fun i => callN B0 tab0 60 k (nm i)) ts := run_eq rfl (c__law_refused _)
abbrev E_law (call : Str → List T → CRes) : Ev := evOf B0 call d_law
def b_law_E1 (call : CN) : M T :=
  (cCallI (call 42) 1 0 (asC (aV (vN 5)) asN) vsN [.inl 0])
def b_law_L2 (call : CN) : M Flo :=
  (seqM (sIf (kNot (kC (cCallI (call 39) 2 0 (asC (aV (vN 2)) (asC (aV (vN 4)) asN)) vsN [.inl 0, .inl 1]))) (seqM (sRet (vP (pK (.bl false)))) sN) sN) sN)
def b_law (call : CN) : M Flo :=
  (seqM (sAsg 1 (cCallI (call 21) 1 0 (asC (aV (vN 0)) asN) vsN [.inl 0])) (seqM (sAsg 2 (cBin .Add (e2 (oP (pK (.int 1))) false (oC (cCallI (call 22) 2 0 (asC (aR 1 (vN 1)) (asC (aV (vP (pK (.int 5)))) asN)) vsN [.inl 0, .inl 1]))))) (seqM (sAsg 3 (cCallI (call 30) 2 0 (asC (aR 1 (vN 1)) (asC (aV (vN 2)) asN)) vsN [.inl 0, .inl 1])) (seqM (sIf (kOr (kNot (kC (cCallI (call 37) 2 0 (asC (aV (vN 3)) (asC (aV (vN 2)) asN)) vsN [.inl 0, .inl 1]))) (kNot (kC (cCallI (call 37) 2 0 (asC (aV (cCallI (call 28) 1 0 (asC (aV (vN 3)) asN) vsN [.inl 0])) (asC (aV (vN 2)) asN)) vsN [.inl 0, .inl 1])))) (seqM (sRet (vP (pK (.bl false)))) sN) sN) (seqM (sIf (kNot (kC (cCallI (call 38) 1 0 (asC (aV (vN 2)) asN) vsN [.inl 0]))) (seqM (sRet (vP (pK (.bl false)))) sN) sN) (seqM (sFor (.inl 4) [] (wkC (cLst (vsC (vP (pK (.int 0))) (vsC (cBin .Sub (e2 (oC (cCallI (call 25) 1 0 (asC (aV (vN 2)) asN) vsN [.inl 0])) true (oP (pK (.int 1))))) (vsC (cCallI (call 22) 2 0 (asC (aR 1 (vN 1)) (asC (aV (cCallI (call 25) 1 0 (asC (aV (vN 2)) asN) vsN [.inl 0])) asN)) vsN [.inl 0, .inl 1]) vsN))))) (b_law_L2 call)) (seqM (sIf (kNot (kC (cCallI (call 44) 3 0 (asC (aR 1 (vN 1)) (asC (aV (vN 3)) (asC (aV (vN 2)) asN))) vsN [.inl 0, .inl 1, .inl 2]))) (seqM (sRet (vP (pK (.bl false)))) sN) sN) (seqM (sIf (kNot (kC (cB1 "all" (oC (cLc [5] (.inl 5) (srR2 (e2 (oP (pK (.int 1))) true (oP (pK (.int 6))))) kYes (b_law_E1 call)))))) (seqM (sRet (vP (pK (.bl false)))) sN) sN) (seqM (sAsg 5 (cB2 "min" (e2 (oP (pS 2)) true (oP (pK (.int 4)))))) (seqM (sIf (kAnd (kP (pCmp .Eq (pS 2) (pK (.int 5)))) (kC (cCmp .Eq (e2 (oC (cCallI (call 22) 2 0 (asC (aR 1 (vN 1)) (asC (aV (vP (pK (.int 20)))) asN)) vsN [.inl 0, .inl 1])) true (oP (pK (.int 19))))))) (seqM (sRet (cCmp .Eq (e2 (oC (cCallI (call 20) 1 0 (asC (aV (vP (pK (.int 5)))) asN) vsN [.inl 0])) true (oP (pK (.int 7581)))))) sN) sN) (seqM (sAsg 6 (cCallI (call 20) 1 0 (asC (aV (vN 5)) asN) vsN [.inl 0])) (seqM (sRet (cAnd (cCallI (call 23) 1 0 (asC (aV (vN 6)) asN) vsN [.inl 0]) (cCmp .Eq (e2 (oP (pS 6)) false (oC (cCallI (call 41) 1 0 (asC (aV (vN 5)) asN) vsN [.inl 0])))))) sN))))))))))))
theorem c_law (call : Str → List T → CRes) : evSs (E_law call) d_law.scope 60 d_law.body = b_law (fun i => call (nm i)) := by rfl
def u_law (call : CN) (ts : List T) : CRes := runB 1 7 [1, 2, 3, 4, 5, 6] (b_law call) ts
theorem r_law (k : Nat) (ts : List T) : callN B0 tab0 60 (k + 1) "law" ts = u_law (fun i => callN B0 tab0 60 k (nm i)) ts := run_eq rfl (c_law _)
def bodies : List (CN → List T → CRes) := [u_is_integer, u_is_thing, u_number_of_kind, u_first_bad, u_lot_of, u_voters_in, u_entries_in, u_table_of, u_any_table, u_set_number, u_set_of, u_dual_of, u_is_flat, u_following, u_followed, u_heard_in, u_first_fall, u_is_rising, u_is_sized, u_majority_table, u_count_rising, u__law_draws, u__law_take, u__law_int, u__law_bool, u__law_bits, u__law_in, u__law_size, u__law_dual, u__law_flat, u__law_table, u__law_row_told, u__law_power, u__law_falls, u__law_heard, u__law_by_size, u__law_follows, u__law_looked_at, u__law_each_voter, u__law_sets, u__law_wider, u__law_rising, u__law_most, u__law_door, u__law_refused, u_law]
def callC : Nat → CN
  | 0 => fun _ _ => .stuck
  | k + 1 => fun i => (bodies.getD i fun _ _ => .stuck) (callC k)
theorem callC_eq : ∀ (k : Nat), (fun i => callN B0 tab0 60 k (nm i)) = callC k
  | 0 => rfl
  | k + 1 => by
    have ih := callC_eq k
    funext i ts
    match i with
    | 0 => exact (r_is_integer k ts).trans (by rw [ih]; rfl)
    | 1 => exact (r_is_thing k ts).trans (by rw [ih]; rfl)
    | 2 => exact (r_number_of_kind k ts).trans (by rw [ih]; rfl)
    | 3 => exact (r_first_bad k ts).trans (by rw [ih]; rfl)
    | 4 => exact (r_lot_of k ts).trans (by rw [ih]; rfl)
    | 5 => exact (r_voters_in k ts).trans (by rw [ih]; rfl)
    | 6 => exact (r_entries_in k ts).trans (by rw [ih]; rfl)
    | 7 => exact (r_table_of k ts).trans (by rw [ih]; rfl)
    | 8 => exact (r_any_table k ts).trans (by rw [ih]; rfl)
    | 9 => exact (r_set_number k ts).trans (by rw [ih]; rfl)
    | 10 => exact (r_set_of k ts).trans (by rw [ih]; rfl)
    | 11 => exact (r_dual_of k ts).trans (by rw [ih]; rfl)
    | 12 => exact (r_is_flat k ts).trans (by rw [ih]; rfl)
    | 13 => exact (r_following k ts).trans (by rw [ih]; rfl)
    | 14 => exact (r_followed k ts).trans (by rw [ih]; rfl)
    | 15 => exact (r_heard_in k ts).trans (by rw [ih]; rfl)
    | 16 => exact (r_first_fall k ts).trans (by rw [ih]; rfl)
    | 17 => exact (r_is_rising k ts).trans (by rw [ih]; rfl)
    | 18 => exact (r_is_sized k ts).trans (by rw [ih]; rfl)
    | 19 => exact (r_majority_table k ts).trans (by rw [ih]; rfl)
    | 20 => exact (r_count_rising k ts).trans (by rw [ih]; rfl)
    | 21 => exact (r__law_draws k ts).trans (by rw [ih]; rfl)
    | 22 => exact (r__law_take k ts).trans (by rw [ih]; rfl)
    | 23 => exact (r__law_int k ts).trans (by rw [ih]; rfl)
    | 24 => exact (r__law_bool k ts).trans (by rw [ih]; rfl)
    | 25 => exact (r__law_bits k ts).trans (by rw [ih]; rfl)
    | 26 => exact (r__law_in k ts).trans (by rw [ih]; rfl)
    | 27 => exact (r__law_size k ts).trans (by rw [ih]; rfl)
    | 28 => exact (r__law_dual k ts).trans (by rw [ih]; rfl)
    | 29 => exact (r__law_flat k ts).trans (by rw [ih]; rfl)
    | 30 => exact (r__law_table k ts).trans (by rw [ih]; rfl)
    | 31 => exact (r__law_row_told k ts).trans (by rw [ih]; rfl)
    | 32 => exact (r__law_power k ts).trans (by rw [ih]; rfl)
    | 33 => exact (r__law_falls k ts).trans (by rw [ih]; rfl)
    | 34 => exact (r__law_heard k ts).trans (by rw [ih]; rfl)
    | 35 => exact (r__law_by_size k ts).trans (by rw [ih]; rfl)
    | 36 => exact (r__law_follows k ts).trans (by rw [ih]; rfl)
    | 37 => exact (r__law_looked_at k ts).trans (by rw [ih]; rfl)
    | 38 => exact (r__law_each_voter k ts).trans (by rw [ih]; rfl)
    | 39 => exact (r__law_sets k ts).trans (by rw [ih]; rfl)
    | 40 => exact (r__law_wider k ts).trans (by rw [ih]; rfl)
    | 41 => exact (r__law_rising k ts).trans (by rw [ih]; rfl)
    | 42 => exact (r__law_most k ts).trans (by rw [ih]; rfl)
    | 43 => exact (r__law_door k ts).trans (by rw [ih]; rfl)
    | 44 => exact (r__law_refused k ts).trans (by rw [ih]; rfl)
    | 45 => exact (r_law k ts).trans (by rw [ih]; rfl)
    | n + 46 => rfl
theorem q_is_integer (k : Nat) (t0 : T) : callC (k + 1) 0 [t0] = runE 1 [] (b_is_integer (callC k) [some t0]) := runB_eq (ts := [t0]) rfl
theorem q_is_thing (k : Nat) (t0 t1 : T) : callC (k + 1) 1 [t0, t1] = runE 2 [] (b_is_thing (callC k) [some t0, some t1]) := runB_eq (ts := [t0, t1]) rfl
theorem q_number_of_kind (k : Nat) (t0 t1 t2 t3 : T) : callC (k + 1) 2 [t0, t1, t2, t3] = runE 4 [] (b_number_of_kind (callC k) [some t0, some t1, some t2, some t3]) := runB_eq (ts := [t0, t1, t2, t3]) rfl
theorem q_first_bad (k : Nat) (t0 t1 : T) : callC (k + 1) 3 [t0, t1] = runE 2 [2, 3, 4] (b_first_bad (callC k) [some t0, some t1, none, none, none]) := runB_eq (ts := [t0, t1]) rfl
theorem q_lot_of (k : Nat) (t0 t1 t2 : T) : callC (k + 1) 4 [t0, t1, t2] = runE 3 [3] (b_lot_of (callC k) [some t0, some t1, some t2, none]) := runB_eq (ts := [t0, t1, t2]) rfl
theorem q_voters_in (k : Nat) (t0 : T) : callC (k + 1) 5 [t0] = runE 1 [] (b_voters_in (callC k) [some t0]) := runB_eq (ts := [t0]) rfl
theorem q_entries_in (k : Nat) (t0 t1 : T) : callC (k + 1) 6 [t0, t1] = runE 2 [2, 3] (b_entries_in (callC k) [some t0, some t1, none, none]) := runB_eq (ts := [t0, t1]) rfl
theorem q_table_of (k : Nat) (t0 t1 : T) : callC (k + 1) 7 [t0, t1] = runE 2 [] (b_table_of (callC k) [some t0, some t1]) := runB_eq (ts := [t0, t1]) rfl
theorem q_any_table (k : Nat) (t0 : T) : callC (k + 1) 8 [t0] = runE 1 [1] (b_any_table (callC k) [some t0, none]) := runB_eq (ts := [t0]) rfl
theorem q_set_number (k : Nat) (t0 t1 : T) : callC (k + 1) 9 [t0, t1] = runE 2 [2] (b_set_number (callC k) [some t0, some t1, none, none]) := runB_eq (ts := [t0, t1]) rfl
theorem q_set_of (k : Nat) (t0 t1 : T) : callC (k + 1) 10 [t0, t1] = runE 2 [] (b_set_of (callC k) [some t0, some t1, none]) := runB_eq (ts := [t0, t1]) rfl
theorem q_dual_of (k : Nat) (t0 : T) : callC (k + 1) 11 [t0] = runE 1 [1, 2] (b_dual_of (callC k) [some t0, none, none, none]) := runB_eq (ts := [t0]) rfl
theorem q_is_flat (k : Nat) (t0 : T) : callC (k + 1) 12 [t0] = runE 1 [1, 2] (b_is_flat (callC k) [some t0, none, none]) := runB_eq (ts := [t0]) rfl
theorem q_following (k : Nat) (t0 t1 t2 : T) : callC (k + 1) 13 [t0, t1, t2] = runE 3 [3] (b_following (callC k) [some t0, some t1, some t2, none, none]) := runB_eq (ts := [t0, t1, t2]) rfl
theorem q_followed (k : Nat) (t0 : T) : callC (k + 1) 14 [t0] = runE 1 [1, 2, 3, 4] (b_followed (callC k) [some t0, none, none, none, none]) := runB_eq (ts := [t0]) rfl
theorem q_heard_in (k : Nat) (t0 : T) : callC (k + 1) 15 [t0] = runE 1 [1, 2] (b_heard_in (callC k) [some t0, none, none, none, none]) := runB_eq (ts := [t0]) rfl
theorem q_first_fall (k : Nat) (t0 : T) : callC (k + 1) 16 [t0] = runE 1 [1, 2, 3, 4, 5] (b_first_fall (callC k) [some t0, none, none, none, none, none]) := runB_eq (ts := [t0]) rfl
theorem q_is_rising (k : Nat) (t0 : T) : callC (k + 1) 17 [t0] = runE 1 [] (b_is_rising (callC k) [some t0]) := runB_eq (ts := [t0]) rfl
theorem q_is_sized (k : Nat) (t0 : T) : callC (k + 1) 18 [t0] = runE 1 [1, 2, 3, 4, 5, 6] (b_is_sized (callC k) [some t0, none, none, none, none, none, none]) := runB_eq (ts := [t0]) rfl
theorem q_majority_table (k : Nat) (t0 : T) : callC (k + 1) 19 [t0] = runE 1 [] (b_majority_table (callC k) [some t0, none]) := runB_eq (ts := [t0]) rfl
theorem q_count_rising (k : Nat) (t0 : T) : callC (k + 1) 20 [t0] = runE 1 [1, 2, 3, 1] (b_count_rising (callC k) [some t0, none, none, none, none, none]) := runB_eq (ts := [t0]) rfl
theorem q__law_draws (k : Nat) (t0 : T) : callC (k + 1) 21 [t0] = runE 1 [1, 2, 3, 4, 2, 4, 5, 4, 6, 5, 6] (b__law_draws (callC k) [some t0, none, none, none, none, none, none]) := runB_eq (ts := [t0]) rfl
theorem q__law_take (k : Nat) (t0 t1 : T) : callC (k + 1) 22 [t0, t1] = runE 2 [] (b__law_take (callC k) [some t0, some t1]) := runB_eq (ts := [t0, t1]) rfl
theorem q__law_int (k : Nat) (t0 : T) : callC (k + 1) 23 [t0] = runE 1 [] (b__law_int (callC k) [some t0]) := runB_eq (ts := [t0]) rfl
theorem q__law_bool (k : Nat) (t0 t1 : T) : callC (k + 1) 24 [t0, t1] = runE 2 [] (b__law_bool (callC k) [some t0, some t1]) := runB_eq (ts := [t0, t1]) rfl
theorem q__law_bits (k : Nat) (t0 : T) : callC (k + 1) 25 [t0] = runE 1 [1, 2, 1] (b__law_bits (callC k) [some t0, none, none]) := runB_eq (ts := [t0]) rfl
theorem q__law_in (k : Nat) (t0 t1 : T) : callC (k + 1) 26 [t0, t1] = runE 2 [] (b__law_in (callC k) [some t0, some t1]) := runB_eq (ts := [t0, t1]) rfl
theorem q__law_size (k : Nat) (t0 : T) : callC (k + 1) 27 [t0] = runE 1 [] (b__law_size (callC k) [some t0, none]) := runB_eq (ts := [t0]) rfl
theorem q__law_dual (k : Nat) (t0 : T) : callC (k + 1) 28 [t0] = runE 1 [] (b__law_dual (callC k) [some t0, none]) := runB_eq (ts := [t0]) rfl
theorem q__law_flat (k : Nat) (t0 : T) : callC (k + 1) 29 [t0] = runE 1 [] (b__law_flat (callC k) [some t0]) := runB_eq (ts := [t0]) rfl
theorem q__law_table (k : Nat) (t0 t1 : T) : callC (k + 1) 30 [t0, t1] = runE 2 [2, 3, 4, 5] (b__law_table (callC k) [some t0, some t1, none, none, none, none, none]) := runB_eq (ts := [t0, t1]) rfl
theorem q__law_row_told (k : Nat) (t0 t1 : T) : callC (k + 1) 31 [t0, t1] = runE 2 [] (b__law_row_told (callC k) [some t0, some t1, none]) := runB_eq (ts := [t0, t1]) rfl
theorem q__law_power (k : Nat) (t0 : T) : callC (k + 1) 32 [t0] = runE 1 [] (b__law_power (callC k) [some t0]) := runB_eq (ts := [t0]) rfl
theorem q__law_falls (k : Nat) (t0 t1 : T) : callC (k + 1) 33 [t0, t1] = runE 2 [2, 3, 4] (b__law_falls (callC k) [some t0, some t1, none, none, none]) := runB_eq (ts := [t0, t1]) rfl
theorem q__law_heard (k : Nat) (t0 t1 : T) : callC (k + 1) 34 [t0, t1] = runE 2 [2, 3, 4] (b__law_heard (callC k) [some t0, some t1, none, none, none]) := runB_eq (ts := [t0, t1]) rfl
theorem q__law_by_size (k : Nat) (t0 : T) : callC (k + 1) 35 [t0] = runE 1 [1, 2] (b__law_by_size (callC k) [some t0, none, none]) := runB_eq (ts := [t0]) rfl
theorem q__law_follows (k : Nat) (t0 t1 : T) : callC (k + 1) 36 [t0, t1] = runE 2 [2, 3] (b__law_follows (callC k) [some t0, some t1, none, none, none, none]) := runB_eq (ts := [t0, t1]) rfl
theorem q__law_looked_at (k : Nat) (t0 t1 : T) : callC (k + 1) 37 [t0, t1] = runE 2 [2, 3, 4, 4] (b__law_looked_at (callC k) [some t0, some t1, none, none, none]) := runB_eq (ts := [t0, t1]) rfl
theorem q__law_each_voter (k : Nat) (t0 : T) : callC (k + 1) 38 [t0] = runE 1 [1, 2, 3] (b__law_each_voter (callC k) [some t0, none, none, none, none, none]) := runB_eq (ts := [t0]) rfl
theorem q__law_sets (k : Nat) (t0 t1 : T) : callC (k + 1) 39 [t0, t1] = runE 2 [2, 3, 4, 5, 6] (b__law_sets (callC k) [some t0, some t1, none, none, none, none, none, none]) := runB_eq (ts := [t0, t1]) rfl
theorem q__law_wider (k : Nat) (t0 : T) : callC (k + 1) 40 [t0] = runE 1 [1, 2, 3] (b__law_wider (callC k) [some t0, none, none, none, none]) := runB_eq (ts := [t0]) rfl
theorem q__law_rising (k : Nat) (t0 : T) : callC (k + 1) 41 [t0] = runE 1 [1, 2, 1] (b__law_rising (callC k) [some t0, none, none]) := runB_eq (ts := [t0]) rfl
theorem q__law_most (k : Nat) (t0 : T) : callC (k + 1) 42 [t0] = runE 1 [1, 2, 2, 3, 1, 4] (b__law_most (callC k) [some t0, none, none, none, none, none]) := runB_eq (ts := [t0]) rfl
theorem q__law_door (k : Nat) (t0 t1 t2 : T) : callC (k + 1) 43 [t0, t1, t2] = runE 3 [3, 4, 3, 4, 3, 4, 3] (b__law_door (callC k) [some t0, some t1, some t2, none, none]) := runB_eq (ts := [t0, t1, t2]) rfl
theorem q__law_refused (k : Nat) (t0 t1 t2 : T) : callC (k + 1) 44 [t0, t1, t2] = runE 3 [3, 4, 5, 6, 5, 6, 7, 6, 7, 7] (b__law_refused (callC k) [some t0, some t1, some t2, none, none, none, none, none, none]) := runB_eq (ts := [t0, t1, t2]) rfl
theorem q_law (k : Nat) (t0 : T) : callC (k + 1) 45 [t0] = runE 1 [1, 2, 3, 4, 5, 6] (b_law (callC k) [some t0, none, none, none, none, none, none]) := runB_eq (ts := [t0]) rfl
end Bw

set_option maxHeartbeats 1000000
namespace Bw
open PySem PySem.Spec PyProof.Rows L2
open K02 (bt Bits tg sz)
def isI : D → Bool
  | .int _ => true
  | _ => false
def nIns : D → Bool
  | .ins _ _ => false
  | _ => true
theorem cC_0 (k : Nat) (x : D) (h : nIns x = true) : callC (k+1) 0 [.d x] = .ok (.d (.bl (isI x))) [some (.d x)] := by
  cases x with
  | ins => cases h
  | _ => rfl
def okE : D → Bool
  | .int i => decide (0 ≤ i ∧ i ≤ 1)
  | _ => false
def badAt : Nat → List D → Option Nat
  | _, [] => none
  | i, d :: r => if okE d then badAt (i + 1) r else some i
theorem e_L1 (k : Nat) (m t : Option T) (i : Int) (x : D) (h : nIns x = true) : b_entries_in_L1 (callC (k+1)) [m, t, some (.d (.int i)), some (.d x)] = if okE x then .ok .nx [m, t, some (.d (.int i)), some (.d x)] else .exn ⟨"BadTable", [("place", .int i)]⟩ [m, t, some (.d (.int i)), some (.d x)] := by
  have c := cC_0 k x h
  cases x with
  | ins => cases h
  | int j => by_cases h1 : 0 ≤ j <;> by_cases h2 : j ≤ 1 <;> simp [b_entries_in_L1, c, isI, okE, h1, h2]
  | _ => simp [b_entries_in_L1, c, isI, okE]
theorem e_loop (k : Nat) (m t : Option T) (its : List D) : ∀ (ds : List D) (i : Nat) (a b : Option T), ds.all nIns = true → ∃ a' b', forL (.inr [2, 3]) (b_entries_in_L1 (callC (k+1))) ⟨its, none, true⟩ ((ds.zipIdx i).map fun p => .tup [.int (p.2 : Nat), p.1]) [m, t, a, b] = match badAt i ds with
    | none => .ok .nx [m, t, a', b']
    | some j => .exn ⟨"BadTable", [("place", .int (j : Nat))]⟩ [m, t, a', b']
  | [], i, a, b, h => ⟨a, b, rfl⟩
  | d :: r, i, a, b, h => by
    rw [List.all_cons, Bool.and_eq_true] at h
    obtain ⟨a', b', e⟩ := e_loop k m t its r (i + 1) (some (.d (.int (i : Nat)))) (some (.d d)) h.2
    rw [List.zipIdx_cons, List.map_cons, forL_cons]
    simp [e_L1, h.1]
    rw [badAt]
    cases okE d with
    | true =>
      simp [e]
      exact ⟨a', b', rfl⟩
    | false => simp
/-- a list or a tuple of these items -/
def Sq (X : D) (ds : List D) : Prop := X = .lst ds ∨ X = .tup ds
theorem cC_6 (k : Nat) {X : D} {ds : List D} (hX : Sq X ds) (hn : ds.all nIns = true) : callC (k+2) 6 [.d (.int (ds.length : Nat)), .d X] = match badAt 0 ds with
    | none => .ok (.d (.tup ds)) [some (.d (.int (ds.length : Nat))), some (.d X)]
    | some j => .exn ⟨"BadTable", [("place", .int (j : Nat))]⟩ [some (.d (.int (ds.length : Nat))), some (.d X)] := by
  rw [q_entries_in]
  obtain ⟨a', b', e⟩ := e_loop k (some (.d (.int (ds.length : Nat)))) (some (.d X)) (enumD ds) ds 0 none none hn
  change forL _ _ _ (enumD ds) _ = _ at e
  rcases hX with rfl | rfl
  · simp [b_entries_in, e]
    cases badAt 0 ds <;> simp [psBack_two]
  · simp [b_entries_in, e]
    cases badAt 0 ds <;> simp [psBack_two]
/-- .. of another length -/
theorem cC_6l (k : Nat) {X : D} {ds : List D} (hX : Sq X ds) {m : Int} (hm : (ds.length : Int) ≠ m) : callC (k+2) 6 [.d (.int m), .d X] = .exn ⟨"BadTable", [("place", .int (-1))]⟩ [some (.d (.int m)), some (.d X)] := by
  rw [q_entries_in]
  rcases hX with rfl | rfl <;> simp [b_entries_in, hm, psBack_two]
theorem sh1 (n : Nat) (h : n ≤ 6) : intOp .LShift 1 (n : Int) = some ((2 ^ n : Nat) : Int) := by
  obtain rfl | rfl | rfl | rfl | rfl | rfl | rfl : n = 0 ∨ n = 1 ∨ n = 2 ∨ n = 3 ∨ n = 4 ∨ n = 5 ∨ n = 6 := by omega
  all_goals rfl
theorem cC_8 (k v : Nat) (hv : 1 ≤ v ∧ v ≤ 5) {X : D} {ds : List D} (hX : Sq X ds) (hl : ds.length = 2 ^ v) (hn : ds.all nIns = true) : callC (k+3) 8 [.d X] = match badAt 0 ds with
    | none => .ok (.d (.tup [.tup ds, .int (v : Nat)])) [some (.d X)]
    | some j => .exn ⟨"BadTable", [("place", .int (j : Nat))]⟩ [some (.d X)] := by
  rw [q_any_table]
  have c := cC_6 k hX hn
  have hr : range2 (.int 1) (.int 6) = some ⟨[.int 1, .int 2, .int 3, .int 4, .int 5], none, false⟩ := by rfl
  have s1 := sh1 1 (by omega)
  have s2 := sh1 2 (by omega)
  have s3 := sh1 3 (by omega)
  have s4 := sh1 4 (by omega)
  have s5 := sh1 5 (by omega)
  simp at s1 s2 s3 s4 s5
  obtain rfl | rfl | rfl | rfl | rfl : v = 1 ∨ v = 2 ∨ v = 3 ∨ v = 4 ∨ v = 5 := by omega
  all_goals
    rw [hl] at c
    simp at hl c
    rcases hX with rfl | rfl
    all_goals
      simp [b_any_table, hr, forL_cons, b_any_table_L1, s1, s2, s3, s4, s5, hl, c]
      cases badAt 0 ds <;> simp [psBack_one, lineB]
end Bw

set_option maxHeartbeats 1000000
namespace Bw
open PySem PySem.Spec PyProof.Rows L2
open K02 (bt Bits tg sz fallAt heardP heardL)
/-! ### numbers -/
def sh (n k : Nat) : Nat := n / 2 ^ k
def pw (k : Nat) : Nat := 2 ^ k
theorem op_sh (n k : Nat) : intOp .RShift (n : Int) (k : Int) = some ((sh n k : Nat) : Int) := by
  simp only [intOp, Int.natCast_nonneg, if_true]
  unfold sh
  simp
theorem op_and1 (n k : Nat) : intOp .BitAnd ((sh n k : Nat) : Int) 1 = some (bt n k) := by
  show some (Builtin.bitAnd _ _) = _
  unfold Builtin.bitAnd bt sh
  rw [decide_eq_true (Int.natCast_nonneg _), decide_eq_true (show (0 : Int) ≤ 1 by decide)]
  show some ((((n / 2 ^ k : Nat) : Int).toNat &&& 1 : Nat) : Int) = _
  rw [Int.toNat_natCast, Nat.and_one_is_mod]
theorem op_pw (k : Nat) (h : k ≤ 6) : intOp .LShift 1 (k : Int) = some ((pw k : Nat) : Int) := sh1 k h
theorem op_xor : ∀ n : Nat, n < 32 → ∀ k : Nat, k < 5 → intOp .BitXor (n : Int) ((pw k : Nat) : Int) = some ((n ^^^ pw k : Nat) : Int) := by
  have h : (List.range 32).all (fun n => (List.range 5).all fun k => decide (Builtin.bitXor (n : Int) ((pw k : Nat) : Int) = ((n ^^^ pw k : Nat) : Int))) = true := by decide +kernel
  intro n hn k hk
  simp only [List.all_eq_true, List.mem_range, decide_eq_true_eq] at h
  exact congrArg some (h n hn k hk)
theorem idx_t {t : List Int} {n : Nat} (h : n < t.length) : idxD (.tup (t.map .int)) (.int (n : Int)) = some (.int (tg t n)) := idx_tup h
theorem idx_l {t : List Int} {n : Nat} (h : n < t.length) : idxD (.lst (t.map .int)) (.int (n : Int)) = some (.int (tg t n)) := idx_lst h
theorem idx_t2 {t : List Int} {n k : Nat} (h : n + 2 ^ k < t.length) : idxD (.tup (t.map .int)) (.int ((n : Int) + ((pw k : Nat) : Int))) = some (.int (tg t (n + 2 ^ k))) := by
  have := idx_t (t := t) h
  rwa [Int.natCast_add] at this
theorem idx_l2 {t : List Int} {n k : Nat} (h : n + 2 ^ k < t.length) : idxD (.lst (t.map .int)) (.int ((n : Int) + ((pw k : Nat) : Int))) = some (.int (tg t (n + 2 ^ k))) := by
  have := idx_l (t := t) h
  rwa [Int.natCast_add] at this
/-! ### tables -/
theorem bits_ok : ∀ {t : List Int} (i : Nat), Bits t → badAt i (t.map .int) = none
  | [], _, _ => rfl
  | x :: r, i, h => by
    rw [List.map_cons, badAt, if_pos, bits_ok (i + 1) fun y m => h y (List.mem_cons_of_mem _ m)]
    rcases h x List.mem_cons_self with rfl | rfl <;> rfl
theorem ints_nIns : ∀ t : List Int, (t.map D.int).all nIns = true
  | [] => rfl
  | x :: r => by rw [List.map_cons, List.all_cons, ints_nIns r]; rfl
structure Tb (v : Nat) (t : List Int) : Prop where
  lo : 1 ≤ v
  hi : v ≤ 5
  len : t.length = 2 ^ v
  bits : Bits t
theorem Tb.le {v : Nat} {t : List Int} (h : Tb v t) : t.length ≤ 32 := by
  rw [h.len]
  exact Nat.pow_le_pow_right (by decide) h.hi
theorem Tb.pos {v : Nat} {t : List Int} (h : Tb v t) : 0 < t.length := by
  rw [h.len]
  exact Nat.two_pow_pos v
variable {v : Nat} {t : List Int} {X : D}
theorem any_ok (k : Nat) (h : Tb v t) (hX : Sq X (t.map .int)) : callC (k+3) 8 [.d X] = .ok (.d (.tup [.tup (t.map .int), .int (v : Nat)])) [some (.d X)] := by
  have := cC_8 k v ⟨h.lo, h.hi⟩ hX (by simpa using h.len) (ints_nIns t)
  rw [bits_ok 0 h.bits] at this
  exact this
theorem dual_ok (k : Nat) (h : Tb v t) (hX : Sq X (t.map .int)) : callC (k+4) 11 [.d X] = .ok (.d (.tup ((t.reverse.map (1 - ·)).map .int))) [some (.d X)] := by
  rw [q_dual_of]
  have a := any_ok k h hX
  have e := compL_map (own := [3]) (tg := .inl 3) (elt := b_dual_of_E1 (callC (k+3))) (its := (t.map D.int).reverse) (b := false) (fr := [some (.d X), some (.d (.tup (t.map .int))), some (.d (.int v)), none]) (fun i : Int => .d (.int (1 - i))) D.int t.reverse (fun x m => ⟨_, _, rfl, by simp [b_dual_of_E1]; rfl, by simp⟩) (by have := h.le; simp; omega)
  simp only [List.map_reverse] at e
  simp [b_dual_of, a, e, psBack_one, Function.comp_def]
theorem flat_ok (k : Nat) (h : Tb v t) (hX : Sq X (t.map .int)) : callC (k+4) 12 [.d X] = .ok (.d (.bl (decide (((t.count (tg t 0) : Nat) : Int) = t.length)))) [some (.d X)] := by
  rw [q_is_flat]
  have a := any_ok k h hX
  have i0 : idxD (.tup (t.map .int)) (.int 0) = some (.int (tg t 0)) := idx_t h.pos
  simp [b_is_flat, a, psBack_one, i0]
/-! ### the first fall -/
theorem fall_len (h : Tb v t) {n k : Nat} (hn : n < t.length) (hk : k < v) (e : bt n k = 0) : n + 2 ^ k < t.length := by
  have := h.hi
  rcases K02.xor_facts v (by omega) k hk n (by rw [← h.len]; exact hn) with ⟨a, b, c⟩ | ⟨a, b, c, d⟩
  · rw [h.len]; exact c
  · unfold bt at e
    rw [a] at e
    exact absurd e (by decide)
theorem ff_L1 (c : CN) (h : Tb v t) {n k : Nat} (hn : n < t.length) (hk : k < v) {V : Option T} :
    b_first_fall_L1 c [some (.d X), some (.d (.tup (t.map .int))), V, some (.d (.int (n : Nat))), some (.d (.int (tg t n))), some (.d (.int (k : Nat)))] =
    srchR [some (.d X), some (.d (.tup (t.map .int))), V, some (.d (.int (n : Nat))), some (.d (.int (tg t n))), some (.d (.int (k : Nat)))] (if fallAt t n k then some (.d (.tup [.int (n : Nat), .int (k : Nat)])) else none) := by
  have hh := h.hi
  unfold fallAt
  by_cases h1 : tg t n = 1
  · by_cases h2 : bt n k = 0
    · have hl := fall_len h hn hk h2
      by_cases h3 : tg t (n + 2 ^ k) = 0
      · simp [b_first_fall_L1, h1, h2, h3, op_sh, op_and1, op_pw k (by omega), idx_t2 hl, lineB]
      · simp [b_first_fall_L1, h1, h2, h3, op_sh, op_and1, op_pw k (by omega), idx_t2 hl, lineB]
    · simp [b_first_fall_L1, h1, h2, op_sh, op_and1, lineB]
  · simp [b_first_fall_L1, h1, lineB]
end Bw

set_option maxHeartbeats 1000000
namespace Bw
open PySem PySem.Spec PyProof.Rows L2
open K02 (bt Bits tg sz fallAt heardP heardL firstFall)
variable {v : Nat} {t : List Int} {X : D}
theorem cC_2 (k : Nat) (i lo hi : Int) (s : Str) : callC (k+2) 2 [.d (.int i), .d (.int lo), .d (.int hi), .d (.str s)] = if lo ≤ i ∧ i ≤ hi then .ok (.d (.int i)) [some (.d (.int i)), some (.d (.int lo)), some (.d (.int hi)), some (.d (.str s))] else .exn ⟨"BadNumber", [("name", .str s)]⟩ [some (.d (.int i)), some (.d (.int lo)), some (.d (.int hi)), some (.d (.str s))] := by
  rw [q_number_of_kind]
  have c := cC_0 k (.int i) rfl
  by_cases h1 : lo ≤ i <;> by_cases h2 : i ≤ hi <;> simp [b_number_of_kind, c, isI, h1, h2, psBack_four]
theorem cC_2ok (k : Nat) {i lo hi : Int} (s : Str) (h1 : lo ≤ i) (h2 : i ≤ hi) : callC (k+2) 2 [.d (.int i), .d (.int lo), .d (.int hi), .d (.str s)] = .ok (.d (.int i)) [some (.d (.int i)), some (.d (.int lo)), some (.d (.int hi)), some (.d (.str s))] := by rw [cC_2, if_pos ⟨h1, h2⟩]
theorem cC_5 (k : Nat) {v : Nat} (hv : 1 ≤ v ∧ v ≤ 5) : callC (k+3) 5 [.d (.int (v : Nat))] = .ok (.d (.int (v : Nat))) [some (.d (.int (v : Nat)))] := by
  rw [q_voters_in]
  have h1 : (1 : Int) ≤ v := by omega
  have h2 : (v : Int) ≤ 5 := by omega
  simp [b_voters_in, cC_2, h1, h2, psBack_one]
theorem range_v {v : Nat} (h : v ≤ 32) : range1 (.int (v : Int)) = some ⟨(List.range v).map fun k => .int (k : Nat), none, false⟩ := range1_nat (by omega)
def setL (v n : Nat) : List Int := ((List.range v).filter fun k => bt n k == 1).map fun k => ((k : Nat) : Int)
def q1 (i : Int) : Int := i - 1
theorem op_q1 (i : Int) : intOp .Sub i 1 = some (q1 i) := rfl
theorem setof_e (c : CN) {v n : Nat} (hv : v ≤ 32) : compL [2] (.inl 2) (b_set_of_T1 c) (b_set_of_E2 c) ⟨(List.range v).map fun k => .int (k : Nat), none, false⟩ ((List.range v).map fun k => .int (k : Nat)) [] [some (.d (.int v)), some (.d (.int (n : Nat))), none] = .ok (((List.range v).filter fun k => bt n k == 1).map fun k => .d (.int (k : Nat))) [some (.d (.int v)), some (.d (.int (n : Nat))), none] := by
  have e := compL_pure (own := [2]) (tg := .inl 2) (test := b_set_of_T1 c) (elt := b_set_of_E2 c) (its := (List.range v).map fun k => .int (k : Nat)) (b := false) (fr := [some (.d (.int v)), some (.d (.int (n : Nat))), none])
    (fun k => bt n k == 1) (fun k => .d (.int (k : Nat))) (fun k : Nat => .int (k : Nat)) (List.range v) [] (fun x m => by
      refine ⟨[some (.d (.int v)), some (.d (.int (n : Nat))), some (.d (.int (x : Nat)))], [some (.d (.int v)), some (.d (.int (n : Nat))), some (.d (.int (x : Nat)))], [some (.d (.int v)), some (.d (.int (n : Nat))), some (.d (.int (x : Nat)))], rfl, ?_, fun _ => ⟨?_, ?_⟩, fun _ => ?_⟩
      · simp only [b_set_of_T1, kP_ap, pCmp_ap, pBin_ap, pS_ap, getS_succ, getS_zero, Option.map_some, opdT_d, Option.bind_some, binD_int, op_sh, dOnly_d, pK_ap, op_and1, cmp_eq, eqD_int, kOf_some, truD_bl, ofO_some]
        congr 1
      · simp [b_set_of_E2]
      · simp
      · simp) (by rw [List.length_nil, List.length_range]; omega)
  simpa only [List.nil_append] using e
theorem setof_ok (k : Nat) {v n : Nat} (hv : 1 ≤ v ∧ v ≤ 5) (hn : n < 2 ^ v) : callC (k+4) 10 [.d (.int (v : Nat)), .d (.int (n : Nat))] = .ok (.d (.tup ((setL v n).map .int))) [some (.d (.int (v : Nat))), some (.d (.int (n : Nat)))] := by
  rw [q_set_of]
  have c5 := cC_5 k hv
  have e := setof_e (callC (k+3)) (v := v) (n := n) (by omega)
  have c2 := cC_2ok (k+1) (i := (n : Int)) (lo := 0) (hi := q1 ((pw v : Nat) : Int)) "number" (by omega) (by have : pw v = 2 ^ v := rfl; unfold q1; omega)
  have r := range_v (show v ≤ 32 by omega)
  have p := op_pw v (by omega)
  simp [-sub_int, op_q1, b_set_of, c5, p, c2, r, e, psBack_two, setL, Function.comp_def]
def fol (v k : Nat) (b : Bool) : List Int := (List.range (2 ^ v)).map fun n => if b then bt n k else 1 - bt n k
theorem bt_01 (n k : Nat) : bt n k = 0 ∨ bt n k = 1 := by unfold bt; omega
theorem follow_ok (j : Nat) {v k : Nat} (hv : 1 ≤ v ∧ v ≤ 5) (hk : k < v) (b : Bool) : callC (j+4) 13 [.d (.int (v : Nat)), .d (.int (k : Nat)), .d (.bl b)] = .ok (.d (.tup ((fol v k b).map .int))) [some (.d (.int (v : Nat))), some (.d (.int (k : Nat))), some (.d (.bl b))] := by
  rw [q_following]
  have c5 := cC_5 j hv
  have h32 : 2 ^ v ≤ 32 := Nat.pow_le_pow_right (n := 2) (by decide) hv.2
  have e := compL_map (own := [4]) (tg := .inl 4) (elt := b_following_E1 (callC (j+3))) (its := (List.range (pw v)).map fun k => .int (k : Nat)) (b := false) (fr := [some (.d (.int v)), some (.d (.int (k : Nat))), some (.d (.bl b)), some (.d (.int (if b then 1 else 0))), none])
    (fun n => .d (.int (if b then bt n k else 1 - bt n k))) (fun k : Nat => .int (k : Nat)) (List.range (pw v)) (fun n m => by
      refine ⟨_, [some (.d (.int v)), some (.d (.int (k : Nat))), some (.d (.bl b)), some (.d (.int (if b then 1 else 0))), some (.d (.int (n : Nat)))], rfl, ?_, ?_⟩
      · rcases bt_01 n k with h | h <;> cases b <;> simp [b_following_E1, op_sh, op_and1, h]
      · simp) (by simp; unfold pw; omega)
  have c2 := cC_2ok (j+1) (i := (k : Int)) (lo := 0) (hi := q1 (v : Int)) "voter" (by omega) (by unfold q1; omega)
  have r : range1 (.int ((pw v : Nat) : Int)) = _ := range_v h32
  have ep : List.range (2 ^ v) = List.range (pw v) := rfl
  cases b <;> simp at e <;> simp [-sub_int, op_q1, b_following, c5, op_pw v (by omega), c2, r, e, psBack_three, fol, Function.comp_def, ep]
theorem tableof_ok (k : Nat) (h : Tb v t) (hX : Sq X (t.map .int)) : callC (k+4) 7 [.d (.int (v : Nat)), .d X] = .ok (.d (.tup (t.map .int))) [some (.d (.int (v : Nat))), some (.d X)] := by
  rw [q_table_of]
  have c5 := cC_5 k ⟨h.lo, h.hi⟩
  have c6 := cC_6 (k+1) hX (ints_nIns t)
  rw [bits_ok 0 h.bits] at c6
  have el : ((t.map D.int).length : Int) = ((pw v : Nat) : Int) := by rw [List.length_map, h.len]; rfl
  rw [el] at c6
  simp [b_table_of, c5, op_pw v (by have := h.hi; omega), c6, psBack_two]
/-! ### the first fall -/
def ffT (o : Option (Nat × Nat)) : T := match o with
  | some (n, k) => .d (.tup [.int (n : Nat), .int (k : Nat)])
  | none => .d .non
theorem enumD_map (t : List Int) : enumD (t.map .int) = (List.range t.length).map fun n => .tup [.int (n : Nat), .int (tg t n)] := by
  unfold enumD
  apply List.ext_getElem
  · simp
  · intro i h1 h2
    simp at h1 h2
    simp [tg, h2]
theorem ff_ok (k : Nat) (h : Tb v t) (hX : Sq X (t.map .int)) : callC (k+4) 16 [.d X] = .ok (ffT (firstFall t v)) [some (.d X)] := by
  rw [q_first_fall]
  have a := any_ok k h hX
  have hv := h.hi
  obtain ⟨fr', ⟨o1, o2, o3, rfl⟩, e⟩ := forL_search (g := .inr [3, 4]) (body := b_first_fall_L2 (callC (k+3))) (its := (List.range t.length).map fun n => .tup [.int (n : Nat), .int (tg t n)]) (b := true)
    (fun fr => ∃ o1 o2 o3, fr = [some (.d X), some (.d (.tup (t.map .int))), some (.d (.int (v : Nat))), o1, o2, o3]) (fun n => .tup [.int (n : Nat), .int (tg t n)])
    (fun n => ((List.range v).find? (fallAt t n)).map fun k => .d (.tup [.int (n : Nat), .int (k : Nat)])) (List.range t.length) [some (.d X), some (.d (.tup (t.map .int))), some (.d (.int (v : Nat))), none, none, none] ⟨_, _, _, rfl⟩ (fun n m fr ⟨o1, o2, o3, hf⟩ => by
      subst hf
      refine ⟨_, rfl, ?_⟩
      have hn := List.mem_range.mp m
      obtain ⟨fr', ⟨p, rfl⟩, e⟩ := forL_search (g := .inl 5) (body := b_first_fall_L1 (callC (k+3))) (its := (List.range v).map fun k => .int (k : Nat)) (b := false)
        (fun fr => ∃ p, fr = [some (.d X), some (.d (.tup (t.map .int))), some (.d (.int (v : Nat))), some (.d (.int (n : Nat))), some (.d (.int (tg t n))), p]) (fun k : Nat => .int (k : Nat))
        (fun k => if fallAt t n k then some (.d (.tup [.int (n : Nat), .int (k : Nat)])) else none) (List.range v) [some (.d X), some (.d (.tup (t.map .int))), some (.d (.int (v : Nat))), some (.d (.int (n : Nat))), some (.d (.int (tg t n))), o3] ⟨_, rfl⟩ (fun k2 m2 fr ⟨p, hf⟩ => by
          subst hf
          exact ⟨_, rfl, _, ⟨_, rfl⟩, ff_L1 _ h hn (List.mem_range.mp m2)⟩)
      refine ⟨_, ⟨some (.d (.int (n : Nat))), some (.d (.int (tg t n))), p, rfl⟩, ?_⟩
      · have es : ∀ l : List Nat, l.findSome? (fun k => if fallAt t n k then some (T.d (.tup [.int (n : Nat), .int (k : Nat)])) else none) = (l.find? (fallAt t n)).map fun k => T.d (.tup [.int (n : Nat), .int (k : Nat)]) := by
          intro l
          induction l with
          | nil => rfl
          | cons x r ih =>
            rw [List.findSome?_cons, List.find?_cons]
            cases fallAt t n x
            · exact ih
            · rfl
        rw [es] at e
        simp [b_first_fall_L2, range_v (show v ≤ 32 by omega), e]
        cases (List.range v).find? (fallAt t n) <;> simp)
  simp [b_first_fall, a, enumD_map, e]
  have eq : (List.range t.length).findSome? (fun n => ((List.range v).find? (fallAt t n)).map fun k => T.d (.tup [.int (n : Nat), .int (k : Nat)])) = (firstFall t v).map fun p => T.d (.tup [.int (p.1 : Nat), .int (p.2 : Nat)]) := by
    unfold firstFall
    generalize List.range t.length = l
    induction l with
    | nil => rfl
    | cons x r ih =>
      rw [List.findSome?_cons, List.findSome?_cons]
      cases (List.range v).find? (fallAt t x)
      · exact ih
      · rfl
  rw [eq]
  cases firstFall t v with
  | none => simp [psBack_one, ffT]
  | some p => simp [psBack_one, ffT]
theorem rising_ok (k : Nat) (h : Tb v t) (hX : Sq X (t.map .int)) : callC (k+5) 17 [.d X] = .ok (.d (.bl (firstFall t v).isNone)) [some (.d X)] := by
  rw [q_is_rising]
  have a := ff_ok k h hX
  cases e : firstFall t v with
  | none => rw [e] at a; simp [b_is_rising, a, psBack_one, ffT, cmpD]
  | some p => rw [e] at a; simp [b_is_rising, a, psBack_one, ffT, cmpD]
end Bw

set_option maxHeartbeats 1000000
namespace Bw
open PySem PySem.Spec PyProof.Rows L2
open K02 (bt Bits tg sz fallAt heardP heardL firstFall sizedL)
variable {v : Nat} {t : List Int} {X : D}
/-! ### by sizes -/
theorem setL_len : ∀ v, v < 6 → ∀ n, n < 2 ^ v → (setL v n).length = sz n := by
  have h : (List.range 6).all (fun v => (List.range (2 ^ v)).all fun n => decide ((setL v n).length = sz n)) = true := by decide +kernel
  intro v hv n hn
  simp only [List.all_eq_true, List.mem_range, decide_eq_true_eq] at h
  exact h v hv n hn
def encD (d : List (Nat × Int)) : List (Key × D) := d.map fun p => (.inl ((p.1 : Nat) : Int), .int p.2)
theorem encD_len (d : List (Nat × Int)) : (encD d).length = d.length := by simp [encD]
theorem encD_app (d : List (Nat × Int)) (s : Nat) (e : Int) : encD d ++ [(.inl ((s : Nat) : Int), .int e)] = encD (d ++ [(s, e)]) := by simp [encD]
theorem findK_enc (s : Nat) : ∀ d : List (Nat × Int), findK (.inl ((s : Nat) : Int)) (encD d) = (d.lookup s).map .int
  | [] => rfl
  | (a, b) :: r => by
    show findK _ ((.inl ((a : Nat) : Int), .int b) :: encD r) = _
    rw [findK, List.lookup_cons]
    by_cases h : s = a
    · subst h; simp
    · rw [if_neg (fun e => h (by have := Sum.inl.inj e; omega)), findK_enc s r]
      have hb : (s == a) = false := beq_eq_false_iff_ne.mpr h
      rw [hb]
theorem sized_L1 (k : Nat) (h : Tb v t) {n : Nat} (hn : n < t.length) (d : List (Nat × Int)) (hd : d.length < 64) (o : Option T) :
    b_is_sized_L1 (callC (k+4)) [some (.d X), some (.d (.tup (t.map .int))), some (.d (.int (v : Nat))), some (.dic (encD d)), some (.d (.int (n : Nat))), some (.d (.int (tg t n))), o] =
    match d.lookup (sz n) with
    | some w => if w = tg t n then .ok .nx [some (.d X), some (.d (.tup (t.map .int))), some (.d (.int (v : Nat))), some (.dic (encD d)), some (.d (.int (n : Nat))), some (.d (.int (tg t n))), some (.d (.int (sz n : Nat)))]
      else .ok (.rt (.d (.bl false))) [some (.d X), some (.d (.tup (t.map .int))), some (.d (.int (v : Nat))), some (.dic (encD d)), some (.d (.int (n : Nat))), some (.d (.int (tg t n))), some (.d (.int (sz n : Nat)))]
    | none => .ok .nx [some (.d X), some (.d (.tup (t.map .int))), some (.d (.int (v : Nat))), some (.dic (encD (d ++ [(sz n, tg t n)]))), some (.d (.int (n : Nat))), some (.d (.int (tg t n))), some (.d (.int (sz n : Nat)))] := by
  have hh := h.hi
  have hn' : n < 2 ^ v := by rw [← h.len]; exact hn
  have so := setof_ok k ⟨h.lo, h.hi⟩ hn'
  have sl := setL_len v (by omega) n hn'
  have hb : Nat.blt (encD d).length 16777216 = true := by rw [encD_len, Nat.blt_eq]; omega
  have fk := findK_enc (sz n) d
  cases hq : d.lookup (sz n) with
  | none =>
    rw [hq] at fk
    simp [b_is_sized_L1, so, sl, hb, fk, encD_app]
  | some w =>
    rw [hq] at fk
    by_cases hw : w = tg t n
    · simp [b_is_sized_L1, so, sl, hb, fk, hw]
    · simp [b_is_sized_L1, so, sl, hb, fk, hw]
theorem sized_loop (k : Nat) (h : Tb v t) (its : List D) : ∀ (l : List Nat) (d : List (Nat × Int)) (o1 o2 o3 : Option T), (∀ n, n ∈ l → n < t.length) → d.length + l.length < 64 → ∃ d' o1' o2' o3',
    forL (.inr [4, 5]) (b_is_sized_L1 (callC (k+4))) ⟨its, none, true⟩ (l.map fun n => .tup [.int (n : Nat), .int (tg t n)]) [some (.d X), some (.d (.tup (t.map .int))), some (.d (.int (v : Nat))), some (.dic (encD d)), o1, o2, o3] =
    srchR [some (.d X), some (.d (.tup (t.map .int))), some (.d (.int (v : Nat))), some (.dic (encD d')), o1', o2', o3'] (if sizedL t l d then none else some (.d (.bl false)))
  | [], d, o1, o2, o3, _, _ => ⟨d, o1, o2, o3, by simp [sizedL]⟩
  | n :: r, d, o1, o2, o3, hl, hd => by
    simp only [List.length_cons] at hd
    have st := sized_L1 (X := X) k h (hl n List.mem_cons_self) d (by omega) o3
    rw [List.map_cons, forL_cons]
    simp only [storeTg_r, setMany_cons, setMany_nil, frR_some, List.set_cons_succ, List.set_cons_zero, st]
    cases hq : d.lookup (sz n) with
    | none =>
      have es : sizedL t (n :: r) d = sizedL t r (d ++ [(sz n, tg t n)]) := by rw [sizedL, hq]
      rw [es]
      dsimp only
      rw [stepL_nx]
      exact sized_loop k h its r _ _ _ _ (fun m hm => hl m (List.mem_cons_of_mem _ hm)) (by simp; omega)
    | some w =>
      have es : sizedL t (n :: r) d = if w = tg t n then sizedL t r d else false := by rw [sizedL, hq]
      rw [es]
      dsimp only
      by_cases hw : w = tg t n
      · rw [if_pos hw, if_pos hw, stepL_nx]
        exact sized_loop k h its r _ _ _ _ (fun m hm => hl m (List.mem_cons_of_mem _ hm)) (by omega)
      · rw [if_neg hw, if_neg hw, stepL_rt]
        exact ⟨d, _, _, _, rfl⟩
theorem sized_ok (k : Nat) (h : Tb v t) (hX : Sq X (t.map .int)) : callC (k+5) 18 [.d X] = .ok (.d (.bl (K02.bySize t))) [some (.d X)] := by
  rw [q_is_sized]
  have a := any_ok (k+1) h hX
  have hl := h.le
  obtain ⟨d', o1, o2, o3, e⟩ := sized_loop (X := X) k h ((List.range t.length).map fun n => .tup [.int (n : Nat), .int (tg t n)]) (List.range t.length) [] none none none (fun n m => List.mem_range.mp m) (by simp; omega)
  rw [K02.sized_eq] at e
  have e0 : encD [] = [] := rfl
  rw [e0] at e
  simp [b_is_sized, a, enumD_map, e]
  cases K02.bySize t <;> simp [psBack_one]
/-! ### who is heard -/
theorem heard_ok (k : Nat) (h : Tb v t) (hX : Sq X (t.map .int)) : callC (k+4) 15 [.d X] = .ok (.d (.tup (((List.range v).filter (heardP t)).map fun k => .int ((k : Nat) : Int)))) [some (.d X)] := by
  rw [q_heard_in]
  have a := any_ok k h hX
  have hv := h.hi
  have hl := h.le
  have hlen := h.len
  have e := compL_pure (own := [3]) (tg := .inl 3) (test := b_heard_in_T2 (callC (k+3))) (elt := b_heard_in_E3 (callC (k+3))) (its := (List.range v).map fun k => .int (k : Nat)) (b := false) (fr := [some (.d X), some (.d (.tup (t.map .int))), some (.d (.int (v : Nat))), none, none])
    (heardP t) (fun k => .d (.int (k : Nat))) (fun k : Nat => .int (k : Nat)) (List.range v) [] (fun x m => by
      have hx := List.mem_range.mp m
      refine ⟨[some (.d X), some (.d (.tup (t.map .int))), some (.d (.int (v : Nat))), some (.d (.int (x : Nat))), none], [some (.d X), some (.d (.tup (t.map .int))), some (.d (.int (v : Nat))), some (.d (.int (x : Nat))), none], [some (.d X), some (.d (.tup (t.map .int))), some (.d (.int (v : Nat))), some (.d (.int (x : Nat))), none], by simp, ?_, fun _ => ⟨?_, ?_⟩, fun _ => ?_⟩
      · have e := compL_map (own := [4]) (tg := .inl 4) (elt := b_heard_in_E1 (callC (k+3))) (its := (List.range t.length).map fun k => .int (k : Nat)) (b := false) (fr := [some (.d X), some (.d (.tup (t.map .int))), some (.d (.int (v : Nat))), some (.d (.int (x : Nat))), none])
          (fun n => .d (.bl (tg t n != tg t (n ^^^ 2 ^ x)))) (fun k : Nat => .int (k : Nat)) (List.range t.length) (fun n mn => by
            have hn := List.mem_range.mp mn
            have hx2 : n ^^^ pw x < t.length := by
              rw [hlen]
              exact Nat.xor_lt_two_pow (by rw [← hlen]; exact hn) (Nat.pow_lt_pow_right (by decide) hx)
            refine ⟨_, [some (.d X), some (.d (.tup (t.map .int))), some (.d (.int (v : Nat))), some (.d (.int (x : Nat))), some (.d (.int (n : Nat)))], rfl, ?_, by simp⟩
            simp [b_heard_in_E1, op_pw x (by omega), op_xor n (by omega) x (by omega), idx_t hn, idx_t hx2]
            rw [show tg t (n ^^^ pw x) = tg t (n ^^^ 2 ^ x) from rfl]
            exact Bool.eq_iff_iff.mpr (by simp)) (by simp; omega)
        have r : range1 (.int ((t.length : Nat) : Int)) = _ := range_v hl
        simp [b_heard_in_T2, r, e, Function.comp_def]
        rfl
      · simp [b_heard_in_E3]
      · simp
      · simp) (by simp; omega)
  have r : range1 (.int ((v : Nat) : Int)) = _ := range_v (by omega)
  simp [b_heard_in, a, r, e, psBack_one, Function.comp_def]
/-! ### whom it follows -/
def folT (t : List Int) (k : Nat) : Option T := if t = fol v k true then some (.d (.tup [.int (k : Nat), .int 1])) else if t = fol v k false then some (.d (.tup [.int (k : Nat), .int 0])) else none
def orNone : Option T → T
  | some t => t
  | none => .d .non
theorem followed_ok (k : Nat) (h : Tb v t) (hX : Sq X (t.map .int)) : callC (k+5) 14 [.d X] = .ok (orNone ((List.range v).findSome? (folT (v := v) t))) [some (.d X)] := by
  rw [q_followed]
  have a := any_ok (k+1) h hX
  have hv := h.hi
  obtain ⟨fr', ⟨o1, o2, rfl⟩, e⟩ := forL_search (g := .inl 3) (body := b_followed_L2 (callC (k+4))) (its := (List.range v).map fun k => .int (k : Nat)) (b := false)
    (fun fr => ∃ o1 o2, fr = [some (.d X), some (.d (.tup (t.map .int))), some (.d (.int (v : Nat))), o1, o2]) (fun k : Nat => .int (k : Nat)) (folT (v := v) t) (List.range v)
    [some (.d X), some (.d (.tup (t.map .int))), some (.d (.int (v : Nat))), none, none] ⟨_, _, rfl⟩ (fun x m fr ⟨o1, o2, hf⟩ => by
      subst hf
      have hx := List.mem_range.mp m
      have f1 := follow_ok k ⟨h.lo, h.hi⟩ hx true
      have f0 := follow_ok k ⟨h.lo, h.hi⟩ hx false
      refine ⟨_, rfl, ?_⟩
      by_cases h1 : t = fol v x true
      · refine ⟨[some (.d X), some (.d (.tup (t.map .int))), some (.d (.int (v : Nat))), some (.d (.int (x : Nat))), some (.d (.int 1))], ⟨_, _, rfl⟩, ?_⟩
        unfold folT
        rw [if_pos h1]
        simp [b_followed_L2, b_followed_L1, lineB, forL_cons, f1, ← h1]
      · by_cases h0 : t = fol v x false
        · refine ⟨[some (.d X), some (.d (.tup (t.map .int))), some (.d (.int (v : Nat))), some (.d (.int (x : Nat))), some (.d (.int 0))], ⟨_, _, rfl⟩, ?_⟩
          unfold folT
          rw [if_neg h1, if_pos h0]
          simp [b_followed_L2, b_followed_L1, lineB, forL_cons, f1, f0, h1, ← h0]
        · refine ⟨[some (.d X), some (.d (.tup (t.map .int))), some (.d (.int (v : Nat))), some (.d (.int (x : Nat))), some (.d (.int 0))], ⟨_, _, rfl⟩, ?_⟩
          unfold folT
          rw [if_neg h1, if_neg h0]
          simp [b_followed_L2, b_followed_L1, lineB, forL_cons, f1, f0, h1, h0])
  have r : range1 (.int ((v : Nat) : Int)) = _ := range_v (by omega)
  simp [b_followed, a, r, e]
  cases (List.range v).findSome? (folT (v := v) t) <;> simp [psBack_one, orNone]
end Bw

set_option maxHeartbeats 1000000
namespace Bw
open PySem PySem.Spec PyProof.Rows L2
open K02 (bt Bits tg sz fallAt falls heardP heardL firstFall sizedL)
variable {v : Nat} {t : List Int} {X : D}
theorem cC_23 (k : Nat) (x : D) (h : nIns x = true) : callC (k+1) 23 [.d x] = .ok (.d (.bl (isI x))) [some (.d x)] := by
  cases x with
  | ins => cases h
  | _ => rfl
@[simp] theorem eqD_bl {a b : Bool} : eqD (.bl a) (.bl b) = some (decide (a = b)) := by
  cases a <;> cases b <;> rfl
theorem cC_24 (k : Nat) (a b : Bool) : callC (k+1) 24 [.d (.bl a), .d (.bl b)] = .ok (.d (.bl (decide (a = b)))) [some (.d (.bl a)), some (.d (.bl b))] := by
  rw [q__law_bool]
  simp [b__law_bool, psBack_two]
theorem bits_v (k : Nat) {v : Nat} (hv : 1 ≤ v ∧ v ≤ 5) : callC (k+1) 25 [.d (.int (v : Nat))] = .ok (.d (.int ((2 ^ v : Nat) : Int))) [some (.d (.int (v : Nat)))] := by
  obtain rfl | rfl | rfl | rfl | rfl : v = 1 ∨ v = 2 ∨ v = 3 ∨ v = 4 ∨ v = 5 := by omega
  all_goals kernel_rfl
theorem op_fd (n p : Nat) (h : 0 < p) (h2 : p < 1073741824) : intOp .FloorDiv (n : Int) (p : Int) = some ((n / p : Nat) : Int) := by
  have a : (0 : Int) < (p : Int) ∧ (p : Int) < 1073741824 := by omega
  simp only [intOp, a, and_self, if_true]
  rfl
theorem op_md (n p : Nat) (h : 0 < p) : intOp .Mod (n : Int) (p : Int) = some ((n % p : Nat) : Int) := by
  have a : (0 : Int) < (p : Int) := by omega
  simp only [intOp, a, if_true]
  rfl
theorem powt (k : Nat) (h : k < 5) : idxD (.tup [.int 1, .int 2, .int 4, .int 8, .int 16]) (.int (k : Int)) = some (.int ((pw k : Nat) : Int)) := by
  obtain rfl | rfl | rfl | rfl | rfl : k = 0 ∨ k = 1 ∨ k = 2 ∨ k = 3 ∨ k = 4 := by omega
  all_goals rfl
theorem in_ok (j n k : Nat) (hk : k < 5) : callC (j+1) 26 [.d (.int (n : Nat)), .d (.int (k : Nat))] = .ok (.d (.int (bt n k))) [some (.d (.int (n : Nat))), some (.d (.int (k : Nat)))] := by
  rw [q__law_in]
  have hp : pw k < 1073741824 := Nat.lt_of_le_of_lt (Nat.pow_le_pow_right (n := 2) (by decide) (show k ≤ 5 by omega)) (by decide)
  have h1 := op_fd n (pw k) (Nat.two_pow_pos k) hp
  have h2 := op_md (n / pw k) 2 (by decide)
  have e : (bt n k) = (((n / pw k % 2 : Nat)) : Int) := rfl
  have h2' : intOp .Mod (((n / pw k : Nat)) : Int) 2 = some (bt n k) := h2
  generalize ((n / pw k : Nat) : Int) = q at h1 h2'
  simp [b__law_in, powt k hk, lineB, h1, h2', psBack_two]
theorem pow_ok (j k : Nat) (hk : k < 5) : callC (j+1) 32 [.d (.int (k : Nat))] = .ok (.d (.int ((pw k : Nat) : Int))) [some (.d (.int (k : Nat)))] := by
  rw [q__law_power]
  simp [b__law_power, powt k hk, lineB, psBack_one]
theorem size_ok (j n : Nat) : callC (j+2) 27 [.d (.int (n : Nat))] = .ok (.d (.int ((sz n : Nat) : Int))) [some (.d (.int (n : Nat)))] := by
  rw [q__law_size]
  have e := compL_map (own := [1]) (tg := .inl 1) (elt := b__law_size_E1 (callC (j+1))) (its := (List.range 5).map fun k => .int (k : Nat)) (b := false) (fr := [some (.d (.int (n : Nat))), none])
    (fun k => .d (.int (bt n k))) (fun k : Nat => .int (k : Nat)) (List.range 5) (fun x m => by
      have i := in_ok j n x (List.mem_range.mp m)
      refine ⟨_, [some (.d (.int (n : Nat))), some (.d (.int (x : Nat)))], rfl, ?_, by simp⟩
      simp [b__law_size_E1, i]) (by simp)
  have r : range1 (.int 5) = some ⟨(List.range 5).map fun k => .int (k : Nat), none, false⟩ := range_v (v := 5) (by decide)
  have es : ((List.range 5).map fun k => bt n k).sum = ((sz n : Nat) : Int) := by
    show bt n 0 + (bt n 1 + (bt n 2 + (bt n 3 + (bt n 4 + 0)))) = _
    unfold bt sz
    simp
    omega
  generalize List.range 5 = l at r e es
  simp [b__law_size, r, e, Function.comp_def, es, psBack_one]
theorem ldual_ok (k : Nat) (h : Tb v t) : callC (k+1) 28 [.d (.lst (t.map .int))] = .ok (.lst (t.reverse.map fun i => .d (.int (1 - i)))) [some (.d (.lst (t.map .int)))] := by
  rw [q__law_dual]
  have e := compL_map (own := [1]) (tg := .inl 1) (elt := b__law_dual_E1 (callC k)) (its := (t.map D.int).reverse) (b := false) (fr := [some (.d (.lst (t.map .int))), none]) (fun i : Int => .d (.int (1 - i))) D.int t.reverse (fun x m => ⟨_, _, rfl, by simp [b__law_dual_E1]; rfl, by simp⟩) (by have := h.le; simp; omega)
  simp only [List.map_reverse] at e
  simp [b__law_dual, e, psBack_one]
theorem inD_two (s l : Int) : inD (.int s) (.tup [.int 0, .int l]) = some (decide (s = 0 ∨ s = l)) := by
  show some (inV _ _) = _
  unfold inV
  simp [eqV]
  exact Bool.eq_iff_iff.mpr (by simp; omega)
theorem lflat_ok (k : Nat) : callC (k+1) 29 [.d (.lst (t.map .int))] = .ok (.d (.bl (decide (t.sum = 0 ∨ t.sum = t.length)))) [some (.d (.lst (t.map .int)))] := by
  rw [q__law_flat]
  simp [b__law_flat, psBack_one, inD_two, lineB]
theorem told_ok (k : Nat) (a b : List Int) (ha : a.length ≤ 64) : callC (k+2) 31 [.d (.tup (a.map .int)), .d (.lst (b.map .int))] = .ok (.d (.bl (decide (a = b)))) [some (.d (.tup (a.map .int))), some (.d (.lst (b.map .int)))] := by
  rw [q__law_row_told]
  by_cases hl : a.length = b.length
  · have e := compL_map (own := [2]) (tg := .inl 2) (elt := b__law_row_told_E1 (callC (k+1))) (its := a.map D.int) (b := false) (fr := [some (.d (.tup (a.map .int))), some (.d (.lst (b.map .int))), none]) (fun i : Int => .d (.bl true)) D.int a (fun x m => by
      refine ⟨_, [some (.d (.tup (a.map .int))), some (.d (.lst (b.map .int))), some (.d (.int x))], rfl, ?_, by simp⟩
      simp [b__law_row_told_E1, cC_23 k (.int x) rfl, isI]) (by omega)
    have bb : blsD (a.map fun _ => D.bl true) = some (a.map fun _ => true) := blsD_mp a _
    have ba : (a.map fun _ => true).all id = true := by simp
    simp [b__law_row_told, hl, e, Function.comp_def, bb, ba, psBack_two]
  · have hl' : ¬ ((a.length : Int) = b.length) := by omega
    have hne : a ≠ b := fun z => hl (by rw [z])
    simp [b__law_row_told, hl, hl', hne, psBack_two]
end Bw

set_option maxHeartbeats 1000000
namespace Bw
open PySem PySem.Spec PyProof.Rows L2
open K02 (bt Bits tg sz fallAt falls heardP heardL firstFall sizedL bySize)
variable {v : Nat} {t : List Int} {X : D}
/-! ### the law's falls -/
def pr2 (p : Nat × Nat) : D := .tup [.int ((p.1 : Nat) : Int), .int ((p.2 : Nat) : Int)]
def fallG (t : List Int) (n k : Nat) : List (Nat × Nat) := if fallAt t n k then [(n, k)] else []
theorem falls_L1 (j : Nat) (h : Tb v t) {n k : Nat} (hn : n < t.length) (hk : k < v) (s : List (Nat × Nat)) (hs : s.length < 1000) :
    b__law_falls_L1 (callC (j+1)) [some (.d (.lst (t.map .int))), some (.d (.int (v : Nat))), some (.lst (s.map fun p => .d (pr2 p))), some (.d (.int (n : Nat))), some (.d (.int (k : Nat)))] =
    .ok .nx [some (.d (.lst (t.map .int))), some (.d (.int (v : Nat))), some (.lst ((s ++ fallG t n k).map fun p => .d (pr2 p))), some (.d (.int (n : Nat))), some (.d (.int (k : Nat)))] := by
  have hh := h.hi
  have i := in_ok j n k (by omega)
  have p := pow_ok j k (by omega)
  have hb : Nat.blt s.length 16777216 = true := by rw [Nat.blt_eq]; omega
  unfold fallG fallAt
  by_cases h2 : bt n k = 0
  · have hl := fall_len h hn hk h2
    by_cases h1 : tg t n = 1
    · by_cases h3 : tg t (n + 2 ^ k) = 0
      · simp [b__law_falls_L1, i, p, h1, h2, h3, idx_l hn, idx_l2 hl, lineB, hb, pr2]
      · simp [b__law_falls_L1, i, p, h1, h2, h3, idx_l hn, idx_l2 hl, lineB, hb, pr2]
    · simp [b__law_falls_L1, i, p, h1, h2, idx_l hn, idx_l2 hl, lineB, hb, pr2]
  · simp [b__law_falls_L1, i, p, h2, lineB, hb, pr2]
theorem falls_eq (t : List Int) (v : Nat) : (List.range t.length).flatMap (fun n => (List.range v).flatMap (fallG t n)) = falls t v := by
  unfold falls
  congr 1
  funext n
  exact flatMap_ite (fallAt t n) (fun k => (n, k)) _
theorem fallG_len (t : List Int) (n k : Nat) : (fallG t n k).length ≤ 1 := by unfold fallG; split <;> simp
theorem range_split {n : Nat} {pre post : List Nat} {x : Nat} (e : List.range n = pre ++ x :: post) : pre.length < n ∧ x ∈ List.range n := by
  have := congrArg List.length e
  simp at this
  exact ⟨by omega, by rw [e]; simp⟩
theorem falls_ok (j : Nat) (h : Tb v t) : callC (j+2) 33 [.d (.lst (t.map .int)), .d (.int (v : Nat))] = .ok (.lst ((falls t v).map fun p => .d (pr2 p))) [some (.d (.lst (t.map .int))), some (.d (.int (v : Nat)))] := by
  rw [q__law_falls]
  have hv := h.hi
  have hl := h.le
  let A : List (Nat × Nat) → Option T := fun s => some (.lst (s.map fun p => .d (pr2 p)))
  obtain ⟨fr', ⟨o1, o2, rfl⟩, e⟩ := forL_foldP (g := .inl 3) (body := b__law_falls_L2 (callC (j+1))) (its := (List.range t.length).map fun k => .int (k : Nat)) (b := false)
    (fun s fr => ∃ o1 o2, fr = [some (.d (.lst (t.map .int))), some (.d (.int (v : Nat))), some (.lst (s.map fun p => .d (pr2 p))), o1, o2]) (fun k : Nat => .int (k : Nat)) (fun s n => s ++ (List.range v).flatMap (fallG t n)) (List.range t.length) []
    (fun pre n post he fr ⟨o1, o2, hf⟩ => by
      subst hf
      obtain ⟨hp, hm⟩ := range_split he
      have hn := List.mem_range.mp hm
      rw [foldl_app, List.nil_append]
      have hs : (pre.flatMap fun n => (List.range v).flatMap (fallG t n)).length ≤ 160 := by
        have h1 := flatMap_len (fun n => (List.range v).flatMap (fallG t n)) 5 (fun n => by
          have := flatMap_len (fallG t n) 1 (fallG_len t n) (List.range v)
          simp only [List.length_range, Nat.mul_one] at this
          omega) pre
        have : pre.length * 5 ≤ 32 * 5 := Nat.mul_le_mul_right 5 (by omega)
        omega
      refine ⟨_, rfl, ?_⟩
      obtain ⟨fr', ⟨o3, rfl⟩, e⟩ := forL_foldP (g := .inl 4) (body := b__law_falls_L1 (callC (j+1))) (its := (List.range v).map fun k => .int (k : Nat)) (b := false)
        (fun s fr => ∃ o3, fr = [some (.d (.lst (t.map .int))), some (.d (.int (v : Nat))), some (.lst (s.map fun p => .d (pr2 p))), some (.d (.int (n : Nat))), o3]) (fun k : Nat => .int (k : Nat)) (fun s k => s ++ fallG t n k) (List.range v) (pre.flatMap fun n => (List.range v).flatMap (fallG t n))
        (fun pre2 k post2 he2 fr ⟨o3, hf⟩ => by
          subst hf
          obtain ⟨hp2, hm2⟩ := range_split he2
          have hk := List.mem_range.mp hm2
          rw [foldl_app]
          have hs2 : (pre2.flatMap (fallG t n)).length ≤ 5 := by
            have := flatMap_len (fallG t n) 1 (fallG_len t n) pre2
            omega
          exact ⟨_, rfl, _, ⟨_, rfl⟩, falls_L1 j h hn hk _ (by rw [List.length_append]; omega)⟩)
        (List.range v) [] [some (.d (.lst (t.map .int))), some (.d (.int (v : Nat))), some (.lst ((pre.flatMap fun n => (List.range v).flatMap (fallG t n)).map fun p => .d (pr2 p))), some (.d (.int (n : Nat))), o2] rfl ⟨_, rfl⟩
      rw [foldl_app] at e
      refine ⟨[some (.d (.lst (t.map .int))), some (.d (.int (v : Nat))), some (.lst (((pre.flatMap fun n => (List.range v).flatMap (fallG t n)) ++ (List.range v).flatMap (fallG t n)).map fun p => .d (pr2 p))), some (.d (.int (n : Nat))), o3], ⟨_, _, rfl⟩, ?_⟩
      simp only [b__law_falls_L2, seqM_ap, sFor_ap, srR1_ap, oP_ap, pS_ap, List.set_cons_succ, List.set_cons_zero, getS_succ, getS_zero, Option.map_some, opdT_d, oOf_some, bnd_ok, range_v (show v ≤ 32 by omega), ofO_some, guardFree_none, if_true, e, sq_nx, sN_ap])
    (List.range t.length) [] [some (.d (.lst (t.map .int))), some (.d (.int (v : Nat))), some (.lst []), none, none] rfl ⟨_, _, rfl⟩
  rw [foldl_app, List.nil_append, falls_eq] at e
  have r : range1 (.int ((t.length : Nat) : Int)) = _ := range_v hl
  simp [b__law_falls, lineB, r, e, falls_eq, foldl_app, psBack_two]
/-! ### the law's heard -/
def heardC (t : List Int) (k n : Nat) : Bool := bt n k == 0 && tg t n != tg t (n + 2 ^ k)
theorem inV_nat (k : Nat) : ∀ s : List Nat, inV (.int ((k : Nat) : Int)) (s.map fun i => V.int ((i : Nat) : Int)) = s.contains k
  | [] => rfl
  | a :: r => by
    have ih := inV_nat k r
    unfold inV at ih ⊢
    rw [List.map_cons, List.any_cons, ih, List.contains_cons]
    congr 1
    show ((a : Int) == (k : Int)) = (k == a)
    exact Bool.eq_iff_iff.mpr (by simp; omega)
theorem flat_nats : ∀ s : List Nat, flatDs (s.map fun i => .int ((i : Nat) : Int)) = some (s.map fun i => V.int ((i : Nat) : Int))
  | [] => rfl
  | a :: r => by rw [List.map_cons, flatDs, flat_nats r]; rfl
theorem inD_nat (k : Nat) (s : List Nat) : inD (.int ((k : Nat) : Int)) (.lst (s.map fun i => .int ((i : Nat) : Int))) = some (s.contains k) := by
  rw [← inV_nat]
  unfold inD
  simp only [flatD, flat_nats]
theorem heard_L1 (j : Nat) (h : Tb v t) {n k : Nat} (hn : n < t.length) (hk : k < v) (s : List Nat) (hs : s.length < 1000) :
    b__law_heard_L1 (callC (j+1)) [some (.d (.lst (t.map .int))), some (.d (.int (v : Nat))), some (.lst (s.map fun i => .d (.int ((i : Nat) : Int)))), some (.d (.int (k : Nat))), some (.d (.int (n : Nat)))] =
    .ok .nx [some (.d (.lst (t.map .int))), some (.d (.int (v : Nat))), some (.lst ((if heardC t k n && !s.contains k then s ++ [k] else s).map fun i => .d (.int ((i : Nat) : Int)))), some (.d (.int (k : Nat))), some (.d (.int (n : Nat)))] := by
  have hh := h.hi
  have i := in_ok j n k (by omega)
  have p := pow_ok j k (by omega)
  have hb : Nat.blt s.length 16777216 = true := by rw [Nat.blt_eq]; omega
  have ids := inD_nat k s
  unfold heardC
  by_cases h2 : bt n k = 0
  · have hl := fall_len h hn hk h2
    by_cases h3 : tg t n = tg t (n + 2 ^ k)
    · simp [b__law_heard_L1, i, p, h2, h3, idx_l hn, idx_l2 hl, hb]
    · cases hc : s.contains k with
      | true =>
        rw [hc] at ids
        simp [b__law_heard_L1, i, p, h2, h3, idx_l hn, idx_l2 hl, hb, Function.comp_def, ids]
      | false =>
        rw [hc] at ids
        simp [b__law_heard_L1, i, p, h2, h3, idx_l hn, idx_l2 hl, hb, Function.comp_def, ids]
  · simp [b__law_heard_L1, i, p, h2, hb]
theorem filter_foldl (p : Nat → Bool) : ∀ (l s : List Nat), l.foldl (fun s k => if p k then s ++ [k] else s) s = s ++ l.filter p
  | [], s => by simp
  | x :: r, s => by
    rw [List.foldl_cons, filter_foldl p r]
    cases h : p x
    · rw [List.filter_cons_of_neg (by simp [h])]; simp
    · rw [List.filter_cons_of_pos h]; simp
theorem lheard_ok (j : Nat) (h : Tb v t) : callC (j+2) 34 [.d (.lst (t.map .int)), .d (.int (v : Nat))] = .ok (.lst (((List.range v).filter (heardL t)).map fun i => .d (.int ((i : Nat) : Int)))) [some (.d (.lst (t.map .int))), some (.d (.int (v : Nat)))] := by
  rw [q__law_heard]
  have hv := h.hi
  have hl := h.le
  have r : range1 (.int ((t.length : Nat) : Int)) = _ := range_v hl
  obtain ⟨fr', ⟨o1, o2, rfl⟩, e⟩ := forL_foldP (g := .inl 3) (body := b__law_heard_L2 (callC (j+1))) (its := (List.range v).map fun k => .int (k : Nat)) (b := false)
    (fun s fr => ∃ o1 o2, fr = [some (.d (.lst (t.map .int))), some (.d (.int (v : Nat))), some (.lst (s.map fun i => .d (.int ((i : Nat) : Int)))), o1, o2]) (fun k : Nat => .int (k : Nat)) (fun s k => if heardL t k then s ++ [k] else s) (List.range v) []
    (fun pre k post he fr ⟨o1, o2, hf⟩ => by
      subst hf
      obtain ⟨hp, hm⟩ := range_split he
      have hk := List.mem_range.mp hm
      rw [filter_foldl, List.nil_append]
      have hs : (pre.filter (heardL t)).length ≤ 5 := Nat.le_trans (List.length_filter_le _ _) (by omega)
      have hnk : (pre.filter (heardL t)).contains k = false := by
        have nd : (List.range v).Nodup := List.nodup_range
        rw [he] at nd
        have := (List.nodup_append.mp nd).2.2
        rw [← Bool.not_eq_true, List.contains_iff_mem]
        intro m
        exact this k (List.mem_filter.mp m).1 k (by simp) rfl
      refine ⟨_, rfl, ?_⟩
      obtain ⟨fr', ⟨o3, rfl⟩, e⟩ := forL_fold (g := .inl 4) (body := b__law_heard_L1 (callC (j+1))) (its := (List.range t.length).map fun k => .int (k : Nat)) (b := false)
        (fun (b : Bool) fr => ∃ o3, fr = [some (.d (.lst (t.map .int))), some (.d (.int (v : Nat))), some (.lst ((if b then pre.filter (heardL t) ++ [k] else pre.filter (heardL t)).map fun i => .d (.int ((i : Nat) : Int)))), some (.d (.int (k : Nat))), o3]) (fun k : Nat => .int (k : Nat)) (fun b n => b || heardC t k n) (List.range t.length) false
        [some (.d (.lst (t.map .int))), some (.d (.int (v : Nat))), some (.lst ((pre.filter (heardL t)).map fun i => .d (.int ((i : Nat) : Int)))), some (.d (.int (k : Nat))), o2] ⟨_, rfl⟩
        (fun n mn b fr ⟨o3, hf⟩ => by
          subst hf
          have hn := List.mem_range.mp mn
          refine ⟨_, rfl, _, ⟨some (.d (.int (n : Nat))), rfl⟩, ?_⟩
          have st := heard_L1 j h hn hk (if b then pre.filter (heardL t) ++ [k] else pre.filter (heardL t)) (by
            cases b
            · show (pre.filter (heardL t)).length < 1000
              omega
            · show (pre.filter (heardL t) ++ [k]).length < 1000
              rw [List.length_append]
              show _ + 1 < 1000
              omega)
          have es : (if heardC t k n && !(if b then pre.filter (heardL t) ++ [k] else pre.filter (heardL t)).contains k then (if b then pre.filter (heardL t) ++ [k] else pre.filter (heardL t)) ++ [k] else (if b then pre.filter (heardL t) ++ [k] else pre.filter (heardL t))) = if (b || heardC t k n) then pre.filter (heardL t) ++ [k] else pre.filter (heardL t) := by
            cases b with
            | true => simp
            | false =>
              simp only [Bool.false_eq_true, if_false, hnk, Bool.not_false, Bool.and_true, Bool.false_or]
          rw [es] at st
          exact st)
      rw [foldl_or, Bool.false_or] at e
      refine ⟨[some (.d (.lst (t.map .int))), some (.d (.int (v : Nat))), some (.lst ((if heardL t k then pre.filter (heardL t) ++ [k] else pre.filter (heardL t)).map fun i => .d (.int ((i : Nat) : Int)))), some (.d (.int (k : Nat))), o3], ⟨_, _, rfl⟩, ?_⟩
      have eh : (List.range t.length).any (heardC t k) = heardL t k := rfl
      rw [eh] at e
      simp only [b__law_heard_L2, seqM_ap, sFor_ap, srR1_ap, oP_ap, pLen_ap, pS_ap, List.set_cons_succ, List.set_cons_zero, getS_succ, getS_zero, Option.map_some, Option.bind_some, opdT_d, lenD_lst, List.length_map, oOf_some, bnd_ok, r, ofO_some, guardFree_none, if_true, e, sq_nx, sN_ap])
    (List.range v) [] [some (.d (.lst (t.map .int))), some (.d (.int (v : Nat))), some (.lst []), none, none] rfl ⟨_, _, rfl⟩
  rw [filter_foldl, List.nil_append] at e
  have r2 : range1 (.int ((v : Nat) : Int)) = _ := range_v (by omega)
  simp [b__law_heard, lineB, r2, e, filter_foldl, psBack_two]
end Bw

set_option maxHeartbeats 1000000
namespace Bw
open PySem PySem.Spec PyProof.Rows L2
open K02 (bt Bits tg sz fallAt falls heardP heardL firstFall sizedL bySize)
variable {v : Nat} {t : List Int} {X : D}
def bsB (t : List Int) (a b : Nat) : Bool := sz a == sz b && tg t a != tg t b
theorem search_any (p : Nat → Bool) (r : T) : ∀ l : List Nat, l.findSome? (fun x => if p x then some r else none) = if l.any p then some r else none
  | [] => rfl
  | x :: l => by
    rw [List.findSome?_cons, List.any_cons]
    cases p x
    · exact search_any p r l
    · rfl
theorem bysize_ok (j : Nat) (h : Tb v t) : callC (j+3) 35 [.d (.lst (t.map .int))] = .ok (.d (.bl (bySize t))) [some (.d (.lst (t.map .int)))] := by
  rw [q__law_by_size]
  have hl := h.le
  obtain ⟨fr', ⟨o1, o2, rfl⟩, e⟩ := forL_search (g := .inl 1) (body := b__law_by_size_L2 (callC (j+2))) (its := (List.range t.length).map fun k => .int (k : Nat)) (b := false)
    (fun fr => ∃ o1 o2, fr = [some (.d (.lst (t.map .int))), o1, o2]) (fun k : Nat => .int (k : Nat)) (fun a => if (List.range a).any (bsB t a) then some (.d (.bl false)) else none) (List.range t.length)
    [some (.d (.lst (t.map .int))), none, none] ⟨_, _, rfl⟩ (fun a m fr ⟨o1, o2, hf⟩ => by
      subst hf
      have ha := List.mem_range.mp m
      refine ⟨_, rfl, ?_⟩
      obtain ⟨fr', ⟨o3, rfl⟩, e⟩ := forL_search (g := .inl 2) (body := b__law_by_size_L1 (callC (j+2))) (its := (List.range a).map fun k => .int (k : Nat)) (b := false)
        (fun fr => ∃ o3, fr = [some (.d (.lst (t.map .int))), some (.d (.int (a : Nat))), o3]) (fun k : Nat => .int (k : Nat)) (fun b => if bsB t a b then some (.d (.bl false)) else none) (List.range a)
        [some (.d (.lst (t.map .int))), some (.d (.int (a : Nat))), o2] ⟨_, rfl⟩ (fun b mb fr ⟨o3, hf⟩ => by
          subst hf
          have hb := List.mem_range.mp mb
          have s1 := size_ok j a
          have s2 := size_ok j b
          refine ⟨_, rfl, [some (.d (.lst (t.map .int))), some (.d (.int (a : Nat))), some (.d (.int (b : Nat)))], ⟨_, rfl⟩, ?_⟩
          have i1 : idxD (.lst (t.map .int)) (.int (a : Nat)) = _ := idx_l ha
          have i2 : idxD (.lst (t.map .int)) (.int (b : Nat)) = _ := idx_l (show b < t.length by omega)
          unfold bsB
          by_cases h1 : sz a = sz b
          · by_cases h2 : tg t a = tg t b
            · simp [b__law_by_size_L1, s1, s2, i1, i2, h1, h2]
            · simp [b__law_by_size_L1, s1, s2, i1, i2, h1, h2]
          · have h1' : ¬ ((sz a : Int) = (sz b : Int)) := by omega
            simp [b__law_by_size_L1, s1, s2, i1, i2, h1, h1'])
      rw [search_any] at e
      refine ⟨[some (.d (.lst (t.map .int))), some (.d (.int (a : Nat))), o3], ⟨_, _, rfl⟩, ?_⟩
      simp [b__law_by_size_L2, range_v (show a ≤ 32 by omega), e]
      split <;> simp)
  rw [search_any] at e
  have r : range1 (.int ((t.length : Nat) : Int)) = _ := range_v hl
  have eb : bySize t = !(List.range t.length).any fun a => (List.range a).any (bsB t a) := by
    rw [List.not_any_eq_all_not, show (fun a => !(List.range a).any (bsB t a)) = fun a => (List.range a).all fun b => !bsB t a b from funext fun a => List.not_any_eq_all_not]
    rfl
  rw [eb]
  generalize ((List.range t.length).any fun a => (List.range a).any (bsB t a)) = w at e
  simp [b__law_by_size, r, e]
  cases w <;> simp [psBack_one]
/-! ### whom the law follows -/
theorem follows_L3 (j : Nat) (h : Tb v t) {x : Nat} (hx : x < v) (o : Option T) :
    ∃ fr', (∃ o', fr' = [some (.d (.lst (t.map .int))), some (.d (.int (v : Nat))), some (.d (.int (x : Nat))), o', none, none]) ∧
    b__law_follows_L3 (callC (j+1)) [some (.d (.lst (t.map .int))), some (.d (.int (v : Nat))), some (.d (.int (x : Nat))), o, none, none] = srchR fr' (folT (v := v) t x) := by
  have hv := h.hi
  have hl := h.le
  have r : range1 (.int ((t.length : Nat) : Int)) = _ := range_v hl
  have e := compL_map (own := [4]) (tg := .inl 4) (elt := b__law_follows_E2 (callC (j+1))) (its := (List.range t.length).map fun k => .int (k : Nat)) (b := false) (fr := [some (.d (.lst (t.map .int))), some (.d (.int (v : Nat))), some (.d (.int (x : Nat))), o, none, none])
    (fun n => .d (.int (bt n x))) (fun k : Nat => .int (k : Nat)) (List.range t.length) (fun n m => by
      have i := in_ok j n x (by omega)
      refine ⟨_, [some (.d (.lst (t.map .int))), some (.d (.int (v : Nat))), some (.d (.int (x : Nat))), o, some (.d (.int (n : Nat))), none], rfl, ?_, by simp⟩
      simp [b__law_follows_E2, i]) (by simp; omega)
  have e1 : (List.range t.length).map (fun n => bt n x) = fol v x true := by unfold fol; rw [h.len]; rfl
  have eT : (List.range t.length).map (fun n => T.d (.int (bt n x))) = (fol v x true).map fun i => T.d (.int i) := by rw [← e1, List.map_map]; rfl
  rw [eT] at e
  have hfl : (fol v x true).length ≤ 32 := by rw [← e1]; simpa using hl
  generalize hf : fol v x true = f1 at e hfl
  have f0 : fol v x false = f1.map fun i => 1 - i := by rw [← hf]; unfold fol; rw [List.map_map]; rfl
  have d := compL_mapG (own := [5]) (tg := .inl 5) (elt := b__law_follows_E1 (callC (j+1))) (s := ⟨f1.map .int, some (3, .lst (f1.map fun i => .d (.int i))), false⟩) (fr := [some (.d (.lst (t.map .int))), some (.d (.int (v : Nat))), some (.d (.int (x : Nat))), some (.lst (f1.map fun i => .d (.int i))), none, none]) (guardOk_some (by simp)) (fun i : Int => .d (.int (1 - i))) D.int f1 (fun y m => ⟨_, _, rfl, by simp [b__law_follows_E1]; rfl, by simp⟩) (by omega)
  unfold folT
  rw [hf, f0]
  by_cases c1 : t = f1
  · rw [if_pos c1]
    refine ⟨_, ⟨some (.lst (f1.map fun i => .d (.int i))), rfl⟩, ?_⟩
    have q1 : eqD (.lst (t.map .int)) (.lst (f1.map .int)) = some true := by rw [eqD_lst, decide_eq_true c1]
    simp [-eqD_lst, b__law_follows_L3, r, e, Function.comp_def, q1, lineB]
  · rw [if_neg c1]
    by_cases c0 : t = f1.map fun i => 1 - i
    · rw [if_pos c0]
      refine ⟨_, ⟨some (.lst (f1.map fun i => .d (.int i))), rfl⟩, ?_⟩
      have q1 : eqD (.lst (t.map .int)) (.lst (f1.map .int)) = some false := by rw [eqD_lst, decide_eq_false c1]
      have q0 : eqD (.lst (t.map .int)) (.lst (f1.map fun i => .int (1 - i))) = some true := by
        have := eqD_lst (a := t) (b := f1.map fun i => 1 - i)
        rw [decide_eq_true c0, List.map_map] at this
        exact this
      simp [-eqD_lst, b__law_follows_L3, r, e, d, Function.comp_def, q1, q0, lineB]
    · rw [if_neg c0]
      refine ⟨_, ⟨some (.lst (f1.map fun i => .d (.int i))), rfl⟩, ?_⟩
      have q1 : eqD (.lst (t.map .int)) (.lst (f1.map .int)) = some false := by rw [eqD_lst, decide_eq_false c1]
      have q0 : eqD (.lst (t.map .int)) (.lst (f1.map fun i => .int (1 - i))) = some false := by
        have := eqD_lst (a := t) (b := f1.map fun i => 1 - i)
        rw [decide_eq_false c0, List.map_map] at this
        exact this
      simp [-eqD_lst, b__law_follows_L3, r, e, d, Function.comp_def, q1, q0, lineB]
theorem follows_ok (j : Nat) (h : Tb v t) : callC (j+2) 36 [.d (.lst (t.map .int)), .d (.int (v : Nat))] = .ok (orNone ((List.range v).findSome? (folT (v := v) t))) [some (.d (.lst (t.map .int))), some (.d (.int (v : Nat)))] := by
  rw [q__law_follows]
  have hv := h.hi
  obtain ⟨fr', ⟨o1, o2, rfl⟩, e⟩ := forL_search (g := .inl 2) (body := b__law_follows_L3 (callC (j+1))) (its := (List.range v).map fun k => .int (k : Nat)) (b := false)
    (fun fr => ∃ o1 o2, fr = [some (.d (.lst (t.map .int))), some (.d (.int (v : Nat))), o1, o2, none, none]) (fun k : Nat => .int (k : Nat)) (folT (v := v) t) (List.range v)
    [some (.d (.lst (t.map .int))), some (.d (.int (v : Nat))), none, none, none, none] ⟨_, _, rfl⟩ (fun x m fr ⟨o1, o2, hf⟩ => by
      subst hf
      obtain ⟨fr', ⟨o', hf⟩, e⟩ := follows_L3 j h (List.mem_range.mp m) o2
      exact ⟨_, rfl, fr', ⟨_, _, hf⟩, e⟩)
  have r2 : range1 (.int ((v : Nat) : Int)) = _ := range_v (by omega)
  simp [b__law_follows, r2, e]
  cases (List.range v).findSome? (folT (v := v) t) <;> simp [psBack_two, orNone]
end Bw

set_option maxHeartbeats 1000000
namespace Bw
open PySem PySem.Spec PyProof.Rows L2
open K02 (bt Bits tg sz)
/-- an owned list of ints -/
def oL (ds : List Int) : T := .lst (ds.map fun i => .d (.int i))
@[simp] theorem opdT_oL {ds : List Int} : opdT (oL ds) = (.lst (ds.map .int), true) := by
  unfold oL
  rw [opdT_lst, fzs_map]
@[simp] theorem isOwn_oL {ds : List Int} : isOwn (some (oL ds)) = true := by unfold oL; exact isOwn_lst
@[simp] theorem kindT_oL {ds : List Int} : kindT (oL ds) = 0 := by unfold oL; exact kindT_lst
@[simp] theorem app_oL {ds : List Int} {i : Nat} {k : Int} {fr : Fr} (h : ds.length < 16777216) : methA "append" i (oL ds) [.d (.int k)] fr = .ok (.d .non) (fr.set i (some (oL (ds ++ [k])))) := by
  unfold oL
  rw [methA_append, if_pos (by rw [Nat.blt_eq]; simpa using h)]
  simp
@[simp] theorem rev_oL {ds : List Int} {i : Nat} {fr : Fr} : methA "reverse" i (oL ds) [] fr = .ok (.d .non) (fr.set i (some (oL ds.reverse))) := by
  unfold oL
  rw [methA_reverse]
  simp
@[simp] theorem ret_oL {ds : List Int} {i : Nat} {fr : Fr} : retR fr i (some (oL ds)) = .ok (.rt (oL ds)) (fr.set i none) := by
  unfold oL
  exact retR_lst
theorem pop_oL {ds : List Int} {i : Nat} {x : Int} {fr : Fr} : methA "pop" i (oL (ds ++ [x])) [] fr = .ok (.d (.int x)) (fr.set i (some (oL ds))) := by
  unfold oL
  rw [methA_pop]
  have e : lastT ((ds ++ [x]).map fun i => T.d (.int i)) = some (.d (.int x)) := by
    unfold lastT
    simp
  rw [e, popR_some]
  simp
theorem op_mod (i : Int) {m : Int} (h : 0 < m) : intOp .Mod i m = some (i % m) := by simp only [intOp, h, if_true]
theorem op_mulR (i : Int) {j : Int} (h : -(2 ^ 64) < j ∧ j < 2 ^ 64) : intOp .Mult i j = some (i * j) := by simp only [intOp, h, and_self, or_true, if_true]
theorem op_mulL {i : Int} (j : Int) (h : -(2 ^ 64) < i ∧ i < 2 ^ 64) : intOp .Mult i j = some (i * j) := by simp only [intOp, h, and_self, true_or, if_true]
theorem op_div (i : Int) {j : Int} (h : 0 < j ∧ j < 1073741824) : intOp .FloorDiv i j = some (i / j) := by simp only [intOp, h, and_self, if_true]
theorem take_ok (j : Nat) (ds : List Int) {m : Nat} (hm : 0 < m) : ∃ (r : Nat) (ds' : List Int), r < m ∧ callC (j+1) 22 [oL ds, .d (.int (m : Nat))] = .ok (.d (.int (r : Nat))) [some (oL ds'), some (.d (.int (m : Nat)))] := by
  rw [q__law_take]
  rcases List.eq_nil_or_concat ds with rfl | ⟨r, x, rfl⟩
  · refine ⟨0, [], hm, ?_⟩
    simp [b__law_take, psBack_two]
  · rw [List.concat_eq_append]
    have h1 : 0 ≤ x % (m : Int) := Int.emod_nonneg _ (by omega)
    have h2 : x % (m : Int) < m := Int.emod_lt_of_pos _ (by omega)
    refine ⟨(x % (m : Int)).toNat, r, by omega, ?_⟩
    have e : (((x % (m : Int)).toNat : Nat) : Int) = x % (m : Int) := Int.toNat_of_nonneg h1
    rw [e]
    have o := op_mod x (m := (m : Int)) (by omega)
    have hl : ¬ ((r.length : Int) + 1 = 0) := by omega
    simp [b__law_take, pop_oL, o, hl, psBack_two]
/-! ### the law's draws -/
theorem dr_L1 (c : CN) {S p : Option T} {o3 o6 : Option T} (ds : List Int) (x : Int) (k : Nat) (hl : ds.length < 10000) : ∃ ds' x', ds'.length ≤ ds.length + 1 ∧
    b__law_draws_L1 c [S, some (oL ds), p, o3, some (.d (.int x)), some (.d (.int (k : Nat))), o6] = .ok .nx [S, some (oL ds'), p, o3, some (.d (.int x')), some (.d (.int (k : Nat))), o6] := by
  have om := op_mod x (m := 24) (by decide)
  have od := op_div x (j := 24) (by decide)
  by_cases h : 0 < x
  · refine ⟨ds ++ [x % 24], x / 24, by simp, ?_⟩
    have ha : ds.length < 16777216 := by omega
    simp [b__law_draws_L1, h, om, od, ha]
  · refine ⟨ds, x, by omega, ?_⟩
    simp [b__law_draws_L1, h]
theorem dr_L2 (c : CN) {S : Option T} {o3 o4 : Option T} (ds : List Int) (p y : Int) (k : Nat) (hy : 0 ≤ y ∧ y < 2147483629) (hl : ds.length < 10000) : ∃ ds' y', ds'.length ≤ ds.length + 1 ∧ (0 ≤ y' ∧ y' < 2147483629) ∧
    b__law_draws_L2 c [S, some (oL ds), some (.d (.int p)), o3, o4, some (.d (.int (k : Nat))), some (.d (.int y))] = .ok .nx [S, some (oL ds'), some (.d (.int p)), o3, o4, some (.d (.int (k : Nat))), some (.d (.int y'))] := by
  have m1 := op_mulL (i := 2) (k : Int) (by decide)
  have m2 := op_mulL (i := y) (y + 2 * (k : Int) + 3) (by omega)
  have m3 := op_mulR p (j := 7919) (by decide)
  have o := op_mod (y * (y + 2 * (k : Int) + 3) + p * 7919 + 11) (m := 2147483587) (by decide)
  have g1 := Int.emod_nonneg (y * (y + 2 * (k : Int) + 3) + p * 7919 + 11) (b := 2147483587) (by decide)
  have g2 := Int.emod_lt_of_pos (y * (y + 2 * (k : Int) + 3) + p * 7919 + 11) (b := 2147483587) (by decide)
  generalize (y * (y + 2 * (k : Int) + 3) + p * 7919 + 11) % 2147483587 = z at o g1 g2
  have od := op_div z (j := 64) (by decide)
  have ha : ds.length < 16777216 := by omega
  refine ⟨ds ++ [z / 64], z, by simp, by omega, ?_⟩
  simp [b__law_draws_L2, m1, m2, m3, o, od, ha]
theorem pow18 : intOp .Pow 10 18 = some 1000000000000000000 := by decide +kernel
theorem len_fold {α : Type} : ∀ (l : List α) (s : Nat), l.foldl (fun s _ => s + 1) s = s + l.length
  | [], s => rfl
  | x :: r, s => by rw [List.foldl_cons, len_fold r, List.length_cons]; omega
theorem dr_loop1 (c : CN) {S p o3 o5 o6 : Option T} (ds : List Int) (x : Int) (hl : ds.length < 9000) : ∃ ds' x' o5', ds'.length ≤ ds.length + 60 ∧
    forL (.inl 5) (b__law_draws_L1 c) ⟨(List.range 60).map fun k => .int ((k : Nat) : Int), none, false⟩ ((List.range 60).map fun k => .int ((k : Nat) : Int)) [S, some (oL ds), p, o3, some (.d (.int x)), o5, o6] = .ok .nx [S, some (oL ds'), p, o3, some (.d (.int x')), o5', o6] := by
  obtain ⟨fr', ⟨ds', x', o5', h1, rfl⟩, e⟩ := forL_foldP (g := .inl 5) (body := b__law_draws_L1 c) (its := (List.range 60).map fun k => .int ((k : Nat) : Int)) (b := false)
    (fun (s : Nat) fr => ∃ ds' x' o5', ds'.length ≤ ds.length + s ∧ fr = [S, some (oL ds'), p, o3, some (.d (.int x')), o5', o6]) (fun k : Nat => .int ((k : Nat) : Int)) (fun s _ => s + 1) (List.range 60) 0
    (fun pre k post he fr ⟨ds', x', o5', h1, hf⟩ => by
      subst hf
      obtain ⟨hp, _⟩ := range_split he
      rw [len_fold] at h1 ⊢
      obtain ⟨ds2, x2, h2, e2⟩ := dr_L1 c (S := S) (p := p) (o3 := o3) (o6 := o6) ds' x' k (by omega)
      exact ⟨_, rfl, _, ⟨ds2, x2, _, by omega, rfl⟩, e2⟩)
    (List.range 60) [] [S, some (oL ds), p, o3, some (.d (.int x)), o5, o6] rfl ⟨ds, x, o5, Nat.le_refl _, rfl⟩
  rw [len_fold, List.length_range] at h1
  exact ⟨ds', x', o5', by omega, e⟩
theorem dr_loop2 (c : CN) {S o3 o4 o5 : Option T} (ds : List Int) (p y : Int) (hy : 0 ≤ y ∧ y < 2147483629) (hl : ds.length < 9000) : ∃ ds' y' o5', ds'.length ≤ ds.length + 5 ∧
    forL (.inl 5) (b__law_draws_L2 c) ⟨(List.range 5).map fun k => .int ((k : Nat) : Int), none, false⟩ ((List.range 5).map fun k => .int ((k : Nat) : Int)) [S, some (oL ds), some (.d (.int p)), o3, o4, o5, some (.d (.int y))] = .ok .nx [S, some (oL ds'), some (.d (.int p)), o3, o4, o5', some (.d (.int y'))] := by
  obtain ⟨fr', ⟨ds', y', o5', h1, h2, rfl⟩, e⟩ := forL_foldP (g := .inl 5) (body := b__law_draws_L2 c) (its := (List.range 5).map fun k => .int ((k : Nat) : Int)) (b := false)
    (fun (s : Nat) fr => ∃ ds' y' o5', ds'.length ≤ ds.length + s ∧ (0 ≤ y' ∧ y' < 2147483629) ∧ fr = [S, some (oL ds'), some (.d (.int p)), o3, o4, o5', some (.d (.int y'))]) (fun k : Nat => .int ((k : Nat) : Int)) (fun s _ => s + 1) (List.range 5) 0
    (fun pre k post he fr ⟨ds', y', o5', h1, h2, hf⟩ => by
      subst hf
      obtain ⟨hp, _⟩ := range_split he
      rw [len_fold] at h1 ⊢
      obtain ⟨ds2, y2, h3, h4, e2⟩ := dr_L2 c (S := S) (o3 := o3) (o4 := o4) ds' p y' k h2 (by omega)
      exact ⟨_, rfl, _, ⟨ds2, y2, _, by omega, h4, rfl⟩, e2⟩)
    (List.range 5) [] [S, some (oL ds), some (.d (.int p)), o3, o4, o5, some (.d (.int y))] rfl ⟨ds, y, o5, Nat.le_refl _, hy, rfl⟩
  rw [len_fold, List.length_range] at h1
  exact ⟨ds', y', o5', by omega, e⟩
theorem dr_L3 (c : CN) {S o4 o5 o6 : Option T} (ds : List Int) (p x : Int) (hl : ds.length < 9000) : ∃ ds' p' o4' o5' o6', ds'.length ≤ ds.length + 60 ∧
    b__law_draws_L3 c [S, some (oL ds), some (.d (.int p)), some (.d (.int x)), o4, o5, o6] = .ok .nx [S, some (oL ds'), some (.d (.int p')), some (.d (.int x)), o4', o5', o6'] := by
  have key : ∀ z : Int, ∃ ds' p' o4' o5' o6', ds'.length ≤ ds.length + 60 ∧
      (sIf (kP (pCmp .GtE (pS 4) (pBin .Pow (pK (.int 10)) (pK (.int 18))))) (seqM (sFor (.inl 5) [4] (srR1 (oP (pK (.int 60)))) (b__law_draws_L1 c)) sN) (seqM (sAsg 6 (cBin .Mod (e2 (oC (cB1 "int" (oP (pBin .Add (pBin .Add (pBin .Mult (pS 4) (pK (.int 69069))) (pBin .Mult (pS 2) (pK (.int 40503)))) (pK (.int 17)))))) true (oP (pK (.int 2147483629)))))) (seqM (sFor (.inl 5) [6] (srR1 (oP (pK (.int 5)))) (b__law_draws_L2 c)) sN))) [S, some (oL ds), some (.d (.int (p + 1))), some (.d (.int x)), some (.d (.int z)), o5, o6] = .ok .nx [S, some (oL ds'), some (.d (.int p')), some (.d (.int x)), o4', o5', o6'] := by
    intro z
    by_cases h : 1000000000000000000 ≤ z
    · obtain ⟨ds', x', o5', h1, e⟩ := dr_loop1 c (S := S) (p := some (.d (.int (p + 1)))) (o3 := some (.d (.int x))) (o5 := o5) (o6 := o6) ds z hl
      refine ⟨ds', p + 1, some (.d (.int x')), o5', o6, h1, ?_⟩
      have r : range1 (.int 60) = some ⟨(List.range 60).map fun k => .int ((k : Nat) : Int), none, false⟩ := range1_nat (v := 60) (by decide)
      generalize List.range 60 = l at r e
      simp [pow18, h, r, e]
    · have m1 := op_mulR z (j := 69069) (by decide)
      have m2 := op_mulR (p + 1) (j := 40503) (by decide)
      have o := op_mod (z * 69069 + (p + 1) * 40503 + 17) (m := 2147483629) (by decide)
      have g1 := Int.emod_nonneg (z * 69069 + (p + 1) * 40503 + 17) (b := 2147483629) (by decide)
      have g2 := Int.emod_lt_of_pos (z * 69069 + (p + 1) * 40503 + 17) (b := 2147483629) (by decide)
      generalize hy : (z * 69069 + (p + 1) * 40503 + 17) % 2147483629 = y at o g1 g2
      obtain ⟨ds', y', o5', h1, e⟩ := dr_loop2 c (S := S) (o3 := some (.d (.int x))) (o4 := some (.d (.int z))) (o5 := o5) ds (p + 1) y ⟨g1, g2⟩ hl
      refine ⟨ds', p + 1, some (.d (.int z)), o5', some (.d (.int y')), by omega, ?_⟩
      have r : range1 (.int 5) = some ⟨(List.range 5).map fun k => .int ((k : Nat) : Int), none, false⟩ := range1_nat (v := 5) (by decide)
      generalize List.range 5 = l at r e
      simp [pow18, h, r, e, m1, m2, o]
  by_cases h : x < 0
  · obtain ⟨ds', p', o4', o5', o6', h1, e⟩ := key (3 - 2 * x)
    refine ⟨ds', p', o4', o5', o6', h1, ?_⟩
    have m := op_mulL (i := 2) x (by decide)
    unfold b__law_draws_L3
    generalize (sIf (kP (pCmp .GtE (pS 4) (pBin .Pow (pK (.int 10)) (pK (.int 18))))) _ _) = W at e ⊢
    simp [h, m, e]
  · obtain ⟨ds', p', o4', o5', o6', h1, e⟩ := key x
    refine ⟨ds', p', o4', o5', o6', h1, ?_⟩
    unfold b__law_draws_L3
    generalize (sIf (kP (pCmp .GtE (pS 4) (pBin .Pow (pK (.int 10)) (pK (.int 18))))) _ _) = W at e ⊢
    simp [h, e]
theorem draws_ok (j : Nat) (sc : List Int) (hs : sc.length ≤ 63) : ∃ ds, callC (j+1) 21 [.d (.lst (sc.map .int))] = .ok (oL ds) [some (.d (.lst (sc.map .int)))] := by
  rw [q__law_draws]
  obtain ⟨l, hl, e1⟩ : ∃ l : List Int, l.length ≤ 63 ∧ sliceO (.lst (sc.map .int), false) none (some 63) = some (.lst ((l.map .int).map .d)) := by
    refine ⟨(sc.drop (HT.sIx (sc.map D.int).length 0 none)).take (HT.sIx (sc.map D.int).length (sc.map D.int).length (some 63) - HT.sIx (sc.map D.int).length 0 none), ?_, ?_⟩
    · rw [List.length_take, List.length_drop]; omega
    · simp [sliceO]
  obtain ⟨fr', ⟨ds', p', o3, o4, o5, o6, h1, rfl⟩, e⟩ := forL_foldP (g := .inl 3) (body := b__law_draws_L3 (callC j)) (its := l.map .int) (b := false)
    (fun (s : Nat) fr => ∃ ds' p' o3 o4 o5 o6, ds'.length ≤ 60 * s ∧ fr = [some (.d (.lst (sc.map .int))), some (oL ds'), some (.d (.int p')), o3, o4, o5, o6]) D.int (fun s _ => s + 1) l 0
    (fun pre x post he fr ⟨ds', p', o3, o4, o5, o6, h1, hf⟩ => by
      subst hf
      have hp : pre.length < 63 := by have := congrArg List.length he; simp at this; omega
      rw [len_fold] at h1 ⊢
      obtain ⟨ds2, p2, q4, q5, q6, h2, e2⟩ := dr_L3 (callC j) (S := some (.d (.lst (sc.map .int)))) (o4 := o4) (o5 := o5) (o6 := o6) ds' p' x (by omega)
      exact ⟨_, rfl, _, ⟨ds2, p2, _, q4, q5, q6, by omega, rfl⟩, e2⟩)
    l [] [some (.d (.lst (sc.map .int))), some (oL []), some (.d (.int 0)), none, none, none, none] rfl ⟨[], 0, _, _, _, _, Nat.zero_le _, rfl⟩
  refine ⟨ds'.reverse, ?_⟩
  have o0 : T.lst [] = oL [] := rfl
  simp [b__law_draws, lineB, o0, e1, e, psBack_one, Function.comp_def]
end Bw

set_option maxHeartbeats 1000000
namespace Bw
open PySem PySem.Spec PyProof.Rows L2
open K02 (bt Bits tg sz fallAt falls heardP heardL firstFall sizedL bySize)
variable {v : Nat} {t : List Int} {X : D}
@[simp] theorem fz_oL {ds : List Int} : fz (oL ds) = .lst (ds.map .int) := by unfold oL; rw [fz_lst, fzs_eq, List.map_map]; rfl
@[simp] theorem imm_ints {l : List Int} : imms (l.map D.int) = true := imms_map l
theorem oL_map {α : Type} (l : List α) (f : α → Int) : T.lst (l.map fun n => .d (.int (f n))) = oL (l.map f) := by
  unfold oL
  rw [List.map_map]
  rfl
theorem comp_draw (j : Nat) {o1 o2 o3 o4 o5 : Option T} {its : List D} : ∀ (l : List Nat) (bs ds : List Int), bs.length + l.length ≤ 1000 → ∃ cs ds', cs.length = l.length ∧ Bits cs ∧
    compL [6] (.inl 6) kYes (b__law_table_E1 (callC (j+1))) ⟨its, none, false⟩ (l.map fun k => .int ((k : Nat) : Int)) (bs.map fun i => .d (.int i)) [some (oL ds), o1, o2, o3, o4, o5, none] = .ok ((bs ++ cs).map fun i => .d (.int i)) [some (oL ds'), o1, o2, o3, o4, o5, none]
  | [], bs, ds, _ => ⟨[], ds, rfl, (fun x m => by cases m), by simp [compL]⟩
  | k :: r, bs, ds, h => by
    simp only [List.length_cons] at h
    obtain ⟨q, ds1, hq, e⟩ := take_ok j ds (m := 2) (by decide)
    obtain ⟨cs, ds', h1, h2, h3⟩ := comp_draw j (o1 := o1) (o2 := o2) (o3 := o3) (o4 := o4) (o5 := o5) (its := its) r (bs ++ [(q : Int)]) ds1 (by simp; omega)
    refine ⟨(q : Int) :: cs, ds', by simp [h1], fun x m => ?_, ?_⟩
    · rcases List.mem_cons.mp m with rfl | m
      · omega
      · exact h2 x m
    · have e' : callC (j+1) 22 [oL ds, .d (.int 2)] = .ok (.d (.int (q : Nat))) [some (oL ds1), some (.d (.int 2))] := e
      have hb : Nat.blt (bs.map fun i => T.d (.int i)).length 16777216 = true := by rw [Nat.blt_eq, List.length_map]; omega
      have st : b__law_table_E1 (callC (j+1)) [some (oL ds), o1, o2, o3, o4, o5, some (.d (.int (k : Nat)))] = .ok (.d (.int (q : Nat))) [some (oL ds1), o1, o2, o3, o4, o5, some (.d (.int (k : Nat)))] := by
        simp [b__law_table_E1, e']
      rw [List.map_cons, compL]
      simp only [guardOk_none, if_true, storeTg_l, Bool.false_eq_true, if_false, List.set_cons_succ, List.set_cons_zero, kYes_ap, st, hb, wipeF_cons, wipeF_nil]
      rw [List.map_append, List.append_assoc] at h3
      rw [List.map_append]
      simp only [List.map_cons, List.map_nil, List.cons_append, List.nil_append] at h3 ⊢
      rw [h3]
      simp
theorem table_ok (j : Nat) (ds : List Int) (hv : 1 ≤ v ∧ v ≤ 5) : ∃ t ds', Tb v t ∧ callC (j+3) 30 [oL ds, .d (.int (v : Nat))] = .ok (oL t) [some (oL ds'), some (.d (.int (v : Nat)))] := by
  rw [q__law_table]
  obtain ⟨w, d1, hw, e1⟩ := take_ok (j+1) ds (m := 6) (by decide)
  obtain ⟨x, d2, hx, e2⟩ := take_ok (j+1) d1 (m := v) (by omega)
  have e1' : callC (j+2) 22 [oL ds, .d (.int 6)] = .ok (.d (.int (w : Nat))) [some (oL d1), some (.d (.int 6))] := e1
  have b := bits_v (j+1) hv
  have h32 : 2 ^ v ≤ 32 := Nat.pow_le_pow_right (n := 2) (by decide) hv.2
  have r : range1 (.int ((2 ^ v : Nat) : Int)) = _ := range_v h32
  have hlen : (List.range (2 ^ v)).length = 2 ^ v := List.length_range
  generalize hm : 2 ^ v = m at b r h32 hlen
  have tb : ∀ f : Nat → Int, (∀ n, f n = 0 ∨ f n = 1) → Tb v ((List.range m).map f) := fun f hf => ⟨hv.1, hv.2, by rw [List.length_map, hlen, hm], fun y hy => by
    obtain ⟨n, _, rfl⟩ := List.mem_map.mp hy
    exact hf n⟩
  have tail : ∀ (W : Option T) (o5 : Option T) (D0 : List Int) (elt : M T) (f : Nat → Int), (∀ n, f n = 0 ∨ f n = 1) → (∀ n, elt [some (oL D0), some (.d (.int (v : Nat))), W, some (.d (.int (x : Nat))), some (.d (.int (m : Nat))), o5, some (.d (.int (n : Nat)))] = .ok (.d (.int (f n))) [some (oL D0), some (.d (.int (v : Nat))), W, some (.d (.int (x : Nat))), some (.d (.int (m : Nat))), o5, some (.d (.int (n : Nat)))]) →
      compL [6] (.inl 6) kYes elt ⟨(List.range m).map fun k => .int (k : Nat), none, false⟩ ((List.range m).map fun k => .int (k : Nat)) [] [some (oL D0), some (.d (.int (v : Nat))), W, some (.d (.int (x : Nat))), some (.d (.int (m : Nat))), o5, none] = .ok ((List.range m).map fun n => .d (.int (f n))) [some (oL D0), some (.d (.int (v : Nat))), W, some (.d (.int (x : Nat))), some (.d (.int (m : Nat))), o5, none] := fun W o5 D0 elt f hf he =>
    compL_map (own := [6]) (tg := .inl 6) (fun n => .d (.int (f n))) (fun k : Nat => .int (k : Nat)) (List.range m) (fun n mn => ⟨_, _, rfl, he n, by simp⟩) (by rw [hlen]; omega)
  obtain rfl | rfl | rfl | rfl | hw4 : w = 0 ∨ w = 1 ∨ w = 2 ∨ w = 3 ∨ 4 ≤ w := by omega
  · refine ⟨_, d2, tb (fun n => bt n x) (fun n => bt_01 n x), ?_⟩
    have c := tail (some (.d (.int 0))) none d2 (b__law_table_E5 (callC (j+2))) (fun n => bt n x) (fun n => bt_01 n x) (fun n => by simp [b__law_table_E5, in_ok (j+1) n x (by omega)])
    simp [b__law_table, e1', e2, b, r, c, psBack_two, oL_map]
  · refine ⟨_, d2, tb (fun n => 1 - bt n x) (fun n => by have := bt_01 n x; omega), ?_⟩
    have c := tail (some (.d (.int 1))) none d2 (b__law_table_E4 (callC (j+2))) (fun n => 1 - bt n x) (fun n => by have := bt_01 n x; omega) (fun n => by simp [b__law_table_E4, in_ok (j+1) n x (by omega)])
    simp [b__law_table, e1', e2, b, r, c, psBack_two, oL_map]
  · obtain ⟨q, d3, hq, e3⟩ := take_ok (j+1) d2 (m := 2) (by decide)
    have e3' : callC (j+2) 22 [oL d2, .d (.int 2)] = .ok (.d (.int (q : Nat))) [some (oL d3), some (.d (.int 2))] := e3
    refine ⟨_, d3, tb (fun n => (q : Int)) (fun n => by omega), ?_⟩
    have c := tail (some (.d (.int 2))) (some (.d (.int (q : Nat)))) d3 (b__law_table_E3 (callC (j+2))) (fun n => (q : Int)) (fun n => by omega) (fun n => by simp [b__law_table_E3])
    simp [b__law_table, e1', e2, b, r, e3', c, psBack_two, oL_map]
  · refine ⟨_, d2, tb (fun n => if x < sz n then 1 else 0) (fun n => by split <;> simp), ?_⟩
    have c := tail (some (.d (.int 3))) none d2 (b__law_table_E2 (callC (j+2))) (fun n => if x < sz n then 1 else 0) (fun n => by split <;> simp) (fun n => by
      have s := size_ok j n
      by_cases h : x < sz n
      · simp [b__law_table_E2, s, h]
      · simp [b__law_table_E2, s, h])
    simp [b__law_table, e1', e2, b, r, c, psBack_two, oL_map]
  · obtain ⟨cs, d3, h1, h2, c⟩ := comp_draw (j+1) (o1 := some (.d (.int (v : Nat)))) (o2 := some (.d (.int (w : Nat)))) (o3 := some (.d (.int (x : Nat)))) (o4 := some (.d (.int (m : Nat)))) (o5 := none) (its := (List.range m).map fun k => .int (k : Nat)) (List.range m) [] d2 (by rw [hlen]; simp; omega)
    refine ⟨cs, d3, ⟨hv.1, hv.2, by rw [h1, hlen, hm], h2⟩, ?_⟩
    have n0 : ¬ ((w : Int) = 0) := by omega
    have n1 : ¬ ((w : Int) = 1) := by omega
    have n2 : ¬ ((w : Int) = 2) := by omega
    have n3 : ¬ ((w : Int) = 3) := by omega
    have m0 : w ≠ 0 := by omega
    have oc : T.lst (cs.map fun i => .d (.int i)) = oL cs := rfl
    simp only [List.map_nil, List.nil_append] at c
    simp [b__law_table, e1', e2, b, r, c, n0, n1, n2, n3, m0, psBack_two, oc]
end Bw

set_option maxHeartbeats 2000000
namespace Bw
open PySem PySem.Spec PyProof.Rows L2
open K02 (bt Bits tg sz fallAt falls heardP heardL firstFall sizedL bySize)
variable {v : Nat} {t : List Int} {X : D}
theorem told_ok2 (k : Nat) (a b : List Int) (ha : a.length ≤ 64) : callC (k+2) 31 [.d (.tup (a.map .int)), oL b] = .ok (.d (.bl (decide (a = b)))) [some (.d (.tup (a.map .int))), some (oL b)] := by
  rw [q__law_row_told]
  by_cases hl : a.length = b.length
  · have e := compL_map (own := [2]) (tg := .inl 2) (elt := b__law_row_told_E1 (callC (k+1))) (its := a.map D.int) (b := false) (fr := [some (.d (.tup (a.map .int))), some (oL b), none]) (fun i : Int => .d (.bl true)) D.int a (fun x m => by
      refine ⟨_, [some (.d (.tup (a.map .int))), some (oL b), some (.d (.int x))], rfl, ?_, by simp⟩
      simp [b__law_row_told_E1, cC_23 k (.int x) rfl, isI]) (by omega)
    have bb : blsD (a.map fun _ => D.bl true) = some (a.map fun _ => true) := blsD_mp a _
    have ba : (a.map fun _ => true).all id = true := by simp
    simp [b__law_row_told, hl, e, Function.comp_def, bb, ba, psBack_two]
  · have hl' : ¬ ((a.length : Int) = b.length) := by omega
    have hne : a ≠ b := fun z => hl (by rw [z])
    simp [b__law_row_told, hl, hl', hne, psBack_two]
theorem fol_eq (t : List Int) (v : Nat) : ∃ d, orNone ((List.range v).findSome? (folT (v := v) t)) = .d d ∧ eqD d d = some true := by
  cases h : (List.range v).findSome? (folT (v := v) t) with
  | none => exact ⟨.non, rfl, rfl⟩
  | some x =>
    obtain ⟨k, _, hk⟩ := List.exists_of_findSome?_eq_some h
    unfold folT at hk
    split at hk
    · cases hk
      exact ⟨_, rfl, by rw [eqD_pair]; simp⟩
    · split at hk
      · cases hk
        exact ⟨_, rfl, by rw [eqD_pair]; simp⟩
      · cases hk
theorem looked_core (j : Nat) (h : Tb v t) (S0 : T) (hS : S0 = .d (.lst (t.map .int)) ∨ S0 = oL t) : callC (j+6) 37 [S0, .d (.int (v : Nat))] = .ok (.d (.bl true)) [some (.d (.lst (t.map .int))), some (.d (.int (v : Nat)))] := by
  rw [q__law_looked_at]
  have hv := h.hi
  have hl := h.le
  have hpos := h.pos
  have sL : Sq (.lst (t.map .int)) (t.map .int) := .inl rfl
  have sT : Sq (.tup (t.map .int)) (t.map .int) := .inr rfl
  have E33 := falls_ok (j+3) h
  have E7 := tableof_ok (j+1) h sL
  have E31a := told_ok (j+3) t t (by omega)
  rw [decide_eq_true rfl] at E31a
  have E11 := dual_ok (j+1) h sT
  have E28 := ldual_ok (j+4) h
  rw [oL_map] at E28
  have E31b := told_ok2 (j+3) (t.reverse.map (1 - ·)) (t.reverse.map (1 - ·)) (by simp; omega)
  rw [decide_eq_true rfl] at E31b
  have E12 := flat_ok (j+1) h sL
  have E29 := lflat_ok (t := t) (j+4)
  have ef : decide (((t.count (tg t 0) : Nat) : Int) = t.length) = decide (t.sum = 0 ∨ t.sum = t.length) := by
    rw [decide_eq_decide]
    exact K02.flat_eq h.bits (fun e => by rw [e] at hpos; cases hpos)
  rw [ef] at E12
  have E17 := rising_ok j h sL
  have E18 := sized_ok j h sL
  have E35 := bysize_ok (j+2) h
  have E24 : ∀ b : Bool, callC (j+5) 24 [.d (.bl b), .d (.bl b)] = .ok (.d (.bl true)) [some (.d (.bl b)), some (.d (.bl b))] := fun b => by
    have := cC_24 (j+4) b b
    rw [decide_eq_true rfl] at this
    exact this
  have eh : (List.range v).filter (heardP t) = (List.range v).filter (heardL t) := List.filter_congr fun k m => K02.heard_eq (by omega) h.len (List.mem_range.mp m)
  have E15 := heard_ok (j+1) h sL
  rw [eh] at E15
  have E34 := lheard_ok (j+3) h
  rw [oL_map] at E34
  generalize hH : (List.range v).filter (heardL t) = hs at E15 E34
  have E15' : callC (j+5) 15 [.d (.lst (t.map .int))] = .ok (.d (.tup ((hs.map fun k => ((k : Nat) : Int)).map .int))) [some (.d (.lst (t.map .int)))] := by
    rw [List.map_map]
    exact E15
  have hsl : hs.length ≤ 5 := by rw [← hH]; exact Nat.le_trans (List.length_filter_le _ _) (by simp; omega)
  have E31c := told_ok2 (j+3) (hs.map fun k => ((k : Nat) : Int)) (hs.map fun k => ((k : Nat) : Int)) (by simp; omega)
  rw [decide_eq_true rfl] at E31c
  have E16 := ff_ok (j+1) h sL
  have E14 := followed_ok j h sL
  have E36 := follows_ok (j+3) h
  obtain ⟨df, hd1, hd2⟩ := fol_eq t v
  rw [hd1] at E14 E36
  rw [K02.firstFall_eq] at E16 E17
  have hlist : T.lst (t.map fun i => .d (.int i)) = oL t := rfl
  generalize hq : hs.map (fun k => ((k : Nat) : Int)) = qs at *
  generalize hr : t.reverse.map (fun x => 1 - x) = rs at *
  generalize decide (t.sum = 0 ∨ t.sum = t.length) = fl at *
  generalize bySize t = bs at *
  have lk : itemsO (.lst (t.map .int), true) = some (t.map .int) := by rw [itemsO_lt, imms_map]; rfl
  cases hf : falls t v with
  | nil =>
    rw [hf] at E33 E16 E17
    simp only [List.map_nil, List.head?_nil, ffT, Option.isNone_none] at E33 E16 E17
    rcases hS with rfl | rfl
    · simp [b__law_looked_at, E33, E7, E31a, E11, E28, E31b, E12, E29, E24, E17, E18, E35, E15', E34, E31c, E16, E14, E36, hd2, eqD_nn, Function.comp_def, hlist, psBack_two]
    · simp [b__law_looked_at, lk, E33, E7, E31a, E11, E28, E31b, E12, E29, E24, E17, E18, E35, E15', E34, E31c, E16, E14, E36, hd2, eqD_nn, Function.comp_def, hlist, psBack_two]
  | cons p r =>
    rw [hf] at E33 E16 E17
    simp only [List.map_cons, List.head?_cons, ffT, Option.isNone_some] at E33 E16 E17
    have i0 : ∀ l : List D, idxD (.lst (pr2 p :: l)) (.int 0) = some (pr2 p) := fun l => by
      have : ((0 : Nat) : Int) = 0 := rfl
      show atI (pr2 p :: l) 0 = _
      rw [← this, atI_nat' (by simp)]
      rfl
    have hp : pr2 p = .tup [.int ((p.1 : Nat) : Int), .int ((p.2 : Nat) : Int)] := rfl
    have ep : eqD (.tup [.int ((p.1 : Nat) : Int), .int ((p.2 : Nat) : Int)]) (pr2 p) = some true := by rw [hp, eqD_pair]; simp
    have im : imm (pr2 p) = true := by rw [hp]; simp
    have ez : ¬ ((r.length : Int) + 1 = 0) := by omega
    have eg : (0 : Int) < (r.length : Int) + 1 := by omega
    rcases hS with rfl | rfl
    · simp [b__law_looked_at, E33, E7, E31a, E11, E28, E31b, E12, E29, E24, E17, E18, E35, E15', E34, E31c, E16, E14, E36, hd2, i0, ep, im, ez, eg, Function.comp_def, hlist, psBack_two]
    · simp [b__law_looked_at, lk, E33, E7, E31a, E11, E28, E31b, E12, E29, E24, E17, E18, E35, E15', E34, E31c, E16, E14, E36, hd2, i0, ep, im, ez, eg, Function.comp_def, hlist, psBack_two]
end Bw

set_option maxHeartbeats 2000000
namespace Bw
open PySem PySem.Spec PyProof.Rows L2
open K02 (bt Bits tg sz)
variable {v : Nat} {t : List Int} {X : D}
def tryR (exs : Str → Option Str) (hs : List Hdl) : Res Flo → Res Flo
  | .exn x fr1 => if (exs x.cls).isSome then handle hs x fr1 else .stuck
  | r => r
theorem sTry_ap {exs : Str → Option Str} {hs : List Hdl} {body : M Flo} {fr : Fr} : sTry exs hs body fr = tryR exs hs (body fr) := of_eq_true (eq_self _)
theorem tryR_nx {exs : Str → Option Str} {hs : List Hdl} {fr : Fr} : tryR exs hs (.ok .nx fr) = .ok .nx fr := of_eq_true (eq_self _)
theorem tryR_exn {exs : Str → Option Str} {hs : List Hdl} {x : Exn} {fr : Fr} (h : (exs x.cls).isSome = true) : tryR exs hs (.exn x fr) = handle hs x fr := by
  show (if (exs x.cls).isSome = true then _ else _) = _
  rw [if_pos h]
abbrev H43 : List Hdl := [⟨"BadTable", 4, 3, some "BadTable", "place"⟩, ⟨"BadNumber", 4, 3, some "BadNumber", "name"⟩, ⟨"BadLot", 4, 3, some "BadLot", "place"⟩]
theorem try_bt (d : D) (fr : Fr) : tryR exs0 H43 (.exn ⟨"BadTable", [("place", d)]⟩ fr) = .ok .nx ((fr.set 3 (some (.d (.tup [.str "BadTable", d])))).set 4 none) := by
  rw [tryR_exn (show (exs0 "BadTable").isSome = true by decide +kernel)]
  rfl
/-- a table that any_table refuses with this place -/
def Rf (j v : Nat) (X : D) (p : Int) : Prop := callC (j+3) 8 [.d X] = .exn ⟨"BadTable", [("place", .int p)]⟩ [some (.d X)] ∧ callC (j+4) 7 [.d (.int (v : Nat)), .d X] = .exn ⟨"BadTable", [("place", .int p)]⟩ [some (.d (.int (v : Nat))), some (.d X)]
theorem rf_11 {j : Nat} {p : Int} (a : callC (j+3) 8 [.d X] = .exn ⟨"BadTable", [("place", .int p)]⟩ [some (.d X)]) : callC (j+4) 11 [.d X] = .exn ⟨"BadTable", [("place", .int p)]⟩ [some (.d X)] := by
  rw [q_dual_of]
  simp [b_dual_of, a, psBack_one]
theorem rf_16 {j : Nat} {p : Int} (a : callC (j+3) 8 [.d X] = .exn ⟨"BadTable", [("place", .int p)]⟩ [some (.d X)]) : callC (j+4) 16 [.d X] = .exn ⟨"BadTable", [("place", .int p)]⟩ [some (.d X)] := by
  rw [q_first_fall]
  simp [b_first_fall, a, psBack_one]
theorem rf_17 {j : Nat} {p : Int} (a : callC (j+3) 8 [.d X] = .exn ⟨"BadTable", [("place", .int p)]⟩ [some (.d X)]) : callC (j+5) 17 [.d X] = .exn ⟨"BadTable", [("place", .int p)]⟩ [some (.d X)] := by
  rw [q_is_rising]
  simp [b_is_rising, rf_16 a, psBack_one]
theorem rf_14 {j : Nat} {p : Int} (a : callC (j+3) 8 [.d X] = .exn ⟨"BadTable", [("place", .int p)]⟩ [some (.d X)]) : callC (j+4) 14 [.d X] = .exn ⟨"BadTable", [("place", .int p)]⟩ [some (.d X)] := by
  rw [q_followed]
  simp [b_followed, a, psBack_one]
theorem door_rf {j : Nat} {p : Int} (h0 : Rf j v X p) (h1 : Rf (j+1) v X p) {d : Int} (hd : d = 0 ∨ d = 1 ∨ d = 2 ∨ d = 7) : callC (j+6) 43 [.d (.int d), .d (.int (v : Nat)), .d X] = .ok (.d (.tup [.str "BadTable", .int p])) [some (.d (.int d)), some (.d (.int (v : Nat))), some (.d X)] := by
  rw [q__law_door]
  have a7 := h1.2
  have a11 := rf_11 h1.1
  have a17 := rf_17 h0.1
  have a14 := rf_14 h1.1
  rcases hd with rfl | rfl | rfl | rfl
  · simp [b__law_door, a7, sTry_ap, try_bt, psBack_three]
  · simp [b__law_door, a11, sTry_ap, try_bt, psBack_three]
  · simp [b__law_door, a17, sTry_ap, try_bt, psBack_three]
  · simp [b__law_door, a14, sTry_ap, try_bt, psBack_three]
/-- a bad entry -/
theorem rf_at {ds : List D} {p : Nat} (j : Nat) (hv : 1 ≤ v ∧ v ≤ 5) (hX : Sq X ds) (hl : ds.length = 2 ^ v) (hn : ds.all nIns = true) (hb : badAt 0 ds = some p) : Rf j v X (p : Int) := by
  have a := cC_8 j v hv hX hl hn
  rw [hb] at a
  refine ⟨a, ?_⟩
  rw [q_table_of]
  have c5 := cC_5 j hv
  have c6 := cC_6 (j+1) hX hn
  rw [hb] at c6
  have el : ((ds.length : Nat) : Int) = ((pw v : Nat) : Int) := by rw [hl]; rfl
  rw [el] at c6
  simp [b_table_of, c5, op_pw v (by omega), c6, psBack_two]
/-- no table -/
def No (X : D) : Prop := isTysN X [3, 4] = some false ∨ ∃ ds, Sq X ds ∧ ds.length ≠ 2 ∧ ds.length ≠ 4 ∧ ds.length ≠ 8 ∧ ds.length ≠ 16 ∧ ds.length ≠ 32
theorem isTys34 : isTysN X [3, 4] = isTy2 (isTyN 3 X) (isTy2 (isTyN 4 X) (some false)) := by
  rw [isTysN_cons, isTysN_cons, isTysN_nil]
theorem no_6 (k : Nat) (hX : No X) {m : Nat} (hm : m = 2 ∨ m = 4 ∨ m = 8 ∨ m = 16 ∨ m = 32) : callC (k+2) 6 [.d (.int (m : Nat)), .d X] = .exn ⟨"BadTable", [("place", .int (-1))]⟩ [some (.d (.int (m : Nat))), some (.d X)] := by
  rcases hX with h | ⟨ds, h, h2, h4, h8, h16, h32⟩
  · rw [q_entries_in]
    simp [-isTysN_cons, b_entries_in, h, psBack_two]
  · exact cC_6l k h (by omega)
theorem no_8 (k : Nat) (hX : No X) : callC (k+3) 8 [.d X] = .exn ⟨"BadTable", [("place", .int (-1))]⟩ [some (.d X)] := by
  rw [q_any_table]
  rcases hX with h | ⟨ds, h, h2, h4, h8, h16, h32⟩
  · simp [-isTysN_cons, b_any_table, h, psBack_one]
  · have hr : range2 (.int 1) (.int 6) = some ⟨[.int 1, .int 2, .int 3, .int 4, .int 5], none, false⟩ := by rfl
    have s1 : intOp .LShift 1 1 = some 2 := sh1 1 (by omega)
    have s2 : intOp .LShift 1 2 = some 4 := sh1 2 (by omega)
    have s3 : intOp .LShift 1 3 = some 8 := sh1 3 (by omega)
    have s4 : intOp .LShift 1 4 = some 16 := sh1 4 (by omega)
    have s5 : intOp .LShift 1 5 = some 32 := sh1 5 (by omega)
    have g2 : ¬ ((ds.length : Int) = 2) := by omega
    have g4 : ¬ ((ds.length : Int) = 4) := by omega
    have g8 : ¬ ((ds.length : Int) = 8) := by omega
    have g16 : ¬ ((ds.length : Int) = 16) := by omega
    have g32 : ¬ ((ds.length : Int) = 32) := by omega
    rcases h with rfl | rfl
    · simp [b_any_table, hr, forL_cons, b_any_table_L1, s1, s2, s3, s4, s5, g2, g4, g8, g16, g32, h2, h4, h8, h16, h32, psBack_one]
    · simp [b_any_table, hr, forL_cons, b_any_table_L1, s1, s2, s3, s4, s5, g2, g4, g8, g16, g32, h2, h4, h8, h16, h32, psBack_one]
theorem rf_no (j : Nat) (hv : 1 ≤ v ∧ v ≤ 5) (hX : No X) : Rf j v X (-1) := by
  refine ⟨no_8 j hX, ?_⟩
  rw [q_table_of]
  have c5 := cC_5 j hv
  have c6 := no_6 (j+1) hX (m := pw v) (by
    obtain rfl | rfl | rfl | rfl | rfl : v = 1 ∨ v = 2 ∨ v = 3 ∨ v = 4 ∨ v = 5 := by omega
    all_goals decide)
  simp [b_table_of, c5, op_pw v (by omega), c6, psBack_two]
/-- a loop whose turns all go on -/
theorem forL_all {g : Sum Nat (List Nat)} {body : M Flo} {its : List D} {b : Bool} (I : Fr → Prop) : ∀ (l : List D) (fr : Fr), I fr →
    (∀ x, x ∈ l → ∀ fr, I fr → ∃ fr1, storeTg g b x fr = some fr1 ∧ ∃ fr2, I fr2 ∧ body fr1 = .ok .nx fr2) →
    ∃ fr', I fr' ∧ forL g body ⟨its, none, b⟩ l fr = .ok .nx fr'
  | [], fr, h, _ => ⟨fr, h, rfl⟩
  | x :: r, fr, h, hs => by
    obtain ⟨fr1, h1, fr2, h2, h3⟩ := hs x List.mem_cons_self fr h
    rw [forL_cons, h1, frR_some, h3]
    exact forL_all I r fr2 h2 fun y m => hs y (List.mem_cons_of_mem _ m)
theorem eqD_si {s : Str} (hs : PyData.strOk s = true) (p : Int) : eqD (.tup [.str s, .int p]) (.tup [.str s, .int p]) = some true := by
  unfold eqD
  simp [pyd, pyds, SeqAt.shaped, PyData.canLay0, PyData.canLayAll0, PyData.depth, PyData.depthAll, PyData.eqv, PyData.eqvAll, hs]
end Bw

set_option maxHeartbeats 2000000
namespace Bw
open PySem PySem.Spec PyProof.Rows L2
theorem ref_L4 (j : Nat) (A B C E o4 o5 o6 : Option T) : forL (.inl 7) (b__law_refused_L4 (callC (j+9))) ⟨[.int 0, .int 6, .non, .bl true, .int (-1)], none, false⟩ [.int 0, .int 6, .non, .bl true, .int (-1)] [A, B, C, E, o4, o5, o6, none, none] = .ok .nx [A, B, C, E, o4, o5, some (.d (.int 5)), some (.d (.int (-1))), none] := by
  kernel_rfl
theorem ref_L2 (j : Nat) {v : Nat} (hv : 1 ≤ v ∧ v ≤ 5) (A B E o4 o5 o6 o7 : Option T) : forL (.inl 7) (b__law_refused_L2 (callC (j+9))) ⟨[.int (-1), .int ((2 ^ v : Nat) : Int), .non, .bl false], none, false⟩ [.int (-1), .int ((2 ^ v : Nat) : Int), .non, .bl false] [A, B, some (.d (.int (v : Nat))), E, o4, o5, o6, o7, none] = .ok .nx [A, B, some (.d (.int (v : Nat))), E, o4, o5, o6, some (.d (.bl false)), none] := by
  obtain rfl | rfl | rfl | rfl | rfl : v = 1 ∨ v = 2 ∨ v = 3 ∨ v = 4 ∨ v = 5 := by omega
  all_goals kernel_rfl
theorem ref_L1 (j : Nat) {v : Nat} (hv : 1 ≤ v ∧ v ≤ 5) (A B E o4 o5 o6 o7 : Option T) : forL (.inl 7) (b__law_refused_L1 (callC (j+9))) ⟨[.int (-1), .int (v : Nat), .non, .bl false], none, false⟩ [.int (-1), .int (v : Nat), .non, .bl false] [A, B, some (.d (.int (v : Nat))), E, o4, o5, o6, o7, none] = .ok .nx [A, B, some (.d (.int (v : Nat))), E, o4, o5, o6, some (.d (.bl false)), none] := by
  obtain rfl | rfl | rfl | rfl | rfl : v = 1 ∨ v = 2 ∨ v = 3 ∨ v = 4 ∨ v = 5 := by omega
  all_goals kernel_rfl
theorem ref_e1 (j : Nat) {v : Nat} (hv : 1 ≤ v ∧ v ≤ 5) : callC (j+9) 43 [.d (.int 3), .d (.int (v : Nat)), .d .non] = .ok (.d (.tup [.str "BadLot", .int (-1)])) [some (.d (.int 3)), some (.d (.int (v : Nat))), some (.d .non)] := by
  obtain rfl | rfl | rfl | rfl | rfl : v = 1 ∨ v = 2 ∨ v = 3 ∨ v = 4 ∨ v = 5 := by omega
  all_goals kernel_rfl
theorem ref_e2 (j : Nat) {v : Nat} (hv : 1 ≤ v ∧ v ≤ 5) : callC (j+9) 43 [.d (.int 3), .d (.int (v : Nat)), .d (.tup [.int 0, .int 0])] = .ok (.d (.tup [.str "BadLot", .int 1])) [some (.d (.int 3)), some (.d (.int (v : Nat))), some (.d (.tup [.int 0, .int 0]))] := by
  obtain rfl | rfl | rfl | rfl | rfl : v = 1 ∨ v = 2 ∨ v = 3 ∨ v = 4 ∨ v = 5 := by omega
  all_goals kernel_rfl
end Bw

set_option maxHeartbeats 2000000
namespace Bw
open PySem PySem.Spec PyProof.Rows L2
open K02 (bt Bits tg sz)
variable {v : Nat} {t : List Int} {X : D}
theorem fz_comp : fz ∘ T.d = id := funext fun _ => fz_d
theorem fz_comp3 : fz ∘ T.d ∘ D.int = D.int := funext fun _ => fz_d
theorem binD_lst {as bs : List D} (h : as.length + bs.length ≤ 1000) : binD .Add (.lst as, false) (.lst bs, false) = some (.lst ((as ++ bs).map .d)) := by
  have h2 : lineB (as.length + bs.length) = true := by unfold lineB; exact Nat.ble_eq_true_of_le (by omega)
  simp [binD, h2]
theorem cut_lo {l : List D} {n : Nat} (h : n ≤ l.length) : sliceO (.lst l, false) none (some (n : Int)) = some (.lst ((l.take n).map .d)) := by
  unfold sliceO
  dsimp only
  rw [show HT.sIx l.length l.length (some (n : Int)) = min n l.length from HT.sIx_nat l.length l.length n, HT.sIx_none, Nat.min_eq_left h]
  simp
theorem cut_hi {l : List D} {n : Nat} (h : n ≤ l.length) : sliceO (.lst l, false) (some (n : Int)) none = some (.lst ((l.drop n).map .d)) := by
  unfold sliceO
  dsimp only
  rw [show HT.sIx l.length 0 (some (n : Int)) = min n l.length from HT.sIx_nat l.length 0 n, HT.sIx_none, Nat.min_eq_left h]
  simp
  exact List.take_of_length_le (by simp)
theorem badAt_app : ∀ (P : List Int) (x : D) (Q : List D) (i : Nat), (∀ y, y ∈ P → y = 0 ∨ y = 1) → okE x = false → badAt i (P.map .int ++ x :: Q) = some (i + P.length)
  | [], x, Q, i, _, hx => by
    show badAt i (x :: Q) = _
    rw [badAt, hx]
    rfl
  | y :: P, x, Q, i, h, hx => by
    have hy : okE (.int y) = true := by rcases h y List.mem_cons_self with rfl | rfl <;> rfl
    rw [List.map_cons, List.cons_append, badAt, if_pos hy, badAt_app P x Q (i + 1) (fun z m => h z (List.mem_cons_of_mem _ m)) hx, List.length_cons]
    congr 1
    omega
theorem ref_doors (c : CN) (i : Nat) {A B C : Option T} {W : List D} {p : Int} {o4 : Option T} (hc : ∀ d : Int, d = 0 ∨ d = 1 ∨ d = 2 ∨ d = 7 → c 43 [.d (.int d), .d (.int (v : Nat)), .d (.lst W)] = .ok (.d (.tup [.str "BadTable", .int p])) [some (.d (.int d)), some (.d (.int (v : Nat))), some (.d (.lst W))]) :
    ∃ fr', (∃ o5 o6, fr' = [A, B, some (.d (.int (v : Nat))), some (.d (.int p)), o4, o5, o6, none, none]) ∧
    forL (.inl 6) (b__law_refused_L8 c) ⟨[.int 0, .int 1, .int 2, .int 7], none, false⟩ [.int 0, .int 1, .int 2, .int 7] [A, B, some (.d (.int (v : Nat))), some (.d (.int p)), o4, some (.lst (W.map .d)), C, none, none] = .ok .nx fr' := by
  have ok : PyData.strOk ("BadTable" : Str) = true := by decide +kernel
  obtain ⟨fr', ⟨s5, o6, h1, rfl⟩, e⟩ := forL_all (g := .inl 6) (body := b__law_refused_L8 c) (its := [.int 0, .int 1, .int 2, .int 7]) (b := false)
    (fun fr => ∃ s5 o6, (s5 = .lst (W.map .d) ∨ s5 = .d (.lst W)) ∧ fr = [A, B, some (.d (.int (v : Nat))), some (.d (.int p)), o4, some s5, o6, none, none]) [.int 0, .int 1, .int 2, .int 7] [A, B, some (.d (.int (v : Nat))), some (.d (.int p)), o4, some (.lst (W.map .d)), C, none, none] ⟨_, _, .inl rfl, rfl⟩
    (fun x m fr ⟨s5, o6, h1, hf⟩ => by
      subst hf
      obtain ⟨d, hd, rfl⟩ : ∃ d : Int, (d = 0 ∨ d = 1 ∨ d = 2 ∨ d = 7) ∧ x = .int d := by
        simp at m
        rcases m with rfl | rfl | rfl | rfl
        · exact ⟨0, by simp, rfl⟩
        · exact ⟨1, by simp, rfl⟩
        · exact ⟨2, by simp, rfl⟩
        · exact ⟨7, by simp, rfl⟩
      have e := hc d hd
      refine ⟨_, rfl, [A, B, some (.d (.int (v : Nat))), some (.d (.int p)), o4, some (.d (.lst W)), some (.d (.int d)), none, none], ⟨_, _, .inr rfl, rfl⟩, ?_⟩
      rcases h1 with rfl | rfl
      · simp [b__law_refused_L8, fz_comp, e, lineB, eqD_si ok]
      · simp [b__law_refused_L8, e, lineB, eqD_si ok])
  exact ⟨_, ⟨_, _, rfl⟩, e⟩
theorem ref_doorsN (c : CN) {A B E C o4 : Option T} {X : D} (hc : ∀ d : Int, d = 0 ∨ d = 1 ∨ d = 2 ∨ d = 7 → c 43 [.d (.int d), .d (.int (v : Nat)), .d X] = .ok (.d (.tup [.str "BadTable", .int (-1)])) [some (.d (.int d)), some (.d (.int (v : Nat))), some (.d X)]) :
    ∃ fr', (∃ o6, fr' = [A, B, some (.d (.int (v : Nat))), E, o4, some (.d X), o6, none, none]) ∧
    forL (.inl 6) (b__law_refused_L6 c) ⟨[.int 0, .int 1, .int 2, .int 7], none, false⟩ [.int 0, .int 1, .int 2, .int 7] [A, B, some (.d (.int (v : Nat))), E, o4, some (.d X), C, none, none] = .ok .nx fr' := by
  have ok : PyData.strOk ("BadTable" : Str) = true := by decide +kernel
  obtain ⟨fr', ⟨o6, rfl⟩, e⟩ := forL_all (g := .inl 6) (body := b__law_refused_L6 c) (its := [.int 0, .int 1, .int 2, .int 7]) (b := false)
    (fun fr => ∃ o6, fr = [A, B, some (.d (.int (v : Nat))), E, o4, some (.d X), o6, none, none]) [.int 0, .int 1, .int 2, .int 7] [A, B, some (.d (.int (v : Nat))), E, o4, some (.d X), C, none, none] ⟨_, rfl⟩
    (fun x m fr ⟨o6, hf⟩ => by
      subst hf
      obtain ⟨d, hd, rfl⟩ : ∃ d : Int, (d = 0 ∨ d = 1 ∨ d = 2 ∨ d = 7) ∧ x = .int d := by
        simp at m
        rcases m with rfl | rfl | rfl | rfl
        · exact ⟨0, by simp, rfl⟩
        · exact ⟨1, by simp, rfl⟩
        · exact ⟨2, by simp, rfl⟩
        · exact ⟨7, by simp, rfl⟩
      have e := hc d hd
      refine ⟨_, rfl, [A, B, some (.d (.int (v : Nat))), E, o4, some (.d X), some (.d (.int d)), none, none], ⟨_, rfl⟩, ?_⟩
      simp [b__law_refused_L6, e, lineB, eqD_si ok])
  exact ⟨_, ⟨_, rfl⟩, e⟩
theorem refused_ok (j : Nat) (h : Tb v t) (ds : List Int) : ∃ ds', callC (j+10) 44 [oL ds, .d (.lst (t.map .int)), .d (.int (v : Nat))] = .ok (.d (.bl true)) [some (oL ds'), some (.d (.lst (t.map .int))), some (.d (.int (v : Nat)))] := by
  rw [q__law_refused]
  have hv : 1 ≤ v ∧ v ≤ 5 := ⟨h.lo, h.hi⟩
  have hl := h.le
  have hlen := h.len
  obtain ⟨p, ds', hp, et⟩ := take_ok (j+8) ds (m := t.length) h.pos
  refine ⟨ds', ?_⟩
  have okT : PyData.strOk ("BadTable" : Str) = true := by decide +kernel
  have okL : PyData.strOk ("BadLot" : Str) = true := by decide +kernel
  -- the bad entries
  obtain ⟨fr1, ⟨a4, a5, a6, rfl⟩, e1⟩ := forL_all (g := .inl 4) (body := b__law_refused_L9 (callC (j+9))) (its := [.int 2, .int (-1), .non, .bl true, .str "1"]) (b := false)
    (fun fr => ∃ o4 o5 o6, fr = [some (oL ds'), some (.d (.lst (t.map .int))), some (.d (.int (v : Nat))), some (.d (.int (p : Nat))), o4, o5, o6, none, none]) [.int 2, .int (-1), .non, .bl true, .str "1"]
    [some (oL ds'), some (.d (.lst (t.map .int))), some (.d (.int (v : Nat))), some (.d (.int (p : Nat))), none, none, none, none, none] ⟨_, _, _, rfl⟩
    (fun x m fr ⟨o4, o5, o6, hf⟩ => by
      subst hf
      have hx : okE x = false ∧ nIns x = true := by
        simp at m
        rcases m with rfl | rfl | rfl | rfl | rfl <;> exact ⟨rfl, rfl⟩
      have c1 := cut_lo (l := t.map D.int) (n := p) (by simp; omega)
      have c2 := cut_hi (l := t.map D.int) (n := p + 1) (by simp; omega)
      have lp : (t.take p).length = p := by rw [List.length_take]; omega
      have e0 : (t.map D.int).take p ++ [x] ++ (t.map D.int).drop (p + 1) = (t.take p).map .int ++ x :: (t.map D.int).drop (p + 1) := by rw [List.map_take]; simp
      have ba := badAt_app (t.take p) x ((t.map D.int).drop (p + 1)) 0 (fun y m => h.bits y (List.mem_of_mem_take m)) hx.1
      rw [lp, Nat.zero_add, ← e0] at ba
      have ln : ((t.map D.int).take p ++ [x] ++ (t.map D.int).drop (p + 1)).length = 2 ^ v := by
        rw [← hlen]; simp; omega
      have ni : ((t.map D.int).take p ++ [x] ++ (t.map D.int).drop (p + 1)).all nIns = true := by
        rw [List.all_append, List.all_append, ← List.map_take, ← List.map_drop, ints_nIns, ints_nIns]
        simp [hx.2]
      have b1 : binD .Add (.lst ((t.map D.int).take p), false) (.lst [x], false) = _ := binD_lst (by simp; omega)
      have b2 : binD .Add (.lst ((t.map D.int).take p ++ [x]), false) (.lst ((t.map D.int).drop (p + 1)), false) = _ := binD_lst (by simp; omega)
      have c2' : sliceO (.lst (t.map D.int), false) (some ((p : Int) + 1)) none = _ := c2
      generalize (t.map D.int).take p = P at c1 b1 b2 ba ln ni
      generalize (t.map D.int).drop (p + 1) = Q at c2' b2 ba ln ni
      generalize hW : P ++ [x] ++ Q = W at b2 ba ln ni
      have rf := fun k => rf_at (X := .lst W) k hv (.inl rfl) ln ni ba
      have hc : ∀ d : Int, d = 0 ∨ d = 1 ∨ d = 2 ∨ d = 7 → callC (j+9) 43 [.d (.int d), .d (.int (v : Nat)), .d (.lst W)] = _ := fun d hd => door_rf (j := j+3) (rf _) (rf _) hd
      obtain ⟨fr', ⟨q5, q6, rfl⟩, ef⟩ := ref_doors (callC (j+9)) 0 (A := some (oL ds')) (B := some (.d (.lst (t.map .int)))) (C := o6) (o4 := some (.d x)) hc
      refine ⟨_, rfl, _, ⟨some (.d x), q5, q6, rfl⟩, ?_⟩
      have l1 : lineB 1 = true := rfl
      have l4 : lineB 4 = true := rfl
      simp [b__law_refused_L9, c1, c2', b1, l1, l4, fz_comp, b2, ef])
  -- what is no table
  have lz : (List.range 64).map (fun k => T.d (.int 0)) = ((List.range 64).map fun k => D.int 0).map .d := by rw [List.map_map]; rfl
  have ez : ∀ o4 o5 o6, compL [8] (.inl 8) kYes (b__law_refused_E5 (callC (j+9))) ⟨(List.range 64).map fun k => .int ((k : Nat) : Int), none, false⟩ ((List.range 64).map fun k => .int ((k : Nat) : Int)) [] [some (oL ds'), some (.d (.lst (t.map .int))), some (.d (.int (v : Nat))), some (.d (.int (p : Nat))), o4, o5, o6, none, none] = .ok ((List.range 64).map (fun k => T.d (.int 0))) [some (oL ds'), some (.d (.lst (t.map .int))), some (.d (.int (v : Nat))), some (.d (.int (p : Nat))), o4, o5, o6, none, none] := fun o4 o5 o6 =>
    compL_map (own := [8]) (tg := .inl 8) (fun _ => .d (.int 0)) (fun k : Nat => .int ((k : Nat) : Int)) (List.range 64) (fun n mn => ⟨_, [some (oL ds'), some (.d (.lst (t.map .int))), some (.d (.int (v : Nat))), some (.d (.int (p : Nat))), o4, o5, o6, none, some (.d (.int (n : Nat)))], rfl, by simp [b__law_refused_E5], by simp⟩) (by simp)
  have r64 : range1 (.int 64) = some ⟨(List.range 64).map fun k => .int ((k : Nat) : Int), none, false⟩ := range1_nat (v := 64) (by decide)
  have zl : ((List.range 64).map fun k => D.int 0).length = 64 := by simp
  rw [lz] at ez
  generalize (List.range 64).map (fun k => D.int 0) = Z at ez zl
  generalize List.range 64 = R at ez r64
  have bt1 : binD .Add (.lst (t.map D.int), false) (.lst [.int 0], false) = _ := binD_lst (by simp; omega)
  obtain ⟨fr2, ⟨d5, d6, rfl⟩, e2⟩ := forL_all (g := .inl 5) (body := b__law_refused_L7 (callC (j+9))) (its := [.non, .int 1, .lst [], .lst [.int 0], .lst (t.map D.int ++ [.int 0]), .str "0110", .lst Z]) (b := false)
    (fun fr => ∃ o5 o6, fr = [some (oL ds'), some (.d (.lst (t.map .int))), some (.d (.int (v : Nat))), some (.d (.int (p : Nat))), a4, o5, o6, none, none]) [.non, .int 1, .lst [], .lst [.int 0], .lst (t.map D.int ++ [.int 0]), .str "0110", .lst Z]
    [some (oL ds'), some (.d (.lst (t.map .int))), some (.d (.int (v : Nat))), some (.d (.int (p : Nat))), a4, a5, a6, none, none] ⟨_, _, rfl⟩
    (fun x m fr ⟨o5, o6, hf⟩ => by
      subst hf
      have hno : No x := by
        have h5 : t.length = 2 ∨ t.length = 4 ∨ t.length = 8 ∨ t.length = 16 ∨ t.length = 32 := by
          rw [hlen]
          obtain rfl | rfl | rfl | rfl | rfl : v = 1 ∨ v = 2 ∨ v = 3 ∨ v = 4 ∨ v = 5 := by omega
          all_goals decide
        simp at m
        rcases m with rfl | rfl | rfl | rfl | rfl | rfl | rfl
        · exact .inl rfl
        · exact .inl rfl
        · exact .inr ⟨[], .inl rfl, by decide, by decide, by decide, by decide, by decide⟩
        · exact .inr ⟨[.int 0], .inl rfl, by simp, by simp, by simp, by simp, by simp⟩
        · exact .inr ⟨_, .inl rfl, by simp; omega, by simp; omega, by simp; omega, by simp; omega, by simp; omega⟩
        · exact .inl rfl
        · exact .inr ⟨_, .inl rfl, by omega, by omega, by omega, by omega, by omega⟩
      have hc : ∀ d : Int, d = 0 ∨ d = 1 ∨ d = 2 ∨ d = 7 → callC (j+9) 43 [.d (.int d), .d (.int (v : Nat)), .d x] = _ := fun d hd => door_rf (j := j+3) (rf_no _ hv hno) (rf_no _ hv hno) hd
      obtain ⟨fr', ⟨q6, rfl⟩, ef⟩ := ref_doorsN (callC (j+9)) (A := some (oL ds')) (B := some (.d (.lst (t.map .int)))) (E := some (.d (.int (p : Nat)))) (C := o6) (o4 := a4) hc
      refine ⟨_, rfl, _, ⟨some (.d x), q6, rfl⟩, ?_⟩
      have l4 : lineB 4 = true := rfl
      simp [b__law_refused_L7, l4, ef])
  have e3 := ref_L4 j (some (oL ds')) (some (.d (.lst (t.map .int)))) (some (.d (.int (v : Nat)))) (some (.d (.int (p : Nat)))) a4 d5 d6
  have e4 := ref_L2 j hv (some (oL ds')) (some (.d (.lst (t.map .int)))) (some (.d (.int (p : Nat)))) a4 d5 (some (.d (.int 5))) (some (.d (.int (-1))))
  have e5 := ref_L1 j hv (some (oL ds')) (some (.d (.lst (t.map .int)))) (some (.d (.int (p : Nat)))) a4 d5 (some (.d (.int 5))) (some (.d (.bl false)))
  have f1 := ref_e1 j hv
  have f2 := ref_e2 j hv
  rw [← hlen] at e4
  have l0 : lineB 0 = true := rfl
  have l1 : lineB 1 = true := rfl
  have l2 : lineB 2 = true := rfl
  have l4 : lineB 4 = true := rfl
  have l5 : lineB 5 = true := rfl
  have l7 : lineB 7 = true := rfl
  simp [b__law_refused, et, e1, l0, l1, l2, l4, l5, l7, bt1, r64, ez, fz_comp, fz_comp3, e2, e3, e4, e5, f1, f2, eqD_si okL, psBack_three]
end Bw

set_option maxHeartbeats 2000000
namespace Bw
open PySem PySem.Spec PyProof.Rows L2
theorem each_ok (k : Nat) {v : Nat} (hv : 1 ≤ v ∧ v ≤ 5) : callC (k+9) 38 [.d (.int (v : Nat))] = .ok (.d (.bl true)) [some (.d (.int (v : Nat)))] := by
  obtain rfl | rfl | rfl | rfl | rfl : v = 1 ∨ v = 2 ∨ v = 3 ∨ v = 4 ∨ v = 5 := by omega
  all_goals kernel_rfl
theorem most_ok (k : Nat) {v : Nat} (hv : 1 ≤ v ∧ v ≤ 5) : callC (k+9) 42 [.d (.int (v : Nat))] = .ok (.d (.bl true)) [some (.d (.int (v : Nat)))] := by
  obtain rfl | rfl | rfl | rfl | rfl : v = 1 ∨ v = 2 ∨ v = 3 ∨ v = 4 ∨ v = 5 := by omega
  all_goals kernel_rfl
/-- how many rising tables -/
def rsN (v : Nat) : Int := if v = 1 then 3 else if v = 2 then 6 else if v = 3 then 20 else 168
theorem cr_ok (k : Nat) {v : Nat} (hv : 1 ≤ v ∧ v ≤ 4) : callC (k+9) 20 [.d (.int (v : Nat))] = .ok (.d (.int (rsN v))) [some (.d (.int (v : Nat)))] := by
  obtain rfl | rfl | rfl | rfl : v = 1 ∨ v = 2 ∨ v = 3 ∨ v = 4 := by omega
  all_goals kernel_rfl
theorem ri_ok (k : Nat) {v : Nat} (hv : 1 ≤ v ∧ v ≤ 4) : callC (k+9) 41 [.d (.int (v : Nat))] = .ok (.d (.int (rsN v))) [some (.d (.int (v : Nat)))] := by
  obtain rfl | rfl | rfl | rfl : v = 1 ∨ v = 2 ∨ v = 3 ∨ v = 4 := by omega
  all_goals kernel_rfl
def setsB (k : Nat) (v n : Nat) : Prop := callC (k+9) 39 [.d (.int (v : Nat)), .d (.int (n : Nat))] = .ok (.d (.bl true)) [some (.d (.int (v : Nat))), some (.d (.int (n : Nat)))]
theorem sets_1_0 (k : Nat) : setsB k 1 0 := by unfold setsB; kernel_rfl
theorem sets_1_1 (k : Nat) : setsB k 1 1 := by unfold setsB; kernel_rfl
theorem sets_1 (k : Nat) : ∀ n, n < 2 → setsB k 1 n
  | 0, _ => sets_1_0 k
  | 1, _ => sets_1_1 k
  | n + 2, h => by omega
theorem sets_2_0 (k : Nat) : setsB k 2 0 := by unfold setsB; kernel_rfl
theorem sets_2_1 (k : Nat) : setsB k 2 1 := by unfold setsB; kernel_rfl
theorem sets_2_2 (k : Nat) : setsB k 2 2 := by unfold setsB; kernel_rfl
theorem sets_2_3 (k : Nat) : setsB k 2 3 := by unfold setsB; kernel_rfl
theorem sets_2 (k : Nat) : ∀ n, n < 4 → setsB k 2 n
  | 0, _ => sets_2_0 k
  | 1, _ => sets_2_1 k
  | 2, _ => sets_2_2 k
  | 3, _ => sets_2_3 k
  | n + 4, h => by omega
theorem sets_3_0 (k : Nat) : setsB k 3 0 := by unfold setsB; kernel_rfl
theorem sets_3_1 (k : Nat) : setsB k 3 1 := by unfold setsB; kernel_rfl
theorem sets_3_2 (k : Nat) : setsB k 3 2 := by unfold setsB; kernel_rfl
theorem sets_3_3 (k : Nat) : setsB k 3 3 := by unfold setsB; kernel_rfl
theorem sets_3_4 (k : Nat) : setsB k 3 4 := by unfold setsB; kernel_rfl
theorem sets_3_5 (k : Nat) : setsB k 3 5 := by unfold setsB; kernel_rfl
theorem sets_3_6 (k : Nat) : setsB k 3 6 := by unfold setsB; kernel_rfl
theorem sets_3_7 (k : Nat) : setsB k 3 7 := by unfold setsB; kernel_rfl
theorem sets_3 (k : Nat) : ∀ n, n < 8 → setsB k 3 n
  | 0, _ => sets_3_0 k
  | 1, _ => sets_3_1 k
  | 2, _ => sets_3_2 k
  | 3, _ => sets_3_3 k
  | 4, _ => sets_3_4 k
  | 5, _ => sets_3_5 k
  | 6, _ => sets_3_6 k
  | 7, _ => sets_3_7 k
  | n + 8, h => by omega
theorem sets_4_0 (k : Nat) : setsB k 4 0 := by unfold setsB; kernel_rfl
theorem sets_4_1 (k : Nat) : setsB k 4 1 := by unfold setsB; kernel_rfl
theorem sets_4_2 (k : Nat) : setsB k 4 2 := by unfold setsB; kernel_rfl
theorem sets_4_3 (k : Nat) : setsB k 4 3 := by unfold setsB; kernel_rfl
theorem sets_4_4 (k : Nat) : setsB k 4 4 := by unfold setsB; kernel_rfl
theorem sets_4_5 (k : Nat) : setsB k 4 5 := by unfold setsB; kernel_rfl
theorem sets_4_6 (k : Nat) : setsB k 4 6 := by unfold setsB; kernel_rfl
theorem sets_4_7 (k : Nat) : setsB k 4 7 := by unfold setsB; kernel_rfl
theorem sets_4_8 (k : Nat) : setsB k 4 8 := by unfold setsB; kernel_rfl
theorem sets_4_9 (k : Nat) : setsB k 4 9 := by unfold setsB; kernel_rfl
theorem sets_4_10 (k : Nat) : setsB k 4 10 := by unfold setsB; kernel_rfl
theorem sets_4_11 (k : Nat) : setsB k 4 11 := by unfold setsB; kernel_rfl
theorem sets_4_12 (k : Nat) : setsB k 4 12 := by unfold setsB; kernel_rfl
theorem sets_4_13 (k : Nat) : setsB k 4 13 := by unfold setsB; kernel_rfl
theorem sets_4_14 (k : Nat) : setsB k 4 14 := by unfold setsB; kernel_rfl
theorem sets_4_15 (k : Nat) : setsB k 4 15 := by unfold setsB; kernel_rfl
theorem sets_4 (k : Nat) : ∀ n, n < 16 → setsB k 4 n
  | 0, _ => sets_4_0 k
  | 1, _ => sets_4_1 k
  | 2, _ => sets_4_2 k
  | 3, _ => sets_4_3 k
  | 4, _ => sets_4_4 k
  | 5, _ => sets_4_5 k
  | 6, _ => sets_4_6 k
  | 7, _ => sets_4_7 k
  | 8, _ => sets_4_8 k
  | 9, _ => sets_4_9 k
  | 10, _ => sets_4_10 k
  | 11, _ => sets_4_11 k
  | 12, _ => sets_4_12 k
  | 13, _ => sets_4_13 k
  | 14, _ => sets_4_14 k
  | 15, _ => sets_4_15 k
  | n + 16, h => by omega
theorem sets_5_0 (k : Nat) : setsB k 5 0 := by unfold setsB; kernel_rfl
theorem sets_5_1 (k : Nat) : setsB k 5 1 := by unfold setsB; kernel_rfl
theorem sets_5_2 (k : Nat) : setsB k 5 2 := by unfold setsB; kernel_rfl
theorem sets_5_3 (k : Nat) : setsB k 5 3 := by unfold setsB; kernel_rfl
theorem sets_5_4 (k : Nat) : setsB k 5 4 := by unfold setsB; kernel_rfl
theorem sets_5_5 (k : Nat) : setsB k 5 5 := by unfold setsB; kernel_rfl
theorem sets_5_6 (k : Nat) : setsB k 5 6 := by unfold setsB; kernel_rfl
theorem sets_5_7 (k : Nat) : setsB k 5 7 := by unfold setsB; kernel_rfl
theorem sets_5_8 (k : Nat) : setsB k 5 8 := by unfold setsB; kernel_rfl
theorem sets_5_9 (k : Nat) : setsB k 5 9 := by unfold setsB; kernel_rfl
theorem sets_5_10 (k : Nat) : setsB k 5 10 := by unfold setsB; kernel_rfl
theorem sets_5_11 (k : Nat) : setsB k 5 11 := by unfold setsB; kernel_rfl
theorem sets_5_12 (k : Nat) : setsB k 5 12 := by unfold setsB; kernel_rfl
theorem sets_5_13 (k : Nat) : setsB k 5 13 := by unfold setsB; kernel_rfl
theorem sets_5_14 (k : Nat) : setsB k 5 14 := by unfold setsB; kernel_rfl
theorem sets_5_15 (k : Nat) : setsB k 5 15 := by unfold setsB; kernel_rfl
theorem sets_5_16 (k : Nat) : setsB k 5 16 := by unfold setsB; kernel_rfl
theorem sets_5_17 (k : Nat) : setsB k 5 17 := by unfold setsB; kernel_rfl
theorem sets_5_18 (k : Nat) : setsB k 5 18 := by unfold setsB; kernel_rfl
theorem sets_5_19 (k : Nat) : setsB k 5 19 := by unfold setsB; kernel_rfl
theorem sets_5_20 (k : Nat) : setsB k 5 20 := by unfold setsB; kernel_rfl
theorem sets_5_21 (k : Nat) : setsB k 5 21 := by unfold setsB; kernel_rfl
theorem sets_5_22 (k : Nat) : setsB k 5 22 := by unfold setsB; kernel_rfl
theorem sets_5_23 (k : Nat) : setsB k 5 23 := by unfold setsB; kernel_rfl
theorem sets_5_24 (k : Nat) : setsB k 5 24 := by unfold setsB; kernel_rfl
theorem sets_5_25 (k : Nat) : setsB k 5 25 := by unfold setsB; kernel_rfl
theorem sets_5_26 (k : Nat) : setsB k 5 26 := by unfold setsB; kernel_rfl
theorem sets_5_27 (k : Nat) : setsB k 5 27 := by unfold setsB; kernel_rfl
theorem sets_5_28 (k : Nat) : setsB k 5 28 := by unfold setsB; kernel_rfl
theorem sets_5_29 (k : Nat) : setsB k 5 29 := by unfold setsB; kernel_rfl
theorem sets_5_30 (k : Nat) : setsB k 5 30 := by unfold setsB; kernel_rfl
theorem sets_5_31 (k : Nat) : setsB k 5 31 := by unfold setsB; kernel_rfl
theorem sets_5 (k : Nat) : ∀ n, n < 32 → setsB k 5 n
  | 0, _ => sets_5_0 k
  | 1, _ => sets_5_1 k
  | 2, _ => sets_5_2 k
  | 3, _ => sets_5_3 k
  | 4, _ => sets_5_4 k
  | 5, _ => sets_5_5 k
  | 6, _ => sets_5_6 k
  | 7, _ => sets_5_7 k
  | 8, _ => sets_5_8 k
  | 9, _ => sets_5_9 k
  | 10, _ => sets_5_10 k
  | 11, _ => sets_5_11 k
  | 12, _ => sets_5_12 k
  | 13, _ => sets_5_13 k
  | 14, _ => sets_5_14 k
  | 15, _ => sets_5_15 k
  | 16, _ => sets_5_16 k
  | 17, _ => sets_5_17 k
  | 18, _ => sets_5_18 k
  | 19, _ => sets_5_19 k
  | 20, _ => sets_5_20 k
  | 21, _ => sets_5_21 k
  | 22, _ => sets_5_22 k
  | 23, _ => sets_5_23 k
  | 24, _ => sets_5_24 k
  | 25, _ => sets_5_25 k
  | 26, _ => sets_5_26 k
  | 27, _ => sets_5_27 k
  | 28, _ => sets_5_28 k
  | 29, _ => sets_5_29 k
  | 30, _ => sets_5_30 k
  | 31, _ => sets_5_31 k
  | n + 32, h => by omega
theorem sets_ok (k : Nat) {v n : Nat} (hv : 1 ≤ v ∧ v ≤ 5) (hn : n < 2 ^ v) : callC (k+9) 39 [.d (.int (v : Nat)), .d (.int (n : Nat))] = .ok (.d (.bl true)) [some (.d (.int (v : Nat))), some (.d (.int (n : Nat)))] := by
  obtain rfl | rfl | rfl | rfl | rfl : v = 1 ∨ v = 2 ∨ v = 3 ∨ v = 4 ∨ v = 5 := by omega
  · exact sets_1 k n hn
  · exact sets_2 k n hn
  · exact sets_3 k n hn
  · exact sets_4 k n hn
  · exact sets_5 k n hn
end Bw

set_option maxHeartbeats 2000000
namespace Bw
open PySem PySem.Spec PyProof.Rows L2
section
variable {α : Type}
theorem compL2_pure {own own1 : List Nat} {tg tg1 : Sum Nat (List Nat)} {test test1 : M Bool} {src1 : M Src} {elt : M T} {s : Src} {fr : Fr} (hg : guardOk s fr = true) (g : α → D) (F : α → List T) (c : Nat) (hF : ∀ x, (F x).length ≤ c) : ∀ (l : List α) (acc : List T),
    (∀ x, x ∈ l → ∃ fr1, storeTg tg s.pairs (g x) fr = some fr1 ∧ test fr1 = .ok true fr1 ∧ ∃ s1, src1 fr1 = .ok s1 fr1 ∧ guardFree s1 own1 = true ∧ (∀ acc, acc.length + c ≤ 16777216 → compL own1 tg1 test1 elt s1 s1.items acc (wipeF fr1 own1) = .ok (acc ++ F x) fr1) ∧ wipeF fr1 own = fr) →
    acc.length + l.length * c ≤ 16777216 → compL2 own tg test src1 own1 tg1 test1 elt s (l.map g) acc fr = .ok (acc ++ l.flatMap F) fr
  | [], acc, _, _ => by simp [compL2, hg]
  | x :: r, acc, h, hl => by
    obtain ⟨fr1, h1, h2, s1, h3, h4, h5, h6⟩ := h x List.mem_cons_self
    rw [List.length_cons, Nat.add_mul, Nat.one_mul] at hl
    rw [List.map_cons, compL2]
    simp only [hg, if_true, h1, h2, h3, h4, h5 acc (by omega), h6]
    have := hF x
    rw [compL2_pure hg g F c hF r _ (fun y m => h y (List.mem_cons_of_mem _ m)) (by rw [List.length_append]; omega), List.flatMap_cons, List.append_assoc]
end
def lc2R (own : List Nat) (fr : Fr) : Res (List T) → Res T
  | .ok ts fr' => .ok (.lst ts) (backF fr fr' own)
  | _ => .stuck
theorem lc2R_ok {own : List Nat} {ts : List T} {fr fr' : Fr} : lc2R own fr (.ok ts fr') = .ok (.lst ts) (backF fr fr' own) := of_eq_true (eq_self _)
theorem cLc2_ap {own : List Nat} {g g1 : Sum Nat (List Nat)} {src : M Src} {test : M Bool} {src1 : M Src} {test1 : M Bool} {elt : M T} {fr : Fr} : cLc2 own g g1 src test src1 test1 elt fr = (src fr).bnd fun s fr =>
    if ownOk fr own && guardFree s own && (tgIx g).all (fun i => own.contains i) then lc2R own fr (compL2 own g test src1 (tgIx g1) g1 test1 elt s s.items [] (wipeF fr own)) else .stuck := by
  rw [cLc2, bind_ap]
  refine bnd_congr fun s fr => ?_
  split
  · cases compL2 own g test src1 (tgIx g1) g1 test1 elt s s.items [] (wipeF fr own) <;> rfl
  · rfl
/-! ### rows of rising tables -/
def leqB (a b : Nat) : Bool := a &&& b == a
def stepR (L : List Nat) (w : Nat) : List Nat := L.flatMap fun lo => (L.filter (leqB lo)).map fun hi => lo + hi * 2 ^ w
def rw4 : List Nat := stepR (stepR (stepR (stepR [0, 1] 1) 2) 4) 8
theorem rw4_count : (rw4.flatMap fun lo => (rw4.filter (leqB lo)).map fun _ => lo).length = 7581 := by decide +kernel
def nL (L : List Nat) : T := .lst (L.map fun n => .d (.int ((n : Nat) : Int)))
theorem op_and (a b : Nat) : intOp .BitAnd (a : Int) (b : Int) = some ((a &&& b : Nat) : Int) := by
  show some (Builtin.bitAnd _ _) = _
  unfold Builtin.bitAnd
  rw [decide_eq_true (Int.natCast_nonneg _), decide_eq_true (Int.natCast_nonneg _)]
  rfl
theorem op_shn (a w : Nat) (ha : a < 4294967296) (hw : w ≤ 64) : intOp .LShift (a : Int) (w : Int) = some ((a * 2 ^ w : Nat) : Int) := by
  have h : (0 : Int) ≤ (w : Int) ∧ (w : Int) ≤ 1000000 ∧ (a : Int).natAbs < 2 ^ 64 := by
    refine ⟨by omega, by omega, ?_⟩
    rw [Int.natAbs_natCast]
    omega
  simp only [intOp, h, and_self, if_true]
  simp
theorem leq_int (a b : Nat) : decide (((a &&& b : Nat) : Int) = (a : Int)) = leqB a b := by
  unfold leqB
  exact Bool.eq_iff_iff.mpr (by simp; omega)
theorem cr_T3 (c : CN) {V R S W : Option T} (a b : Nat) : b_count_rising_T3 c [V, R, S, W, some (.d (.int (a : Nat))), some (.d (.int (b : Nat)))] = .ok (leqB a b) [V, R, S, W, some (.d (.int (a : Nat))), some (.d (.int (b : Nat)))] := by
  simp only [b_count_rising_T3, kP_ap, pCmp_ap, pBin_ap, pS_ap, getS_succ, getS_zero, Option.map_some, opdT_d, Option.bind_some, binD_int, op_and, dOnly_d, cmp_eq, eqD_int, kOf_some, truD_bl, ofO_some, leq_int]
theorem cr_T1 (c : CN) {V R S W : Option T} (a b : Nat) : b_count_rising_T1 c [V, R, S, W, some (.d (.int (a : Nat))), some (.d (.int (b : Nat)))] = .ok (leqB a b) [V, R, S, W, some (.d (.int (a : Nat))), some (.d (.int (b : Nat)))] := by
  simp only [b_count_rising_T1, kP_ap, pCmp_ap, pBin_ap, pS_ap, getS_succ, getS_zero, Option.map_some, opdT_d, Option.bind_some, binD_int, op_and, dOnly_d, cmp_eq, eqD_int, kOf_some, truD_bl, ofO_some, leq_int]
theorem opdT_nL {L : List Nat} : opdT (nL L) = (.lst (L.map fun n => .int ((n : Nat) : Int)), true) := by
  unfold nL
  rw [opdT_lst, fzs_eq, List.map_map]
  rfl
theorem imms_nats : ∀ L : List Nat, imms (L.map fun n => .int ((n : Nat) : Int)) = true
  | [] => by simp
  | a :: r => by rw [List.map_cons, imms_cons, imms_nats r]; simp
theorem walk_nL {L : List Nat} {fr : Fr} (h : getS fr 1 = some (nL L)) : wkP (pS 1) (some 1) (some 1) fr = .ok ⟨L.map fun n => .int ((n : Nat) : Int), some (1, nL L), false⟩ fr := by
  rw [wkP_ap, pS_ap, h, Option.map_some, opdT_nL, wkR_lt, h, wkG_some, if_pos (imms_nats L)]
/-- pairs of rows: what they give -/
theorem cr_comp (test1 : M Bool) (elt : M T) (f : Nat → Nat → Nat) {V S W : Option T} (L : List Nat) (hl : L.length ≤ 200)
    (ht : ∀ a b : Nat, test1 [V, some (nL L), S, W, some (.d (.int (a : Nat))), some (.d (.int (b : Nat)))] = .ok (leqB a b) [V, some (nL L), S, W, some (.d (.int (a : Nat))), some (.d (.int (b : Nat)))])
    (he : ∀ a b : Nat, b ∈ L → elt [V, some (nL L), S, W, some (.d (.int (a : Nat))), some (.d (.int (b : Nat)))] = .ok (.d (.int ((f a b : Nat) : Int))) [V, some (nL L), S, W, some (.d (.int (a : Nat))), some (.d (.int (b : Nat)))]) :
    compL2 [4, 5] (.inl 4) kYes (wkP (pS 1) (some 1) (some 1)) [5] (.inl 5) test1 elt ⟨L.map fun n => .int ((n : Nat) : Int), some (1, nL L), false⟩ (L.map fun n => .int ((n : Nat) : Int)) [] [V, some (nL L), S, W, none, none] =
    .ok (L.flatMap fun a => ((L.filter (leqB a)).map fun b => .d (.int ((f a b : Nat) : Int)))) [V, some (nL L), S, W, none, none] := by
  have := compL2_pure (own := [4, 5]) (own1 := [5]) (tg := .inl 4) (tg1 := .inl 5) (test := kYes) (test1 := test1) (src1 := wkP (pS 1) (some 1) (some 1)) (elt := elt) (s := ⟨L.map fun n => .int ((n : Nat) : Int), some (1, nL L), false⟩) (fr := [V, some (nL L), S, W, none, none])
    (guardOk_some (by simp)) (fun n : Nat => .int ((n : Nat) : Int)) (fun a => ((L.filter (leqB a)).map fun b => T.d (.int ((f a b : Nat) : Int)))) 200 (fun a => by
      rw [List.length_map]
      exact Nat.le_trans (List.length_filter_le _ _) hl) L [] (fun a m => by
      refine ⟨[V, some (nL L), S, W, some (.d (.int (a : Nat))), none], by simp, by simp, ⟨L.map fun n => .int ((n : Nat) : Int), some (1, nL L), false⟩, walk_nL (by simp), by simp, fun acc hacc => ?_, by simp⟩
      have hc := compL_pureG (own := [5]) (tg := .inl 5) (test := test1) (elt := elt) (s := ⟨L.map fun n => .int ((n : Nat) : Int), some (1, nL L), false⟩) (fr := [V, some (nL L), S, W, some (.d (.int (a : Nat))), none]) (guardOk_some (by simp)) (leqB a) (fun b => T.d (.int ((f a b : Nat) : Int))) (fun n : Nat => .int ((n : Nat) : Int)) L acc
        (fun b mb => ⟨[V, some (nL L), S, W, some (.d (.int (a : Nat))), some (.d (.int (b : Nat)))], [V, some (nL L), S, W, some (.d (.int (a : Nat))), some (.d (.int (b : Nat)))], [V, some (nL L), S, W, some (.d (.int (a : Nat))), some (.d (.int (b : Nat)))], by simp, ht a b, fun _ => ⟨he a b mb, by simp⟩, fun _ => by simp⟩) (by omega)
      simp only [wipeF_cons, wipeF_nil, List.set_cons_succ, List.set_cons_zero]
      exact hc) (by
      have : L.length * 200 ≤ 200 * 200 := Nat.mul_le_mul_right 200 hl
      rw [List.length_nil]
      omega)
  rw [List.nil_append] at this
  exact this
theorem cr_L5 (c : CN) {V W0 : Option T} (L : List Nat) (hl : L.length ≤ 200) (hb : ∀ x, x ∈ L → x < 4294967296) (k : Nat) (hk : k ≤ 3) :
    b_count_rising_L5 c [V, some (nL L), some (.d (.int (k : Nat))), W0, none, none] = .ok .nx [V, some (nL (stepR L (pw k))), some (.d (.int (k : Nat))), some (.d (.int ((pw k : Nat) : Int))), none, none] := by
  have hw : pw k ≤ 64 := Nat.le_trans (Nat.pow_le_pow_right (n := 2) (by decide) hk) (by decide)
  have e := cr_comp (b_count_rising_T3 c) (b_count_rising_E4 c) (fun a b => a + b * 2 ^ pw k) (V := V) (S := some (.d (.int (k : Nat)))) (W := some (.d (.int ((pw k : Nat) : Int)))) L hl (fun a b => cr_T3 c a b) (fun a b mb => by
    have o := op_shn b (pw k) (hb b mb) hw
    simp [b_count_rising_E4, o])
  have w : wkP (pS 1) (some 1) (some 1) [V, some (nL L), some (.d (.int (k : Nat))), some (.d (.int ((pw k : Nat) : Int))), none, none] = _ := walk_nL (L := L) (by simp)
  have en : (T.lst (L.flatMap fun a => ((L.filter (leqB a)).map fun b => .d (.int ((a + b * 2 ^ pw k : Nat) : Int))))) = nL (stepR L (pw k)) := by
    unfold nL stepR
    rw [List.map_flatMap]
    simp only [List.map_map]
    rfl
  simp [-wkP_ap, -Int.natCast_add, -Int.natCast_mul, b_count_rising_L5, op_pw k (by omega), cLc2_ap, w, e, lc2R_ok, en]
theorem rw_len : (stepR [0, 1] 1).length ≤ 200 ∧ (stepR (stepR [0, 1] 1) 2).length ≤ 200 ∧ (stepR (stepR (stepR [0, 1] 1) 2) 4).length ≤ 200 ∧ rw4.length ≤ 200 := by decide +kernel
theorem rw_lt : (stepR [0, 1] 1).all (fun x => Nat.blt x 4294967296) = true ∧ (stepR (stepR [0, 1] 1) 2).all (fun x => Nat.blt x 4294967296) = true ∧ (stepR (stepR (stepR [0, 1] 1) 2) 4).all (fun x => Nat.blt x 4294967296) = true := by decide +kernel
theorem all_blt {L : List Nat} (h : L.all (fun x => Nat.blt x 4294967296) = true) : ∀ x, x ∈ L → x < 4294967296 := fun x m => by
  have := List.all_eq_true.mp h x m
  simpa using this
theorem cr5 (j : Nat) : callC (j+4) 20 [.d (.int 5)] = .ok (.d (.int 7581)) [some (.d (.int 5))] := by
  rw [q_count_rising]
  have c5 : callC (j+3) 5 [.d (.int 5)] = .ok (.d (.int 5)) [some (.d (.int 5))] := cC_5 j (v := 5) (by decide)
  obtain ⟨l1, l2, l3, l4⟩ := rw_len
  obtain ⟨b1, b2, b3⟩ := rw_lt
  have s0 := fun W0 => cr_L5 (callC (j+3)) (V := some (.d (.int 5))) (W0 := W0) [0, 1] (by decide) (by decide) 0 (by decide)
  have s1 := fun W0 => cr_L5 (callC (j+3)) (V := some (.d (.int 5))) (W0 := W0) (stepR [0, 1] 1) l1 (all_blt b1) 1 (by decide)
  have s2 := fun W0 => cr_L5 (callC (j+3)) (V := some (.d (.int 5))) (W0 := W0) (stepR (stepR [0, 1] 1) 2) l2 (all_blt b2) 2 (by decide)
  have s3 := fun W0 => cr_L5 (callC (j+3)) (V := some (.d (.int 5))) (W0 := W0) (stepR (stepR (stepR [0, 1] 1) 2) 4) l3 (all_blt b3) 3 (by decide)
  rw [show pw 0 = 1 from rfl] at s0
  rw [show pw 1 = 2 from rfl] at s1
  rw [show pw 2 = 4 from rfl] at s2
  rw [show pw 3 = 8 from rfl] at s3
  have e4 : stepR (stepR (stepR (stepR [0, 1] 1) 2) 4) 8 = rw4 := rfl
  rw [e4] at s3
  have n0 : T.lst [.d (.int 0), .d (.int 1)] = nL [0, 1] := rfl
  generalize stepR [0, 1] 1 = R1 at *
  generalize stepR R1 2 = R2 at *
  generalize stepR R2 4 = R3 at *
  have r : range1 (.int 4) = some ⟨[.int 0, .int 1, .int 2, .int 3], none, false⟩ := by rfl
  have e := cr_comp (b_count_rising_T1 (callC (j+3))) (b_count_rising_E2 (callC (j+3))) (fun a _ => a) (V := some (.d (.int 5))) (S := some (.d (.int 3))) (W := some (.d (.int 8))) rw4 l4 (fun a b => cr_T1 _ a b) (fun a b _ => by simp [b_count_rising_E2])
  have w : wkP (pS 1) (some 1) (some 1) [some (.d (.int 5)), some (nL rw4), some (.d (.int 3)), some (.d (.int 8)), none, none] = _ := walk_nL (L := rw4) (by simp)
  have ln : (rw4.flatMap fun a => ((rw4.filter (leqB a)).map fun b => T.d (.int ((a : Nat) : Int)))).length = 7581 := by
    have e : (rw4.flatMap fun a => ((rw4.filter (leqB a)).map fun b => T.d (.int ((a : Nat) : Int)))) = (rw4.flatMap fun lo => (rw4.filter (leqB lo)).map fun _ => lo).map fun n => T.d (.int ((n : Nat) : Int)) := by
      rw [List.map_flatMap]
      simp only [List.map_map]
      rfl
    rw [e, List.length_map, rw4_count]
  generalize (rw4.flatMap fun a => ((rw4.filter (leqB a)).map fun b => T.d (.int ((a : Nat) : Int)))) = Q at e ln
  generalize rw4 = R4 at *
  have l2 : lineB 2 = true := rfl
  have s0' := s0 none
  have s1' := s1 (some (.d (.int 1)))
  have s2' := s2 (some (.d (.int 2)))
  have s3' := s3 (some (.d (.int 4)))
  simp at s0' s1' s2' s3'
  simp [-wkP_ap, b_count_rising, c5, l2, n0, r, forL_cons, s0', s1', s2', s3', cLc2_ap, w, e, lc2R_ok, ln, psBack_one]
end Bw

set_option maxHeartbeats 4000000
namespace Bw
open PySem PySem.Spec PyProof.Rows L2
open K02 (bt Bits tg sz)
variable {v : Nat} {t : List Int} {X : D}
theorem Tb.dual (h : Tb v t) : Tb v (t.reverse.map (1 - ·)) := ⟨h.lo, h.hi, by rw [List.length_map, List.length_reverse, h.len], fun x m => by
  obtain ⟨y, hy, rfl⟩ := List.mem_map.mp m
  rcases h.bits y (List.mem_reverse.mp hy) with rfl | rfl <;> simp⟩
theorem law_L2 (j : Nat) {n : Nat} (hv : 1 ≤ v ∧ v ≤ 5) (hn : n < 2 ^ v) (S A B o5 o6 : Option T) : b_law_L2 (callC (j+10)) [S, A, some (.d (.int (v : Nat))), B, some (.d (.int (n : Nat))), o5, o6] = .ok .nx [S, A, some (.d (.int (v : Nat))), B, some (.d (.int (n : Nat))), o5, o6] := by
  have e := sets_ok (j+1) hv hn
  simp [b_law_L2, e]
theorem law_true (j : Nat) (sc : List Int) (hs : sc.length ≤ 63) : callC (j+11) 45 [.d (.lst (sc.map .int))] = .ok (.d (.bl true)) [some (.d (.lst (sc.map .int)))] := by
  rw [q_law]
  obtain ⟨d0, e0⟩ := draws_ok (j+9) sc hs
  obtain ⟨r, d1, hr, e1⟩ := take_ok (j+9) d0 (m := 5) (by decide)
  have e1' : callC (j+10) 22 [oL d0, .d (.int 5)] = .ok (.d (.int (r : Nat))) [some (oL d1), some (.d (.int 5))] := e1
  have hv : 1 ≤ 1 + r ∧ 1 + r ≤ 5 := by omega
  have ev : (1 : Int) + (r : Int) = ((1 + r : Nat) : Int) := by omega
  generalize 1 + r = v at hv ev
  obtain ⟨t, d2, h, e2⟩ := table_ok (v := v) (j+7) d1 hv
  have e3 := looked_core (j+4) h (.d (.lst (t.map .int))) (.inl rfl)
  have e4 := ldual_ok (j+9) h
  rw [oL_map] at e4
  have e5 := looked_core (j+4) h.dual (oL (t.reverse.map (1 - ·))) (.inr rfl)
  change _ = CRes.ok (oL (t.reverse.map fun x => 1 - x)) _ at e4
  generalize t.reverse.map (fun x => 1 - x) = u at e4 e5
  have e6 := each_ok (j+1) hv
  have e7 := bits_v (j+9) hv
  obtain ⟨q, d3, hq, e8⟩ := take_ok (j+9) d2 (m := 2 ^ v) (Nat.two_pow_pos v)
  obtain ⟨d4, e9⟩ := refused_ok j h d3
  have n1 : ((2 ^ v : Nat) : Int) - 1 = ((2 ^ v - 1 : Nat) : Int) := by have := Nat.two_pow_pos v; omega
  have hpv := Nat.two_pow_pos v
  have s0 : ∀ B o5 o6, b_law_L2 (callC (j+10)) [some (.d (.lst (sc.map .int))), some (oL d3), some (.d (.int (v : Nat))), B, some (.d (.int 0)), o5, o6] = .ok .nx [some (.d (.lst (sc.map .int))), some (oL d3), some (.d (.int (v : Nat))), B, some (.d (.int 0)), o5, o6] := fun B o5 o6 => law_L2 (v := v) (n := 0) j hv hpv (some (.d (.lst (sc.map .int)))) (some (oL d3)) B o5 o6
  have s1 := fun B o5 o6 => law_L2 (v := v) (n := 2 ^ v - 1) j hv (by omega) (some (.d (.lst (sc.map .int)))) (some (oL d3)) B o5 o6
  have s2 := fun B o5 o6 => law_L2 (v := v) (n := q) j hv hq (some (.d (.lst (sc.map .int)))) (some (oL d3)) B o5 o6
  generalize 2 ^ v - 1 = w at n1 s1
  generalize 2 ^ v = m at e7 e8 n1
  have hr2 : range2 (.int 1) (.int 6) = some ⟨[1, 2, 3, 4, 5].map fun k : Nat => .int ((k : Nat) : Int), none, false⟩ := by rfl
  have cm : ∀ S A V B N O6, compL [5] (.inl 5) kYes (b_law_E1 (callC (j+10))) ⟨[1, 2, 3, 4, 5].map fun k : Nat => .int ((k : Nat) : Int), none, false⟩ ([1, 2, 3, 4, 5].map fun k : Nat => .int ((k : Nat) : Int)) [] [S, A, V, B, N, none, O6] = .ok ([1, 2, 3, 4, 5].map fun _ : Nat => T.d (.bl true)) [S, A, V, B, N, none, O6] := fun S A V B N O6 =>
    compL_map (own := [5]) (tg := .inl 5) (fun _ : Nat => T.d (.bl true)) (fun k : Nat => .int ((k : Nat) : Int)) [1, 2, 3, 4, 5] (fun n mn => by
      have hn : 1 ≤ n ∧ n ≤ 5 := by simp at mn; omega
      have e := most_ok (j+1) hn
      exact ⟨_, [S, A, V, B, N, some (.d (.int (n : Nat))), O6], rfl, by simp [b_law_E1, e], by simp⟩) (by decide)
  generalize hl5 : [1, 2, 3, 4, 5].map (fun k : Nat => D.int ((k : Nat) : Int)) = I5 at hr2 cm
  have l3 : lineB 3 = true := rfl
  have bl5 : blsD [.bl true, .bl true, .bl true, .bl true, .bl true] = some [true, true, true, true, true] := rfl
  have cI := cC_23 (j+9)
  simp only [List.map_cons, List.map_nil] at cm
  by_cases h5 : v = 5
  · have c20 : callC (j+10) 20 [.d (.int 5)] = .ok (.d (.int 7581)) [some (.d (.int 5))] := cr5 (j+6)
    obtain ⟨z, d5, hz, e10⟩ := take_ok (j+9) d4 (m := 20) (by decide)
    have e10' : callC (j+10) 22 [oL d4, .d (.int 20)] = .ok (.d (.int (z : Nat))) [some (oL d5), some (.d (.int 20))] := e10
    have c1 : callC (j+10) 20 [.d (.int 4)] = .ok (.d (.int 168)) [some (.d (.int 4))] := cr_ok (j+1) (v := 4) (by decide)
    have c2 : callC (j+10) 41 [.d (.int 4)] = .ok (.d (.int 168)) [some (.d (.int 4))] := ri_ok (j+1) (v := 4) (by decide)
    have ci := cI (.int 168) rfl
    have p1 : ((v : Int) = 5) = True := eq_true (by omega)
    have p2 : (v = 5) = True := eq_true h5
    have p3 : ((4 : Int) < (v : Int)) = True := eq_true (by omega)
    have p4 : (4 < v) = True := eq_true (by omega)
    by_cases hz19 : z = 19
    · have q1 : ((z : Int) = 19) = True := eq_true (by omega)
      have q2 : (z = 19) = True := eq_true hz19
      simp [b_law, e0, e1', ev, e2, e3, e4, e5, e6, e7, e8, n1, l3, forL_cons, s0, s1, s2, e9, hr2, cm, bl5, p1, p2, p3, p4, e10', q1, q2, c20, psBack_one]
    · have q1 : ((z : Int) = 19) = False := eq_false (by omega)
      have q2 : (z = 19) = False := eq_false hz19
      simp [b_law, e0, e1', ev, e2, e3, e4, e5, e6, e7, e8, n1, l3, forL_cons, s0, s1, s2, e9, hr2, cm, bl5, p1, p2, p3, p4, e10', q1, q2, c1, c2, ci, isI, psBack_one]
  · have hv4 : 1 ≤ v ∧ v ≤ 4 := by omega
    have c1 := cr_ok (j+1) hv4
    have c2 := ri_ok (j+1) hv4
    have ci := cI (.int (rsN v)) rfl
    have p1 : ((v : Int) = 5) = False := eq_false (by omega)
    have p2 : (v = 5) = False := eq_false h5
    have p3 : ((4 : Int) < (v : Int)) = False := eq_false (by omega)
    have p4 : (4 < v) = False := eq_false (by omega)
    simp [b_law, e0, e1', ev, e2, e3, e4, e5, e6, e7, e8, n1, l3, forL_cons, s0, s1, s2, e9, hr2, cm, bl5, p1, p2, p3, p4, c1, c2, ci, isI, psBack_one]
end Bw

set_option maxHeartbeats 4000000
namespace Bw
open PySem PySem.Spec PyProof.Rows L2
def dd_is_integer : He.DefD := ⟨("is_integer", none), "is_integer", "is_integer", d_is_integer.params, d_is_integer.body, d_is_integer.scope, [], []⟩
def dd_is_thing : He.DefD := ⟨("is_thing", none), "is_thing", "is_thing", d_is_thing.params, d_is_thing.body, d_is_thing.scope, [], []⟩
def dd_number_of_kind : He.DefD := ⟨("number_of_kind", none), "number_of_kind", "number_of_kind", d_number_of_kind.params, d_number_of_kind.body, d_number_of_kind.scope, [], []⟩
def dd_first_bad : He.DefD := ⟨("first_bad", none), "first_bad", "first_bad", d_first_bad.params, d_first_bad.body, d_first_bad.scope, [], []⟩
def dd_lot_of : He.DefD := ⟨("lot_of", none), "lot_of", "lot_of", d_lot_of.params, d_lot_of.body, d_lot_of.scope, [], []⟩
def dd_voters_in : He.DefD := ⟨("voters_in", none), "voters_in", "voters_in", d_voters_in.params, d_voters_in.body, d_voters_in.scope, [], []⟩
def dd_entries_in : He.DefD := ⟨("entries_in", none), "entries_in", "entries_in", d_entries_in.params, d_entries_in.body, d_entries_in.scope, [], []⟩
def dd_table_of : He.DefD := ⟨("table_of", none), "table_of", "table_of", d_table_of.params, d_table_of.body, d_table_of.scope, [], []⟩
def dd_any_table : He.DefD := ⟨("any_table", none), "any_table", "any_table", d_any_table.params, d_any_table.body, d_any_table.scope, [], []⟩
def dd_set_number : He.DefD := ⟨("set_number", none), "set_number", "set_number", d_set_number.params, d_set_number.body, d_set_number.scope, [], []⟩
def dd_set_of : He.DefD := ⟨("set_of", none), "set_of", "set_of", d_set_of.params, d_set_of.body, d_set_of.scope, [], []⟩
def dd_dual_of : He.DefD := ⟨("dual_of", none), "dual_of", "dual_of", d_dual_of.params, d_dual_of.body, d_dual_of.scope, [], []⟩
def dd_is_flat : He.DefD := ⟨("is_flat", none), "is_flat", "is_flat", d_is_flat.params, d_is_flat.body, d_is_flat.scope, [], []⟩
def dd_following : He.DefD := ⟨("following", none), "following", "following", d_following.params, d_following.body, d_following.scope, [.bl true], []⟩
def dd_followed : He.DefD := ⟨("followed", none), "followed", "followed", d_followed.params, d_followed.body, d_followed.scope, [], []⟩
def dd_heard_in : He.DefD := ⟨("heard_in", none), "heard_in", "heard_in", d_heard_in.params, d_heard_in.body, d_heard_in.scope, [], []⟩
def dd_first_fall : He.DefD := ⟨("first_fall", none), "first_fall", "first_fall", d_first_fall.params, d_first_fall.body, d_first_fall.scope, [], []⟩
def dd_is_rising : He.DefD := ⟨("is_rising", none), "is_rising", "is_rising", d_is_rising.params, d_is_rising.body, d_is_rising.scope, [], []⟩
def dd_is_sized : He.DefD := ⟨("is_sized", none), "is_sized", "is_sized", d_is_sized.params, d_is_sized.body, d_is_sized.scope, [], []⟩
def dd_majority_table : He.DefD := ⟨("majority_table", none), "majority_table", "majority_table", d_majority_table.params, d_majority_table.body, d_majority_table.scope, [], []⟩
def dd_count_rising : He.DefD := ⟨("count_rising", none), "count_rising", "count_rising", d_count_rising.params, d_count_rising.body, d_count_rising.scope, [], []⟩
def dd__law_draws : He.DefD := ⟨("_law_draws", none), "_law_draws", "_law_draws", d__law_draws.params, d__law_draws.body, d__law_draws.scope, [], []⟩
def dd__law_take : He.DefD := ⟨("_law_take", none), "_law_take", "_law_take", d__law_take.params, d__law_take.body, d__law_take.scope, [], []⟩
def dd__law_int : He.DefD := ⟨("_law_int", none), "_law_int", "_law_int", d__law_int.params, d__law_int.body, d__law_int.scope, [], []⟩
def dd__law_bool : He.DefD := ⟨("_law_bool", none), "_law_bool", "_law_bool", d__law_bool.params, d__law_bool.body, d__law_bool.scope, [], []⟩
def dd__law_bits : He.DefD := ⟨("_law_bits", none), "_law_bits", "_law_bits", d__law_bits.params, d__law_bits.body, d__law_bits.scope, [], []⟩
def dd__law_in : He.DefD := ⟨("_law_in", none), "_law_in", "_law_in", d__law_in.params, d__law_in.body, d__law_in.scope, [], []⟩
def dd__law_size : He.DefD := ⟨("_law_size", none), "_law_size", "_law_size", d__law_size.params, d__law_size.body, d__law_size.scope, [], []⟩
def dd__law_dual : He.DefD := ⟨("_law_dual", none), "_law_dual", "_law_dual", d__law_dual.params, d__law_dual.body, d__law_dual.scope, [], []⟩
def dd__law_flat : He.DefD := ⟨("_law_flat", none), "_law_flat", "_law_flat", d__law_flat.params, d__law_flat.body, d__law_flat.scope, [], []⟩
def dd__law_table : He.DefD := ⟨("_law_table", none), "_law_table", "_law_table", d__law_table.params, d__law_table.body, d__law_table.scope, [], []⟩
def dd__law_row_told : He.DefD := ⟨("_law_row_told", none), "_law_row_told", "_law_row_told", d__law_row_told.params, d__law_row_told.body, d__law_row_told.scope, [], []⟩
def dd__law_power : He.DefD := ⟨("_law_power", none), "_law_power", "_law_power", d__law_power.params, d__law_power.body, d__law_power.scope, [], []⟩
def dd__law_falls : He.DefD := ⟨("_law_falls", none), "_law_falls", "_law_falls", d__law_falls.params, d__law_falls.body, d__law_falls.scope, [], []⟩
def dd__law_heard : He.DefD := ⟨("_law_heard", none), "_law_heard", "_law_heard", d__law_heard.params, d__law_heard.body, d__law_heard.scope, [], []⟩
def dd__law_by_size : He.DefD := ⟨("_law_by_size", none), "_law_by_size", "_law_by_size", d__law_by_size.params, d__law_by_size.body, d__law_by_size.scope, [], []⟩
def dd__law_follows : He.DefD := ⟨("_law_follows", none), "_law_follows", "_law_follows", d__law_follows.params, d__law_follows.body, d__law_follows.scope, [], []⟩
def dd__law_looked_at : He.DefD := ⟨("_law_looked_at", none), "_law_looked_at", "_law_looked_at", d__law_looked_at.params, d__law_looked_at.body, d__law_looked_at.scope, [], []⟩
def dd__law_each_voter : He.DefD := ⟨("_law_each_voter", none), "_law_each_voter", "_law_each_voter", d__law_each_voter.params, d__law_each_voter.body, d__law_each_voter.scope, [], []⟩
def dd__law_sets : He.DefD := ⟨("_law_sets", none), "_law_sets", "_law_sets", d__law_sets.params, d__law_sets.body, d__law_sets.scope, [], []⟩
def dd__law_wider : He.DefD := ⟨("_law_wider", none), "_law_wider", "_law_wider", d__law_wider.params, d__law_wider.body, d__law_wider.scope, [], []⟩
def dd__law_rising : He.DefD := ⟨("_law_rising", none), "_law_rising", "_law_rising", d__law_rising.params, d__law_rising.body, d__law_rising.scope, [], []⟩
def dd__law_most : He.DefD := ⟨("_law_most", none), "_law_most", "_law_most", d__law_most.params, d__law_most.body, d__law_most.scope, [], []⟩
def dd__law_door : He.DefD := ⟨("_law_door", none), "_law_door", "_law_door", d__law_door.params, d__law_door.body, d__law_door.scope, [], []⟩
def dd__law_refused : He.DefD := ⟨("_law_refused", none), "_law_refused", "_law_refused", d__law_refused.params, d__law_refused.body, d__law_refused.scope, [], []⟩
def dd_law : He.DefD := ⟨("law", none), "law", "law", d_law.params, d_law.body, d_law.scope, [], []⟩
def dx_BadNumber : He.DefD := ⟨("BadNumber", some "__init__"), "__init__", "BadNumber.__init__", PySem.ExcX.iA "name" ⟨6, 17, 6, 21⟩ ⟨6, 23, 6, 27⟩, PySem.ExcX.iB "name" ⟨7, 8, 7, 12⟩ ⟨7, 8, 7, 17⟩ ⟨7, 20, 7, 24⟩ ⟨7, 8, 7, 24⟩, PySem.ExcX.iS "name", [], []⟩
def dx_BadLot : He.DefD := ⟨("BadLot", some "__init__"), "__init__", "BadLot.__init__", PySem.ExcX.iA "place" ⟨10, 17, 10, 21⟩ ⟨10, 23, 10, 28⟩, PySem.ExcX.iB "place" ⟨11, 8, 11, 12⟩ ⟨11, 8, 11, 18⟩ ⟨11, 21, 11, 26⟩ ⟨11, 8, 11, 26⟩, PySem.ExcX.iS "place", [], []⟩
def dx_BadTable : He.DefD := ⟨("BadTable", some "__init__"), "__init__", "BadTable.__init__", PySem.ExcX.iA "place" ⟨38, 17, 38, 21⟩ ⟨38, 23, 38, 28⟩, PySem.ExcX.iB "place" ⟨39, 8, 39, 12⟩ ⟨39, 8, 39, 18⟩ ⟨39, 21, 39, 26⟩ ⟨39, 8, 39, 26⟩, PySem.ExcX.iS "place", [], []⟩
def fn0 : List He.DefD := [dd_is_integer, dd_is_thing, dd_number_of_kind, dd_first_bad, dd_lot_of, dd_voters_in, dd_entries_in, dd_table_of, dd_any_table, dd_set_number, dd_set_of, dd_dual_of, dd_is_flat, dd_following, dd_followed, dd_heard_in, dd_first_fall, dd_is_rising, dd_is_sized, dd_majority_table, dd_count_rising, dd__law_draws, dd__law_take, dd__law_int, dd__law_bool, dd__law_bits, dd__law_in, dd__law_size, dd__law_dual, dd__law_flat, dd__law_table, dd__law_row_told, dd__law_power, dd__law_falls, dd__law_heard, dd__law_by_size, dd__law_follows, dd__law_looked_at, dd__law_each_voter, dd__law_sets, dd__law_wider, dd__law_rising, dd__law_most, dd__law_door, dd__law_refused, dd_law, dx_BadNumber, dx_BadLot, dx_BadTable]
def fa0 : List He.Fa := [.glo "is_integer", .glo "is_thing", .glo "number_of_kind", .glo "first_bad", .glo "lot_of", .glo "voters_in", .glo "entries_in", .glo "table_of", .glo "any_table", .glo "set_number", .glo "set_of", .glo "dual_of", .glo "is_flat", .glo "following", .glo "followed", .glo "heard_in", .glo "first_fall", .glo "is_rising", .glo "is_sized", .glo "majority_table", .glo "count_rising", .glo "_law_draws", .glo "_law_take", .glo "_law_int", .glo "_law_bool", .glo "_law_bits", .glo "_law_in", .glo "_law_size", .glo "_law_dual", .glo "_law_flat", .glo "_law_table", .glo "_law_row_told", .glo "_law_power", .glo "_law_falls", .glo "_law_heard", .glo "_law_by_size", .glo "_law_follows", .glo "_law_looked_at", .glo "_law_each_voter", .glo "_law_sets", .glo "_law_wider", .glo "_law_rising", .glo "_law_most", .glo "_law_door", .glo "_law_refused", .glo "law", .free "all", .free "any", .free "bool", .free "enumerate", .free "int", .free "isinstance", .free "len", .free "list", .free "max", .free "min", .free "range", .free "reversed", .free "sorted", .free "str", .free "sum", .free "tuple", .int "MOST_VOTERS" 5, .glo "BadNumber", .glo "BadLot", .glo "BadTable", .exm "BadNumber" "BadNumber" true, .exm "BadNumber" "BadLot" false, .exm "BadNumber" "BadTable" false, .exm "BadLot" "BadNumber" false, .exm "BadLot" "BadLot" true, .exm "BadLot" "BadTable" false, .exm "BadTable" "BadNumber" false, .exm "BadTable" "BadLot" false, .exm "BadTable" "BadTable" true]
def ex0 (K : PySem.W.Frag) : Bool := excB K "BadNumber" "name" && excB K "BadLot" "place" && excB K "BadTable" "place"
def loose0_0 : List Str := ["BehindError", "BadNumber", "BadLot", "is_integer", "is_thing", "number_of_kind", "first_bad", "lot_of", "BadTable", "MOST_VOTERS", "voters_in", "entries_in", "table_of", "any_table", "set_number", "set_of", "dual_of", "is_flat", "following", "followed"]
def loose0_1 : List Str := ["heard_in", "first_fall", "is_rising", "is_sized", "majority_table", "count_rising", "_law_draws", "_law_take", "_law_int", "_law_bool", "_law_bits", "_law_in", "_law_size", "_law_dual", "_law_flat", "_law_table", "_law_row_told", "_law_power", "_law_falls", "_law_heard"]
def loose0_2 : List Str := ["_law_by_size", "_law_follows", "_law_looked_at", "_law_each_voter", "_law_sets", "_law_wider", "_law_rising", "_law_most", "_law_door", "_law_refused"]
def loose0 : List Str := (List.append (List.append loose0_0 loose0_1) loose0_2)
abbrev R0 : PySem.W.OpenRow := PySem.W.OpenLaw.row PySem.Challenge.rw_behindwebs_k02_tables_of_voters
abbrev hk0 : PySem.W.Hook := hookX 6 fa0 fn0 ex0
def ob0 (s : PySem.W.SharedT) : He.AlD × Bool := obsXG 6 fa0 fn0 ex0 (HandSHeadRun.getT s)
theorem ob0_eq (s : PySem.W.SharedT) : ob0 s = hk0.obs s.abs := obsXG_eq (HandSHeadRun.getT_eq s)
theorem run0 (w : World) : HandSHeadRun.RunEq R0 (PySem.W.view R0.prog [55]) hk0 ob0 4000 loose0 w := by
  intro os
  kernel_rfl
theorem fs_is_integer : FnScope d_is_integer.N d_is_integer.ps d_is_integer.scope := ⟨rfl, rfl, rfl, by decide +kernel, rfl, by decide +kernel, by decide +kernel⟩
theorem fs_is_thing : FnScope d_is_thing.N d_is_thing.ps d_is_thing.scope := ⟨rfl, rfl, rfl, by decide +kernel, rfl, by decide +kernel, by decide +kernel⟩
theorem fs_number_of_kind : FnScope d_number_of_kind.N d_number_of_kind.ps d_number_of_kind.scope := ⟨rfl, rfl, rfl, by decide +kernel, rfl, by decide +kernel, by decide +kernel⟩
theorem fs_first_bad : FnScope d_first_bad.N d_first_bad.ps d_first_bad.scope := ⟨rfl, rfl, rfl, by decide +kernel, rfl, by decide +kernel, by decide +kernel⟩
theorem fs_lot_of : FnScope d_lot_of.N d_lot_of.ps d_lot_of.scope := ⟨rfl, rfl, rfl, by decide +kernel, rfl, by decide +kernel, by decide +kernel⟩
theorem fs_voters_in : FnScope d_voters_in.N d_voters_in.ps d_voters_in.scope := ⟨rfl, rfl, rfl, by decide +kernel, rfl, by decide +kernel, by decide +kernel⟩
theorem fs_entries_in : FnScope d_entries_in.N d_entries_in.ps d_entries_in.scope := ⟨rfl, rfl, rfl, by decide +kernel, rfl, by decide +kernel, by decide +kernel⟩
theorem fs_table_of : FnScope d_table_of.N d_table_of.ps d_table_of.scope := ⟨rfl, rfl, rfl, by decide +kernel, rfl, by decide +kernel, by decide +kernel⟩
theorem fs_any_table : FnScope d_any_table.N d_any_table.ps d_any_table.scope := ⟨rfl, rfl, rfl, by decide +kernel, rfl, by decide +kernel, by decide +kernel⟩
theorem fs_set_number : FnScope d_set_number.N d_set_number.ps d_set_number.scope := ⟨rfl, rfl, rfl, by decide +kernel, rfl, by decide +kernel, by decide +kernel⟩
theorem fs_set_of : FnScope d_set_of.N d_set_of.ps d_set_of.scope := ⟨rfl, rfl, rfl, by decide +kernel, rfl, by decide +kernel, by decide +kernel⟩
theorem fs_dual_of : FnScope d_dual_of.N d_dual_of.ps d_dual_of.scope := ⟨rfl, rfl, rfl, by decide +kernel, rfl, by decide +kernel, by decide +kernel⟩
theorem fs_is_flat : FnScope d_is_flat.N d_is_flat.ps d_is_flat.scope := ⟨rfl, rfl, rfl, by decide +kernel, rfl, by decide +kernel, by decide +kernel⟩
theorem fs_following : FnScope d_following.N d_following.ps d_following.scope := ⟨rfl, rfl, rfl, by decide +kernel, rfl, by decide +kernel, by decide +kernel⟩
theorem fs_followed : FnScope d_followed.N d_followed.ps d_followed.scope := ⟨rfl, rfl, rfl, by decide +kernel, rfl, by decide +kernel, by decide +kernel⟩
theorem fs_heard_in : FnScope d_heard_in.N d_heard_in.ps d_heard_in.scope := ⟨rfl, rfl, rfl, by decide +kernel, rfl, by decide +kernel, by decide +kernel⟩
theorem fs_first_fall : FnScope d_first_fall.N d_first_fall.ps d_first_fall.scope := ⟨rfl, rfl, rfl, by decide +kernel, rfl, by decide +kernel, by decide +kernel⟩
theorem fs_is_rising : FnScope d_is_rising.N d_is_rising.ps d_is_rising.scope := ⟨rfl, rfl, rfl, by decide +kernel, rfl, by decide +kernel, by decide +kernel⟩
theorem fs_is_sized : FnScope d_is_sized.N d_is_sized.ps d_is_sized.scope := ⟨rfl, rfl, rfl, by decide +kernel, rfl, by decide +kernel, by decide +kernel⟩
theorem fs_majority_table : FnScope d_majority_table.N d_majority_table.ps d_majority_table.scope := ⟨rfl, rfl, rfl, by decide +kernel, rfl, by decide +kernel, by decide +kernel⟩
theorem fs_count_rising : FnScope d_count_rising.N d_count_rising.ps d_count_rising.scope := ⟨rfl, rfl, rfl, by decide +kernel, rfl, by decide +kernel, by decide +kernel⟩
theorem fs__law_draws : FnScope d__law_draws.N d__law_draws.ps d__law_draws.scope := ⟨rfl, rfl, rfl, by decide +kernel, rfl, by decide +kernel, by decide +kernel⟩
theorem fs__law_take : FnScope d__law_take.N d__law_take.ps d__law_take.scope := ⟨rfl, rfl, rfl, by decide +kernel, rfl, by decide +kernel, by decide +kernel⟩
theorem fs__law_int : FnScope d__law_int.N d__law_int.ps d__law_int.scope := ⟨rfl, rfl, rfl, by decide +kernel, rfl, by decide +kernel, by decide +kernel⟩
theorem fs__law_bool : FnScope d__law_bool.N d__law_bool.ps d__law_bool.scope := ⟨rfl, rfl, rfl, by decide +kernel, rfl, by decide +kernel, by decide +kernel⟩
theorem fs__law_bits : FnScope d__law_bits.N d__law_bits.ps d__law_bits.scope := ⟨rfl, rfl, rfl, by decide +kernel, rfl, by decide +kernel, by decide +kernel⟩
theorem fs__law_in : FnScope d__law_in.N d__law_in.ps d__law_in.scope := ⟨rfl, rfl, rfl, by decide +kernel, rfl, by decide +kernel, by decide +kernel⟩
theorem fs__law_size : FnScope d__law_size.N d__law_size.ps d__law_size.scope := ⟨rfl, rfl, rfl, by decide +kernel, rfl, by decide +kernel, by decide +kernel⟩
theorem fs__law_dual : FnScope d__law_dual.N d__law_dual.ps d__law_dual.scope := ⟨rfl, rfl, rfl, by decide +kernel, rfl, by decide +kernel, by decide +kernel⟩
theorem fs__law_flat : FnScope d__law_flat.N d__law_flat.ps d__law_flat.scope := ⟨rfl, rfl, rfl, by decide +kernel, rfl, by decide +kernel, by decide +kernel⟩
theorem fs__law_table : FnScope d__law_table.N d__law_table.ps d__law_table.scope := ⟨rfl, rfl, rfl, by decide +kernel, rfl, by decide +kernel, by decide +kernel⟩
theorem fs__law_row_told : FnScope d__law_row_told.N d__law_row_told.ps d__law_row_told.scope := ⟨rfl, rfl, rfl, by decide +kernel, rfl, by decide +kernel, by decide +kernel⟩
theorem fs__law_power : FnScope d__law_power.N d__law_power.ps d__law_power.scope := ⟨rfl, rfl, rfl, by decide +kernel, rfl, by decide +kernel, by decide +kernel⟩
theorem fs__law_falls : FnScope d__law_falls.N d__law_falls.ps d__law_falls.scope := ⟨rfl, rfl, rfl, by decide +kernel, rfl, by decide +kernel, by decide +kernel⟩
theorem fs__law_heard : FnScope d__law_heard.N d__law_heard.ps d__law_heard.scope := ⟨rfl, rfl, rfl, by decide +kernel, rfl, by decide +kernel, by decide +kernel⟩
theorem fs__law_by_size : FnScope d__law_by_size.N d__law_by_size.ps d__law_by_size.scope := ⟨rfl, rfl, rfl, by decide +kernel, rfl, by decide +kernel, by decide +kernel⟩
theorem fs__law_follows : FnScope d__law_follows.N d__law_follows.ps d__law_follows.scope := ⟨rfl, rfl, rfl, by decide +kernel, rfl, by decide +kernel, by decide +kernel⟩
theorem fs__law_looked_at : FnScope d__law_looked_at.N d__law_looked_at.ps d__law_looked_at.scope := ⟨rfl, rfl, rfl, by decide +kernel, rfl, by decide +kernel, by decide +kernel⟩
theorem fs__law_each_voter : FnScope d__law_each_voter.N d__law_each_voter.ps d__law_each_voter.scope := ⟨rfl, rfl, rfl, by decide +kernel, rfl, by decide +kernel, by decide +kernel⟩
theorem fs__law_sets : FnScope d__law_sets.N d__law_sets.ps d__law_sets.scope := ⟨rfl, rfl, rfl, by decide +kernel, rfl, by decide +kernel, by decide +kernel⟩
theorem fs__law_wider : FnScope d__law_wider.N d__law_wider.ps d__law_wider.scope := ⟨rfl, rfl, rfl, by decide +kernel, rfl, by decide +kernel, by decide +kernel⟩
theorem fs__law_rising : FnScope d__law_rising.N d__law_rising.ps d__law_rising.scope := ⟨rfl, rfl, rfl, by decide +kernel, rfl, by decide +kernel, by decide +kernel⟩
theorem fs__law_most : FnScope d__law_most.N d__law_most.ps d__law_most.scope := ⟨rfl, rfl, rfl, by decide +kernel, rfl, by decide +kernel, by decide +kernel⟩
theorem fs__law_door : FnScope d__law_door.N d__law_door.ps d__law_door.scope := ⟨rfl, rfl, rfl, by decide +kernel, rfl, by decide +kernel, by decide +kernel⟩
theorem fs__law_refused : FnScope d__law_refused.N d__law_refused.ps d__law_refused.scope := ⟨rfl, rfl, rfl, by decide +kernel, rfl, by decide +kernel, by decide +kernel⟩
theorem fs_law : FnScope d_law.N d_law.ps d_law.scope := ⟨rfl, rfl, rfl, by decide +kernel, rfl, by decide +kernel, by decide +kernel⟩
theorem kb_is_integer {K : PySem.W.Frag} {f : Addr} {fd : FuncData} (F : FunD K "is_integer" "is_integer" d_is_integer.params d_is_integer.body d_is_integer.scope [] [] f fd) (G : Gx) : ∀ n ks sh, shape0 "is_integer" n ks = some sh → ∃ gg gV, KBn K fd d_is_integer.ps n ks gg gV ∧ ∀ vs zs, vs.length = n → zs.length = ks.length → ShV G (vs ++ zs) sh (gV vs zs) := by
  intro n ks sh h
  change sh_is_integer n ks = some sh at h
  unfold sh_is_integer at h
  split at h
  · rename_i c
    obtain ⟨rfl, rfl⟩ := c
    cases h
    exact kbn_std G F rfl (fun _ _ _ _ _ _ us hl => match us, hl with | [_], _ => rfl)
  · cases h
theorem kb_is_thing {K : PySem.W.Frag} {f : Addr} {fd : FuncData} (F : FunD K "is_thing" "is_thing" d_is_thing.params d_is_thing.body d_is_thing.scope [] [] f fd) (G : Gx) : ∀ n ks sh, shape0 "is_thing" n ks = some sh → ∃ gg gV, KBn K fd d_is_thing.ps n ks gg gV ∧ ∀ vs zs, vs.length = n → zs.length = ks.length → ShV G (vs ++ zs) sh (gV vs zs) := by
  intro n ks sh h
  change sh_is_thing n ks = some sh at h
  unfold sh_is_thing at h
  split at h
  · rename_i c
    obtain ⟨rfl, rfl⟩ := c
    cases h
    exact kbn_std G F rfl (fun _ _ _ _ _ _ us hl => match us, hl with | [_, _], _ => rfl)
  · cases h
theorem kb_number_of_kind {K : PySem.W.Frag} {f : Addr} {fd : FuncData} (F : FunD K "number_of_kind" "number_of_kind" d_number_of_kind.params d_number_of_kind.body d_number_of_kind.scope [] [] f fd) (G : Gx) : ∀ n ks sh, shape0 "number_of_kind" n ks = some sh → ∃ gg gV, KBn K fd d_number_of_kind.ps n ks gg gV ∧ ∀ vs zs, vs.length = n → zs.length = ks.length → ShV G (vs ++ zs) sh (gV vs zs) := by
  intro n ks sh h
  change sh_number_of_kind n ks = some sh at h
  unfold sh_number_of_kind at h
  split at h
  · rename_i c
    obtain ⟨rfl, rfl⟩ := c
    cases h
    exact kbn_std G F rfl (fun _ _ _ _ _ _ us hl => match us, hl with | [_, _, _, _], _ => rfl)
  · cases h
theorem kb_first_bad {K : PySem.W.Frag} {f : Addr} {fd : FuncData} (F : FunD K "first_bad" "first_bad" d_first_bad.params d_first_bad.body d_first_bad.scope [] [] f fd) (G : Gx) : ∀ n ks sh, shape0 "first_bad" n ks = some sh → ∃ gg gV, KBn K fd d_first_bad.ps n ks gg gV ∧ ∀ vs zs, vs.length = n → zs.length = ks.length → ShV G (vs ++ zs) sh (gV vs zs) := by
  intro n ks sh h
  change sh_first_bad n ks = some sh at h
  unfold sh_first_bad at h
  split at h
  · rename_i c
    obtain ⟨rfl, rfl⟩ := c
    cases h
    exact kbn_std G F rfl (fun _ _ _ _ _ _ us hl => match us, hl with | [_, _], _ => rfl)
  · cases h
theorem kb_lot_of {K : PySem.W.Frag} {f : Addr} {fd : FuncData} (F : FunD K "lot_of" "lot_of" d_lot_of.params d_lot_of.body d_lot_of.scope [] [] f fd) (G : Gx) : ∀ n ks sh, shape0 "lot_of" n ks = some sh → ∃ gg gV, KBn K fd d_lot_of.ps n ks gg gV ∧ ∀ vs zs, vs.length = n → zs.length = ks.length → ShV G (vs ++ zs) sh (gV vs zs) := by
  intro n ks sh h
  change sh_lot_of n ks = some sh at h
  unfold sh_lot_of at h
  split at h
  · rename_i c
    obtain ⟨rfl, rfl⟩ := c
    cases h
    exact kbn_kw G F rfl (fun _ _ _ _ _ _ us ws hl hw => match us, ws, hl, hw with | [_, _], [_], _, _ => rfl)
  · cases h
theorem kb_voters_in {K : PySem.W.Frag} {f : Addr} {fd : FuncData} (F : FunD K "voters_in" "voters_in" d_voters_in.params d_voters_in.body d_voters_in.scope [] [] f fd) (G : Gx) : ∀ n ks sh, shape0 "voters_in" n ks = some sh → ∃ gg gV, KBn K fd d_voters_in.ps n ks gg gV ∧ ∀ vs zs, vs.length = n → zs.length = ks.length → ShV G (vs ++ zs) sh (gV vs zs) := by
  intro n ks sh h
  change sh_voters_in n ks = some sh at h
  unfold sh_voters_in at h
  split at h
  · rename_i c
    obtain ⟨rfl, rfl⟩ := c
    cases h
    exact kbn_std G F rfl (fun _ _ _ _ _ _ us hl => match us, hl with | [_], _ => rfl)
  · cases h
theorem kb_entries_in {K : PySem.W.Frag} {f : Addr} {fd : FuncData} (F : FunD K "entries_in" "entries_in" d_entries_in.params d_entries_in.body d_entries_in.scope [] [] f fd) (G : Gx) : ∀ n ks sh, shape0 "entries_in" n ks = some sh → ∃ gg gV, KBn K fd d_entries_in.ps n ks gg gV ∧ ∀ vs zs, vs.length = n → zs.length = ks.length → ShV G (vs ++ zs) sh (gV vs zs) := by
  intro n ks sh h
  change sh_entries_in n ks = some sh at h
  unfold sh_entries_in at h
  split at h
  · rename_i c
    obtain ⟨rfl, rfl⟩ := c
    cases h
    exact kbn_std G F rfl (fun _ _ _ _ _ _ us hl => match us, hl with | [_, _], _ => rfl)
  · cases h
theorem kb_table_of {K : PySem.W.Frag} {f : Addr} {fd : FuncData} (F : FunD K "table_of" "table_of" d_table_of.params d_table_of.body d_table_of.scope [] [] f fd) (G : Gx) : ∀ n ks sh, shape0 "table_of" n ks = some sh → ∃ gg gV, KBn K fd d_table_of.ps n ks gg gV ∧ ∀ vs zs, vs.length = n → zs.length = ks.length → ShV G (vs ++ zs) sh (gV vs zs) := by
  intro n ks sh h
  change sh_table_of n ks = some sh at h
  unfold sh_table_of at h
  split at h
  · rename_i c
    obtain ⟨rfl, rfl⟩ := c
    cases h
    exact kbn_std G F rfl (fun _ _ _ _ _ _ us hl => match us, hl with | [_, _], _ => rfl)
  · cases h
theorem kb_any_table {K : PySem.W.Frag} {f : Addr} {fd : FuncData} (F : FunD K "any_table" "any_table" d_any_table.params d_any_table.body d_any_table.scope [] [] f fd) (G : Gx) : ∀ n ks sh, shape0 "any_table" n ks = some sh → ∃ gg gV, KBn K fd d_any_table.ps n ks gg gV ∧ ∀ vs zs, vs.length = n → zs.length = ks.length → ShV G (vs ++ zs) sh (gV vs zs) := by
  intro n ks sh h
  change sh_any_table n ks = some sh at h
  unfold sh_any_table at h
  split at h
  · rename_i c
    obtain ⟨rfl, rfl⟩ := c
    cases h
    exact kbn_std G F rfl (fun _ _ _ _ _ _ us hl => match us, hl with | [_], _ => rfl)
  · cases h
theorem kb_set_number {K : PySem.W.Frag} {f : Addr} {fd : FuncData} (F : FunD K "set_number" "set_number" d_set_number.params d_set_number.body d_set_number.scope [] [] f fd) (G : Gx) : ∀ n ks sh, shape0 "set_number" n ks = some sh → ∃ gg gV, KBn K fd d_set_number.ps n ks gg gV ∧ ∀ vs zs, vs.length = n → zs.length = ks.length → ShV G (vs ++ zs) sh (gV vs zs) := by
  intro n ks sh h
  change sh_set_number n ks = some sh at h
  unfold sh_set_number at h
  split at h
  · rename_i c
    obtain ⟨rfl, rfl⟩ := c
    cases h
    exact kbn_std G F rfl (fun _ _ _ _ _ _ us hl => match us, hl with | [_, _], _ => rfl)
  · cases h
theorem kb_set_of {K : PySem.W.Frag} {f : Addr} {fd : FuncData} (F : FunD K "set_of" "set_of" d_set_of.params d_set_of.body d_set_of.scope [] [] f fd) (G : Gx) : ∀ n ks sh, shape0 "set_of" n ks = some sh → ∃ gg gV, KBn K fd d_set_of.ps n ks gg gV ∧ ∀ vs zs, vs.length = n → zs.length = ks.length → ShV G (vs ++ zs) sh (gV vs zs) := by
  intro n ks sh h
  change sh_set_of n ks = some sh at h
  unfold sh_set_of at h
  split at h
  · rename_i c
    obtain ⟨rfl, rfl⟩ := c
    cases h
    exact kbn_std G F rfl (fun _ _ _ _ _ _ us hl => match us, hl with | [_, _], _ => rfl)
  · cases h
theorem kb_dual_of {K : PySem.W.Frag} {f : Addr} {fd : FuncData} (F : FunD K "dual_of" "dual_of" d_dual_of.params d_dual_of.body d_dual_of.scope [] [] f fd) (G : Gx) : ∀ n ks sh, shape0 "dual_of" n ks = some sh → ∃ gg gV, KBn K fd d_dual_of.ps n ks gg gV ∧ ∀ vs zs, vs.length = n → zs.length = ks.length → ShV G (vs ++ zs) sh (gV vs zs) := by
  intro n ks sh h
  change sh_dual_of n ks = some sh at h
  unfold sh_dual_of at h
  split at h
  · rename_i c
    obtain ⟨rfl, rfl⟩ := c
    cases h
    exact kbn_std G F rfl (fun _ _ _ _ _ _ us hl => match us, hl with | [_], _ => rfl)
  · cases h
theorem kb_is_flat {K : PySem.W.Frag} {f : Addr} {fd : FuncData} (F : FunD K "is_flat" "is_flat" d_is_flat.params d_is_flat.body d_is_flat.scope [] [] f fd) (G : Gx) : ∀ n ks sh, shape0 "is_flat" n ks = some sh → ∃ gg gV, KBn K fd d_is_flat.ps n ks gg gV ∧ ∀ vs zs, vs.length = n → zs.length = ks.length → ShV G (vs ++ zs) sh (gV vs zs) := by
  intro n ks sh h
  change sh_is_flat n ks = some sh at h
  unfold sh_is_flat at h
  split at h
  · rename_i c
    obtain ⟨rfl, rfl⟩ := c
    cases h
    exact kbn_std G F rfl (fun _ _ _ _ _ _ us hl => match us, hl with | [_], _ => rfl)
  · cases h
theorem kb_following {K : PySem.W.Frag} {f : Addr} {fd : FuncData} (F : FunD K "following" "following" d_following.params d_following.body d_following.scope [.bl true] [] f fd) (G : Gx) : ∀ n ks sh, shape0 "following" n ks = some sh → ∃ gg gV, KBn K fd d_following.ps n ks gg gV ∧ ∀ vs zs, vs.length = n → zs.length = ks.length → ShV G (vs ++ zs) sh (gV vs zs) := by
  intro n ks sh h
  change sh_following n ks = some sh at h
  unfold sh_following at h
  split at h
  · rename_i c
    obtain ⟨rfl, rfl⟩ := c
    cases h
    obtain ⟨gg, kb⟩ := kbn_d (ps := d_following.ps) F (by simp) 2 0 (fun T _ _ _ _ _ _ us its hl hi => match us, its, hl, hi with | [_, _], [_], _, _ => ⟨_, rfl, rfl⟩)
    exact ⟨_, _, kb, fun vs zs h1 h2 => match vs, zs, h1, h2 with | [x0, x1], [], _, _ => (.arg rfl (.arg rfl (.dfl (fun H => .bl _) .nil)))⟩
  split at h
  · rename_i c
    obtain ⟨rfl, rfl⟩ := c
    cases h
    obtain ⟨gg, kb⟩ := kbn_d (ps := d_following.ps) F (by simp) 3 1 (fun T _ _ _ _ _ _ us its hl hi => match us, its, hl, hi with | [_, _, _], [_], _, _ => ⟨_, rfl, rfl⟩)
    exact ⟨_, _, kb, fun vs zs h1 h2 => match vs, zs, h1, h2 with | [x0, x1, x2], [], _, _ => (.arg rfl (.arg rfl (.arg rfl .nil)))⟩
  · cases h
theorem kb_followed {K : PySem.W.Frag} {f : Addr} {fd : FuncData} (F : FunD K "followed" "followed" d_followed.params d_followed.body d_followed.scope [] [] f fd) (G : Gx) : ∀ n ks sh, shape0 "followed" n ks = some sh → ∃ gg gV, KBn K fd d_followed.ps n ks gg gV ∧ ∀ vs zs, vs.length = n → zs.length = ks.length → ShV G (vs ++ zs) sh (gV vs zs) := by
  intro n ks sh h
  change sh_followed n ks = some sh at h
  unfold sh_followed at h
  split at h
  · rename_i c
    obtain ⟨rfl, rfl⟩ := c
    cases h
    exact kbn_std G F rfl (fun _ _ _ _ _ _ us hl => match us, hl with | [_], _ => rfl)
  · cases h
theorem kb_heard_in {K : PySem.W.Frag} {f : Addr} {fd : FuncData} (F : FunD K "heard_in" "heard_in" d_heard_in.params d_heard_in.body d_heard_in.scope [] [] f fd) (G : Gx) : ∀ n ks sh, shape0 "heard_in" n ks = some sh → ∃ gg gV, KBn K fd d_heard_in.ps n ks gg gV ∧ ∀ vs zs, vs.length = n → zs.length = ks.length → ShV G (vs ++ zs) sh (gV vs zs) := by
  intro n ks sh h
  change sh_heard_in n ks = some sh at h
  unfold sh_heard_in at h
  split at h
  · rename_i c
    obtain ⟨rfl, rfl⟩ := c
    cases h
    exact kbn_std G F rfl (fun _ _ _ _ _ _ us hl => match us, hl with | [_], _ => rfl)
  · cases h
theorem kb_first_fall {K : PySem.W.Frag} {f : Addr} {fd : FuncData} (F : FunD K "first_fall" "first_fall" d_first_fall.params d_first_fall.body d_first_fall.scope [] [] f fd) (G : Gx) : ∀ n ks sh, shape0 "first_fall" n ks = some sh → ∃ gg gV, KBn K fd d_first_fall.ps n ks gg gV ∧ ∀ vs zs, vs.length = n → zs.length = ks.length → ShV G (vs ++ zs) sh (gV vs zs) := by
  intro n ks sh h
  change sh_first_fall n ks = some sh at h
  unfold sh_first_fall at h
  split at h
  · rename_i c
    obtain ⟨rfl, rfl⟩ := c
    cases h
    exact kbn_std G F rfl (fun _ _ _ _ _ _ us hl => match us, hl with | [_], _ => rfl)
  · cases h
theorem kb_is_rising {K : PySem.W.Frag} {f : Addr} {fd : FuncData} (F : FunD K "is_rising" "is_rising" d_is_rising.params d_is_rising.body d_is_rising.scope [] [] f fd) (G : Gx) : ∀ n ks sh, shape0 "is_rising" n ks = some sh → ∃ gg gV, KBn K fd d_is_rising.ps n ks gg gV ∧ ∀ vs zs, vs.length = n → zs.length = ks.length → ShV G (vs ++ zs) sh (gV vs zs) := by
  intro n ks sh h
  change sh_is_rising n ks = some sh at h
  unfold sh_is_rising at h
  split at h
  · rename_i c
    obtain ⟨rfl, rfl⟩ := c
    cases h
    exact kbn_std G F rfl (fun _ _ _ _ _ _ us hl => match us, hl with | [_], _ => rfl)
  · cases h
theorem kb_is_sized {K : PySem.W.Frag} {f : Addr} {fd : FuncData} (F : FunD K "is_sized" "is_sized" d_is_sized.params d_is_sized.body d_is_sized.scope [] [] f fd) (G : Gx) : ∀ n ks sh, shape0 "is_sized" n ks = some sh → ∃ gg gV, KBn K fd d_is_sized.ps n ks gg gV ∧ ∀ vs zs, vs.length = n → zs.length = ks.length → ShV G (vs ++ zs) sh (gV vs zs) := by
  intro n ks sh h
  change sh_is_sized n ks = some sh at h
  unfold sh_is_sized at h
  split at h
  · rename_i c
    obtain ⟨rfl, rfl⟩ := c
    cases h
    exact kbn_std G F rfl (fun _ _ _ _ _ _ us hl => match us, hl with | [_], _ => rfl)
  · cases h
theorem kb_majority_table {K : PySem.W.Frag} {f : Addr} {fd : FuncData} (F : FunD K "majority_table" "majority_table" d_majority_table.params d_majority_table.body d_majority_table.scope [] [] f fd) (G : Gx) : ∀ n ks sh, shape0 "majority_table" n ks = some sh → ∃ gg gV, KBn K fd d_majority_table.ps n ks gg gV ∧ ∀ vs zs, vs.length = n → zs.length = ks.length → ShV G (vs ++ zs) sh (gV vs zs) := by
  intro n ks sh h
  change sh_majority_table n ks = some sh at h
  unfold sh_majority_table at h
  split at h
  · rename_i c
    obtain ⟨rfl, rfl⟩ := c
    cases h
    exact kbn_std G F rfl (fun _ _ _ _ _ _ us hl => match us, hl with | [_], _ => rfl)
  · cases h
theorem kb_count_rising {K : PySem.W.Frag} {f : Addr} {fd : FuncData} (F : FunD K "count_rising" "count_rising" d_count_rising.params d_count_rising.body d_count_rising.scope [] [] f fd) (G : Gx) : ∀ n ks sh, shape0 "count_rising" n ks = some sh → ∃ gg gV, KBn K fd d_count_rising.ps n ks gg gV ∧ ∀ vs zs, vs.length = n → zs.length = ks.length → ShV G (vs ++ zs) sh (gV vs zs) := by
  intro n ks sh h
  change sh_count_rising n ks = some sh at h
  unfold sh_count_rising at h
  split at h
  · rename_i c
    obtain ⟨rfl, rfl⟩ := c
    cases h
    exact kbn_std G F rfl (fun _ _ _ _ _ _ us hl => match us, hl with | [_], _ => rfl)
  · cases h
theorem kb__law_draws {K : PySem.W.Frag} {f : Addr} {fd : FuncData} (F : FunD K "_law_draws" "_law_draws" d__law_draws.params d__law_draws.body d__law_draws.scope [] [] f fd) (G : Gx) : ∀ n ks sh, shape0 "_law_draws" n ks = some sh → ∃ gg gV, KBn K fd d__law_draws.ps n ks gg gV ∧ ∀ vs zs, vs.length = n → zs.length = ks.length → ShV G (vs ++ zs) sh (gV vs zs) := by
  intro n ks sh h
  change sh__law_draws n ks = some sh at h
  unfold sh__law_draws at h
  split at h
  · rename_i c
    obtain ⟨rfl, rfl⟩ := c
    cases h
    exact kbn_std G F rfl (fun _ _ _ _ _ _ us hl => match us, hl with | [_], _ => rfl)
  · cases h
theorem kb__law_take {K : PySem.W.Frag} {f : Addr} {fd : FuncData} (F : FunD K "_law_take" "_law_take" d__law_take.params d__law_take.body d__law_take.scope [] [] f fd) (G : Gx) : ∀ n ks sh, shape0 "_law_take" n ks = some sh → ∃ gg gV, KBn K fd d__law_take.ps n ks gg gV ∧ ∀ vs zs, vs.length = n → zs.length = ks.length → ShV G (vs ++ zs) sh (gV vs zs) := by
  intro n ks sh h
  change sh__law_take n ks = some sh at h
  unfold sh__law_take at h
  split at h
  · rename_i c
    obtain ⟨rfl, rfl⟩ := c
    cases h
    exact kbn_std G F rfl (fun _ _ _ _ _ _ us hl => match us, hl with | [_, _], _ => rfl)
  · cases h
theorem kb__law_int {K : PySem.W.Frag} {f : Addr} {fd : FuncData} (F : FunD K "_law_int" "_law_int" d__law_int.params d__law_int.body d__law_int.scope [] [] f fd) (G : Gx) : ∀ n ks sh, shape0 "_law_int" n ks = some sh → ∃ gg gV, KBn K fd d__law_int.ps n ks gg gV ∧ ∀ vs zs, vs.length = n → zs.length = ks.length → ShV G (vs ++ zs) sh (gV vs zs) := by
  intro n ks sh h
  change sh__law_int n ks = some sh at h
  unfold sh__law_int at h
  split at h
  · rename_i c
    obtain ⟨rfl, rfl⟩ := c
    cases h
    exact kbn_std G F rfl (fun _ _ _ _ _ _ us hl => match us, hl with | [_], _ => rfl)
  · cases h
theorem kb__law_bool {K : PySem.W.Frag} {f : Addr} {fd : FuncData} (F : FunD K "_law_bool" "_law_bool" d__law_bool.params d__law_bool.body d__law_bool.scope [] [] f fd) (G : Gx) : ∀ n ks sh, shape0 "_law_bool" n ks = some sh → ∃ gg gV, KBn K fd d__law_bool.ps n ks gg gV ∧ ∀ vs zs, vs.length = n → zs.length = ks.length → ShV G (vs ++ zs) sh (gV vs zs) := by
  intro n ks sh h
  change sh__law_bool n ks = some sh at h
  unfold sh__law_bool at h
  split at h
  · rename_i c
    obtain ⟨rfl, rfl⟩ := c
    cases h
    exact kbn_std G F rfl (fun _ _ _ _ _ _ us hl => match us, hl with | [_, _], _ => rfl)
  · cases h
theorem kb__law_bits {K : PySem.W.Frag} {f : Addr} {fd : FuncData} (F : FunD K "_law_bits" "_law_bits" d__law_bits.params d__law_bits.body d__law_bits.scope [] [] f fd) (G : Gx) : ∀ n ks sh, shape0 "_law_bits" n ks = some sh → ∃ gg gV, KBn K fd d__law_bits.ps n ks gg gV ∧ ∀ vs zs, vs.length = n → zs.length = ks.length → ShV G (vs ++ zs) sh (gV vs zs) := by
  intro n ks sh h
  change sh__law_bits n ks = some sh at h
  unfold sh__law_bits at h
  split at h
  · rename_i c
    obtain ⟨rfl, rfl⟩ := c
    cases h
    exact kbn_std G F rfl (fun _ _ _ _ _ _ us hl => match us, hl with | [_], _ => rfl)
  · cases h
theorem kb__law_in {K : PySem.W.Frag} {f : Addr} {fd : FuncData} (F : FunD K "_law_in" "_law_in" d__law_in.params d__law_in.body d__law_in.scope [] [] f fd) (G : Gx) : ∀ n ks sh, shape0 "_law_in" n ks = some sh → ∃ gg gV, KBn K fd d__law_in.ps n ks gg gV ∧ ∀ vs zs, vs.length = n → zs.length = ks.length → ShV G (vs ++ zs) sh (gV vs zs) := by
  intro n ks sh h
  change sh__law_in n ks = some sh at h
  unfold sh__law_in at h
  split at h
  · rename_i c
    obtain ⟨rfl, rfl⟩ := c
    cases h
    exact kbn_std G F rfl (fun _ _ _ _ _ _ us hl => match us, hl with | [_, _], _ => rfl)
  · cases h
theorem kb__law_size {K : PySem.W.Frag} {f : Addr} {fd : FuncData} (F : FunD K "_law_size" "_law_size" d__law_size.params d__law_size.body d__law_size.scope [] [] f fd) (G : Gx) : ∀ n ks sh, shape0 "_law_size" n ks = some sh → ∃ gg gV, KBn K fd d__law_size.ps n ks gg gV ∧ ∀ vs zs, vs.length = n → zs.length = ks.length → ShV G (vs ++ zs) sh (gV vs zs) := by
  intro n ks sh h
  change sh__law_size n ks = some sh at h
  unfold sh__law_size at h
  split at h
  · rename_i c
    obtain ⟨rfl, rfl⟩ := c
    cases h
    exact kbn_std G F rfl (fun _ _ _ _ _ _ us hl => match us, hl with | [_], _ => rfl)
  · cases h
theorem kb__law_dual {K : PySem.W.Frag} {f : Addr} {fd : FuncData} (F : FunD K "_law_dual" "_law_dual" d__law_dual.params d__law_dual.body d__law_dual.scope [] [] f fd) (G : Gx) : ∀ n ks sh, shape0 "_law_dual" n ks = some sh → ∃ gg gV, KBn K fd d__law_dual.ps n ks gg gV ∧ ∀ vs zs, vs.length = n → zs.length = ks.length → ShV G (vs ++ zs) sh (gV vs zs) := by
  intro n ks sh h
  change sh__law_dual n ks = some sh at h
  unfold sh__law_dual at h
  split at h
  · rename_i c
    obtain ⟨rfl, rfl⟩ := c
    cases h
    exact kbn_std G F rfl (fun _ _ _ _ _ _ us hl => match us, hl with | [_], _ => rfl)
  · cases h
theorem kb__law_flat {K : PySem.W.Frag} {f : Addr} {fd : FuncData} (F : FunD K "_law_flat" "_law_flat" d__law_flat.params d__law_flat.body d__law_flat.scope [] [] f fd) (G : Gx) : ∀ n ks sh, shape0 "_law_flat" n ks = some sh → ∃ gg gV, KBn K fd d__law_flat.ps n ks gg gV ∧ ∀ vs zs, vs.length = n → zs.length = ks.length → ShV G (vs ++ zs) sh (gV vs zs) := by
  intro n ks sh h
  change sh__law_flat n ks = some sh at h
  unfold sh__law_flat at h
  split at h
  · rename_i c
    obtain ⟨rfl, rfl⟩ := c
    cases h
    exact kbn_std G F rfl (fun _ _ _ _ _ _ us hl => match us, hl with | [_], _ => rfl)
  · cases h
theorem kb__law_table {K : PySem.W.Frag} {f : Addr} {fd : FuncData} (F : FunD K "_law_table" "_law_table" d__law_table.params d__law_table.body d__law_table.scope [] [] f fd) (G : Gx) : ∀ n ks sh, shape0 "_law_table" n ks = some sh → ∃ gg gV, KBn K fd d__law_table.ps n ks gg gV ∧ ∀ vs zs, vs.length = n → zs.length = ks.length → ShV G (vs ++ zs) sh (gV vs zs) := by
  intro n ks sh h
  change sh__law_table n ks = some sh at h
  unfold sh__law_table at h
  split at h
  · rename_i c
    obtain ⟨rfl, rfl⟩ := c
    cases h
    exact kbn_std G F rfl (fun _ _ _ _ _ _ us hl => match us, hl with | [_, _], _ => rfl)
  · cases h
theorem kb__law_row_told {K : PySem.W.Frag} {f : Addr} {fd : FuncData} (F : FunD K "_law_row_told" "_law_row_told" d__law_row_told.params d__law_row_told.body d__law_row_told.scope [] [] f fd) (G : Gx) : ∀ n ks sh, shape0 "_law_row_told" n ks = some sh → ∃ gg gV, KBn K fd d__law_row_told.ps n ks gg gV ∧ ∀ vs zs, vs.length = n → zs.length = ks.length → ShV G (vs ++ zs) sh (gV vs zs) := by
  intro n ks sh h
  change sh__law_row_told n ks = some sh at h
  unfold sh__law_row_told at h
  split at h
  · rename_i c
    obtain ⟨rfl, rfl⟩ := c
    cases h
    exact kbn_std G F rfl (fun _ _ _ _ _ _ us hl => match us, hl with | [_, _], _ => rfl)
  · cases h
theorem kb__law_power {K : PySem.W.Frag} {f : Addr} {fd : FuncData} (F : FunD K "_law_power" "_law_power" d__law_power.params d__law_power.body d__law_power.scope [] [] f fd) (G : Gx) : ∀ n ks sh, shape0 "_law_power" n ks = some sh → ∃ gg gV, KBn K fd d__law_power.ps n ks gg gV ∧ ∀ vs zs, vs.length = n → zs.length = ks.length → ShV G (vs ++ zs) sh (gV vs zs) := by
  intro n ks sh h
  change sh__law_power n ks = some sh at h
  unfold sh__law_power at h
  split at h
  · rename_i c
    obtain ⟨rfl, rfl⟩ := c
    cases h
    exact kbn_std G F rfl (fun _ _ _ _ _ _ us hl => match us, hl with | [_], _ => rfl)
  · cases h
theorem kb__law_falls {K : PySem.W.Frag} {f : Addr} {fd : FuncData} (F : FunD K "_law_falls" "_law_falls" d__law_falls.params d__law_falls.body d__law_falls.scope [] [] f fd) (G : Gx) : ∀ n ks sh, shape0 "_law_falls" n ks = some sh → ∃ gg gV, KBn K fd d__law_falls.ps n ks gg gV ∧ ∀ vs zs, vs.length = n → zs.length = ks.length → ShV G (vs ++ zs) sh (gV vs zs) := by
  intro n ks sh h
  change sh__law_falls n ks = some sh at h
  unfold sh__law_falls at h
  split at h
  · rename_i c
    obtain ⟨rfl, rfl⟩ := c
    cases h
    exact kbn_std G F rfl (fun _ _ _ _ _ _ us hl => match us, hl with | [_, _], _ => rfl)
  · cases h
theorem kb__law_heard {K : PySem.W.Frag} {f : Addr} {fd : FuncData} (F : FunD K "_law_heard" "_law_heard" d__law_heard.params d__law_heard.body d__law_heard.scope [] [] f fd) (G : Gx) : ∀ n ks sh, shape0 "_law_heard" n ks = some sh → ∃ gg gV, KBn K fd d__law_heard.ps n ks gg gV ∧ ∀ vs zs, vs.length = n → zs.length = ks.length → ShV G (vs ++ zs) sh (gV vs zs) := by
  intro n ks sh h
  change sh__law_heard n ks = some sh at h
  unfold sh__law_heard at h
  split at h
  · rename_i c
    obtain ⟨rfl, rfl⟩ := c
    cases h
    exact kbn_std G F rfl (fun _ _ _ _ _ _ us hl => match us, hl with | [_, _], _ => rfl)
  · cases h
theorem kb__law_by_size {K : PySem.W.Frag} {f : Addr} {fd : FuncData} (F : FunD K "_law_by_size" "_law_by_size" d__law_by_size.params d__law_by_size.body d__law_by_size.scope [] [] f fd) (G : Gx) : ∀ n ks sh, shape0 "_law_by_size" n ks = some sh → ∃ gg gV, KBn K fd d__law_by_size.ps n ks gg gV ∧ ∀ vs zs, vs.length = n → zs.length = ks.length → ShV G (vs ++ zs) sh (gV vs zs) := by
  intro n ks sh h
  change sh__law_by_size n ks = some sh at h
  unfold sh__law_by_size at h
  split at h
  · rename_i c
    obtain ⟨rfl, rfl⟩ := c
    cases h
    exact kbn_std G F rfl (fun _ _ _ _ _ _ us hl => match us, hl with | [_], _ => rfl)
  · cases h
theorem kb__law_follows {K : PySem.W.Frag} {f : Addr} {fd : FuncData} (F : FunD K "_law_follows" "_law_follows" d__law_follows.params d__law_follows.body d__law_follows.scope [] [] f fd) (G : Gx) : ∀ n ks sh, shape0 "_law_follows" n ks = some sh → ∃ gg gV, KBn K fd d__law_follows.ps n ks gg gV ∧ ∀ vs zs, vs.length = n → zs.length = ks.length → ShV G (vs ++ zs) sh (gV vs zs) := by
  intro n ks sh h
  change sh__law_follows n ks = some sh at h
  unfold sh__law_follows at h
  split at h
  · rename_i c
    obtain ⟨rfl, rfl⟩ := c
    cases h
    exact kbn_std G F rfl (fun _ _ _ _ _ _ us hl => match us, hl with | [_, _], _ => rfl)
  · cases h
theorem kb__law_looked_at {K : PySem.W.Frag} {f : Addr} {fd : FuncData} (F : FunD K "_law_looked_at" "_law_looked_at" d__law_looked_at.params d__law_looked_at.body d__law_looked_at.scope [] [] f fd) (G : Gx) : ∀ n ks sh, shape0 "_law_looked_at" n ks = some sh → ∃ gg gV, KBn K fd d__law_looked_at.ps n ks gg gV ∧ ∀ vs zs, vs.length = n → zs.length = ks.length → ShV G (vs ++ zs) sh (gV vs zs) := by
  intro n ks sh h
  change sh__law_looked_at n ks = some sh at h
  unfold sh__law_looked_at at h
  split at h
  · rename_i c
    obtain ⟨rfl, rfl⟩ := c
    cases h
    exact kbn_std G F rfl (fun _ _ _ _ _ _ us hl => match us, hl with | [_, _], _ => rfl)
  · cases h
theorem kb__law_each_voter {K : PySem.W.Frag} {f : Addr} {fd : FuncData} (F : FunD K "_law_each_voter" "_law_each_voter" d__law_each_voter.params d__law_each_voter.body d__law_each_voter.scope [] [] f fd) (G : Gx) : ∀ n ks sh, shape0 "_law_each_voter" n ks = some sh → ∃ gg gV, KBn K fd d__law_each_voter.ps n ks gg gV ∧ ∀ vs zs, vs.length = n → zs.length = ks.length → ShV G (vs ++ zs) sh (gV vs zs) := by
  intro n ks sh h
  change sh__law_each_voter n ks = some sh at h
  unfold sh__law_each_voter at h
  split at h
  · rename_i c
    obtain ⟨rfl, rfl⟩ := c
    cases h
    exact kbn_std G F rfl (fun _ _ _ _ _ _ us hl => match us, hl with | [_], _ => rfl)
  · cases h
theorem kb__law_sets {K : PySem.W.Frag} {f : Addr} {fd : FuncData} (F : FunD K "_law_sets" "_law_sets" d__law_sets.params d__law_sets.body d__law_sets.scope [] [] f fd) (G : Gx) : ∀ n ks sh, shape0 "_law_sets" n ks = some sh → ∃ gg gV, KBn K fd d__law_sets.ps n ks gg gV ∧ ∀ vs zs, vs.length = n → zs.length = ks.length → ShV G (vs ++ zs) sh (gV vs zs) := by
  intro n ks sh h
  change sh__law_sets n ks = some sh at h
  unfold sh__law_sets at h
  split at h
  · rename_i c
    obtain ⟨rfl, rfl⟩ := c
    cases h
    exact kbn_std G F rfl (fun _ _ _ _ _ _ us hl => match us, hl with | [_, _], _ => rfl)
  · cases h
theorem kb__law_wider {K : PySem.W.Frag} {f : Addr} {fd : FuncData} (F : FunD K "_law_wider" "_law_wider" d__law_wider.params d__law_wider.body d__law_wider.scope [] [] f fd) (G : Gx) : ∀ n ks sh, shape0 "_law_wider" n ks = some sh → ∃ gg gV, KBn K fd d__law_wider.ps n ks gg gV ∧ ∀ vs zs, vs.length = n → zs.length = ks.length → ShV G (vs ++ zs) sh (gV vs zs) := by
  intro n ks sh h
  change sh__law_wider n ks = some sh at h
  unfold sh__law_wider at h
  split at h
  · rename_i c
    obtain ⟨rfl, rfl⟩ := c
    cases h
    exact kbn_std G F rfl (fun _ _ _ _ _ _ us hl => match us, hl with | [_], _ => rfl)
  · cases h
theorem kb__law_rising {K : PySem.W.Frag} {f : Addr} {fd : FuncData} (F : FunD K "_law_rising" "_law_rising" d__law_rising.params d__law_rising.body d__law_rising.scope [] [] f fd) (G : Gx) : ∀ n ks sh, shape0 "_law_rising" n ks = some sh → ∃ gg gV, KBn K fd d__law_rising.ps n ks gg gV ∧ ∀ vs zs, vs.length = n → zs.length = ks.length → ShV G (vs ++ zs) sh (gV vs zs) := by
  intro n ks sh h
  change sh__law_rising n ks = some sh at h
  unfold sh__law_rising at h
  split at h
  · rename_i c
    obtain ⟨rfl, rfl⟩ := c
    cases h
    exact kbn_std G F rfl (fun _ _ _ _ _ _ us hl => match us, hl with | [_], _ => rfl)
  · cases h
theorem kb__law_most {K : PySem.W.Frag} {f : Addr} {fd : FuncData} (F : FunD K "_law_most" "_law_most" d__law_most.params d__law_most.body d__law_most.scope [] [] f fd) (G : Gx) : ∀ n ks sh, shape0 "_law_most" n ks = some sh → ∃ gg gV, KBn K fd d__law_most.ps n ks gg gV ∧ ∀ vs zs, vs.length = n → zs.length = ks.length → ShV G (vs ++ zs) sh (gV vs zs) := by
  intro n ks sh h
  change sh__law_most n ks = some sh at h
  unfold sh__law_most at h
  split at h
  · rename_i c
    obtain ⟨rfl, rfl⟩ := c
    cases h
    exact kbn_std G F rfl (fun _ _ _ _ _ _ us hl => match us, hl with | [_], _ => rfl)
  · cases h
theorem kb__law_door {K : PySem.W.Frag} {f : Addr} {fd : FuncData} (F : FunD K "_law_door" "_law_door" d__law_door.params d__law_door.body d__law_door.scope [] [] f fd) (G : Gx) : ∀ n ks sh, shape0 "_law_door" n ks = some sh → ∃ gg gV, KBn K fd d__law_door.ps n ks gg gV ∧ ∀ vs zs, vs.length = n → zs.length = ks.length → ShV G (vs ++ zs) sh (gV vs zs) := by
  intro n ks sh h
  change sh__law_door n ks = some sh at h
  unfold sh__law_door at h
  split at h
  · rename_i c
    obtain ⟨rfl, rfl⟩ := c
    cases h
    exact kbn_std G F rfl (fun _ _ _ _ _ _ us hl => match us, hl with | [_, _, _], _ => rfl)
  · cases h
theorem kb__law_refused {K : PySem.W.Frag} {f : Addr} {fd : FuncData} (F : FunD K "_law_refused" "_law_refused" d__law_refused.params d__law_refused.body d__law_refused.scope [] [] f fd) (G : Gx) : ∀ n ks sh, shape0 "_law_refused" n ks = some sh → ∃ gg gV, KBn K fd d__law_refused.ps n ks gg gV ∧ ∀ vs zs, vs.length = n → zs.length = ks.length → ShV G (vs ++ zs) sh (gV vs zs) := by
  intro n ks sh h
  change sh__law_refused n ks = some sh at h
  unfold sh__law_refused at h
  split at h
  · rename_i c
    obtain ⟨rfl, rfl⟩ := c
    cases h
    exact kbn_std G F rfl (fun _ _ _ _ _ _ us hl => match us, hl with | [_, _, _], _ => rfl)
  · cases h
theorem kb_law {K : PySem.W.Frag} {f : Addr} {fd : FuncData} (F : FunD K "law" "law" d_law.params d_law.body d_law.scope [] [] f fd) (G : Gx) : ∀ n ks sh, shape0 "law" n ks = some sh → ∃ gg gV, KBn K fd d_law.ps n ks gg gV ∧ ∀ vs zs, vs.length = n → zs.length = ks.length → ShV G (vs ++ zs) sh (gV vs zs) := by
  intro n ks sh h
  change sh_law n ks = some sh at h
  unfold sh_law at h
  cases h
def G0 (K : PySem.W.Frag) : Gx := ⟨K, fun c => if (exs0 c).isSome then some (He.ga K c) else none⟩
section
variable {P : Program} {w : World} {K : PySem.W.Frag} {h : Heap} {mg : Str → Option Value} (X : K.In h) (GG : h.Ns mainGlobals mg) (c : He.SaysD fa0 fn0 K)
include X GG c
theorem pg_defs : ∀ g d, tab0 g = some d → ∃ f fd dvs kws, FunD K g d.qual d.params d.body d.scope dvs kws f fd ∧ FnScope d.N d.ps d.scope ∧ mg g = some (.ref f) ∧ ∀ n ks sh, B0.shape g n ks = some sh → ∃ gg gV, KBn K fd d.ps n ks gg gV ∧ ∀ vs zs, vs.length = n → zs.length = ks.length → ShV (G0 K) (vs ++ zs) sh (gV vs zs) := by
  intro g d hd
  unfold tab0 at hd
  rcases ite_inv hd with ⟨e, hd⟩ | ⟨_, hd⟩
  · subst e
    cases hd
    obtain ⟨fd, F⟩ := c.def_ 0 (d := dd_is_integer) rfl
    exact ⟨_, fd, _, _, F, fs_is_integer, He.glo_ok X GG (c.fact 0 (f := .glo "is_integer") rfl), kb_is_integer F (G0 K)⟩
  rcases ite_inv hd with ⟨e, hd⟩ | ⟨_, hd⟩
  · subst e
    cases hd
    obtain ⟨fd, F⟩ := c.def_ 1 (d := dd_is_thing) rfl
    exact ⟨_, fd, _, _, F, fs_is_thing, He.glo_ok X GG (c.fact 1 (f := .glo "is_thing") rfl), kb_is_thing F (G0 K)⟩
  rcases ite_inv hd with ⟨e, hd⟩ | ⟨_, hd⟩
  · subst e
    cases hd
    obtain ⟨fd, F⟩ := c.def_ 2 (d := dd_number_of_kind) rfl
    exact ⟨_, fd, _, _, F, fs_number_of_kind, He.glo_ok X GG (c.fact 2 (f := .glo "number_of_kind") rfl), kb_number_of_kind F (G0 K)⟩
  rcases ite_inv hd with ⟨e, hd⟩ | ⟨_, hd⟩
  · subst e
    cases hd
    obtain ⟨fd, F⟩ := c.def_ 3 (d := dd_first_bad) rfl
    exact ⟨_, fd, _, _, F, fs_first_bad, He.glo_ok X GG (c.fact 3 (f := .glo "first_bad") rfl), kb_first_bad F (G0 K)⟩
  rcases ite_inv hd with ⟨e, hd⟩ | ⟨_, hd⟩
  · subst e
    cases hd
    obtain ⟨fd, F⟩ := c.def_ 4 (d := dd_lot_of) rfl
    exact ⟨_, fd, _, _, F, fs_lot_of, He.glo_ok X GG (c.fact 4 (f := .glo "lot_of") rfl), kb_lot_of F (G0 K)⟩
  rcases ite_inv hd with ⟨e, hd⟩ | ⟨_, hd⟩
  · subst e
    cases hd
    obtain ⟨fd, F⟩ := c.def_ 5 (d := dd_voters_in) rfl
    exact ⟨_, fd, _, _, F, fs_voters_in, He.glo_ok X GG (c.fact 5 (f := .glo "voters_in") rfl), kb_voters_in F (G0 K)⟩
  rcases ite_inv hd with ⟨e, hd⟩ | ⟨_, hd⟩
  · subst e
    cases hd
    obtain ⟨fd, F⟩ := c.def_ 6 (d := dd_entries_in) rfl
    exact ⟨_, fd, _, _, F, fs_entries_in, He.glo_ok X GG (c.fact 6 (f := .glo "entries_in") rfl), kb_entries_in F (G0 K)⟩
  rcases ite_inv hd with ⟨e, hd⟩ | ⟨_, hd⟩
  · subst e
    cases hd
    obtain ⟨fd, F⟩ := c.def_ 7 (d := dd_table_of) rfl
    exact ⟨_, fd, _, _, F, fs_table_of, He.glo_ok X GG (c.fact 7 (f := .glo "table_of") rfl), kb_table_of F (G0 K)⟩
  rcases ite_inv hd with ⟨e, hd⟩ | ⟨_, hd⟩
  · subst e
    cases hd
    obtain ⟨fd, F⟩ := c.def_ 8 (d := dd_any_table) rfl
    exact ⟨_, fd, _, _, F, fs_any_table, He.glo_ok X GG (c.fact 8 (f := .glo "any_table") rfl), kb_any_table F (G0 K)⟩
  rcases ite_inv hd with ⟨e, hd⟩ | ⟨_, hd⟩
  · subst e
    cases hd
    obtain ⟨fd, F⟩ := c.def_ 9 (d := dd_set_number) rfl
    exact ⟨_, fd, _, _, F, fs_set_number, He.glo_ok X GG (c.fact 9 (f := .glo "set_number") rfl), kb_set_number F (G0 K)⟩
  rcases ite_inv hd with ⟨e, hd⟩ | ⟨_, hd⟩
  · subst e
    cases hd
    obtain ⟨fd, F⟩ := c.def_ 10 (d := dd_set_of) rfl
    exact ⟨_, fd, _, _, F, fs_set_of, He.glo_ok X GG (c.fact 10 (f := .glo "set_of") rfl), kb_set_of F (G0 K)⟩
  rcases ite_inv hd with ⟨e, hd⟩ | ⟨_, hd⟩
  · subst e
    cases hd
    obtain ⟨fd, F⟩ := c.def_ 11 (d := dd_dual_of) rfl
    exact ⟨_, fd, _, _, F, fs_dual_of, He.glo_ok X GG (c.fact 11 (f := .glo "dual_of") rfl), kb_dual_of F (G0 K)⟩
  rcases ite_inv hd with ⟨e, hd⟩ | ⟨_, hd⟩
  · subst e
    cases hd
    obtain ⟨fd, F⟩ := c.def_ 12 (d := dd_is_flat) rfl
    exact ⟨_, fd, _, _, F, fs_is_flat, He.glo_ok X GG (c.fact 12 (f := .glo "is_flat") rfl), kb_is_flat F (G0 K)⟩
  rcases ite_inv hd with ⟨e, hd⟩ | ⟨_, hd⟩
  · subst e
    cases hd
    obtain ⟨fd, F⟩ := c.def_ 13 (d := dd_following) rfl
    exact ⟨_, fd, _, _, F, fs_following, He.glo_ok X GG (c.fact 13 (f := .glo "following") rfl), kb_following F (G0 K)⟩
  rcases ite_inv hd with ⟨e, hd⟩ | ⟨_, hd⟩
  · subst e
    cases hd
    obtain ⟨fd, F⟩ := c.def_ 14 (d := dd_followed) rfl
    exact ⟨_, fd, _, _, F, fs_followed, He.glo_ok X GG (c.fact 14 (f := .glo "followed") rfl), kb_followed F (G0 K)⟩
  rcases ite_inv hd with ⟨e, hd⟩ | ⟨_, hd⟩
  · subst e
    cases hd
    obtain ⟨fd, F⟩ := c.def_ 15 (d := dd_heard_in) rfl
    exact ⟨_, fd, _, _, F, fs_heard_in, He.glo_ok X GG (c.fact 15 (f := .glo "heard_in") rfl), kb_heard_in F (G0 K)⟩
  rcases ite_inv hd with ⟨e, hd⟩ | ⟨_, hd⟩
  · subst e
    cases hd
    obtain ⟨fd, F⟩ := c.def_ 16 (d := dd_first_fall) rfl
    exact ⟨_, fd, _, _, F, fs_first_fall, He.glo_ok X GG (c.fact 16 (f := .glo "first_fall") rfl), kb_first_fall F (G0 K)⟩
  rcases ite_inv hd with ⟨e, hd⟩ | ⟨_, hd⟩
  · subst e
    cases hd
    obtain ⟨fd, F⟩ := c.def_ 17 (d := dd_is_rising) rfl
    exact ⟨_, fd, _, _, F, fs_is_rising, He.glo_ok X GG (c.fact 17 (f := .glo "is_rising") rfl), kb_is_rising F (G0 K)⟩
  rcases ite_inv hd with ⟨e, hd⟩ | ⟨_, hd⟩
  · subst e
    cases hd
    obtain ⟨fd, F⟩ := c.def_ 18 (d := dd_is_sized) rfl
    exact ⟨_, fd, _, _, F, fs_is_sized, He.glo_ok X GG (c.fact 18 (f := .glo "is_sized") rfl), kb_is_sized F (G0 K)⟩
  rcases ite_inv hd with ⟨e, hd⟩ | ⟨_, hd⟩
  · subst e
    cases hd
    obtain ⟨fd, F⟩ := c.def_ 19 (d := dd_majority_table) rfl
    exact ⟨_, fd, _, _, F, fs_majority_table, He.glo_ok X GG (c.fact 19 (f := .glo "majority_table") rfl), kb_majority_table F (G0 K)⟩
  rcases ite_inv hd with ⟨e, hd⟩ | ⟨_, hd⟩
  · subst e
    cases hd
    obtain ⟨fd, F⟩ := c.def_ 20 (d := dd_count_rising) rfl
    exact ⟨_, fd, _, _, F, fs_count_rising, He.glo_ok X GG (c.fact 20 (f := .glo "count_rising") rfl), kb_count_rising F (G0 K)⟩
  rcases ite_inv hd with ⟨e, hd⟩ | ⟨_, hd⟩
  · subst e
    cases hd
    obtain ⟨fd, F⟩ := c.def_ 21 (d := dd__law_draws) rfl
    exact ⟨_, fd, _, _, F, fs__law_draws, He.glo_ok X GG (c.fact 21 (f := .glo "_law_draws") rfl), kb__law_draws F (G0 K)⟩
  rcases ite_inv hd with ⟨e, hd⟩ | ⟨_, hd⟩
  · subst e
    cases hd
    obtain ⟨fd, F⟩ := c.def_ 22 (d := dd__law_take) rfl
    exact ⟨_, fd, _, _, F, fs__law_take, He.glo_ok X GG (c.fact 22 (f := .glo "_law_take") rfl), kb__law_take F (G0 K)⟩
  rcases ite_inv hd with ⟨e, hd⟩ | ⟨_, hd⟩
  · subst e
    cases hd
    obtain ⟨fd, F⟩ := c.def_ 23 (d := dd__law_int) rfl
    exact ⟨_, fd, _, _, F, fs__law_int, He.glo_ok X GG (c.fact 23 (f := .glo "_law_int") rfl), kb__law_int F (G0 K)⟩
  rcases ite_inv hd with ⟨e, hd⟩ | ⟨_, hd⟩
  · subst e
    cases hd
    obtain ⟨fd, F⟩ := c.def_ 24 (d := dd__law_bool) rfl
    exact ⟨_, fd, _, _, F, fs__law_bool, He.glo_ok X GG (c.fact 24 (f := .glo "_law_bool") rfl), kb__law_bool F (G0 K)⟩
  rcases ite_inv hd with ⟨e, hd⟩ | ⟨_, hd⟩
  · subst e
    cases hd
    obtain ⟨fd, F⟩ := c.def_ 25 (d := dd__law_bits) rfl
    exact ⟨_, fd, _, _, F, fs__law_bits, He.glo_ok X GG (c.fact 25 (f := .glo "_law_bits") rfl), kb__law_bits F (G0 K)⟩
  rcases ite_inv hd with ⟨e, hd⟩ | ⟨_, hd⟩
  · subst e
    cases hd
    obtain ⟨fd, F⟩ := c.def_ 26 (d := dd__law_in) rfl
    exact ⟨_, fd, _, _, F, fs__law_in, He.glo_ok X GG (c.fact 26 (f := .glo "_law_in") rfl), kb__law_in F (G0 K)⟩
  rcases ite_inv hd with ⟨e, hd⟩ | ⟨_, hd⟩
  · subst e
    cases hd
    obtain ⟨fd, F⟩ := c.def_ 27 (d := dd__law_size) rfl
    exact ⟨_, fd, _, _, F, fs__law_size, He.glo_ok X GG (c.fact 27 (f := .glo "_law_size") rfl), kb__law_size F (G0 K)⟩
  rcases ite_inv hd with ⟨e, hd⟩ | ⟨_, hd⟩
  · subst e
    cases hd
    obtain ⟨fd, F⟩ := c.def_ 28 (d := dd__law_dual) rfl
    exact ⟨_, fd, _, _, F, fs__law_dual, He.glo_ok X GG (c.fact 28 (f := .glo "_law_dual") rfl), kb__law_dual F (G0 K)⟩
  rcases ite_inv hd with ⟨e, hd⟩ | ⟨_, hd⟩
  · subst e
    cases hd
    obtain ⟨fd, F⟩ := c.def_ 29 (d := dd__law_flat) rfl
    exact ⟨_, fd, _, _, F, fs__law_flat, He.glo_ok X GG (c.fact 29 (f := .glo "_law_flat") rfl), kb__law_flat F (G0 K)⟩
  rcases ite_inv hd with ⟨e, hd⟩ | ⟨_, hd⟩
  · subst e
    cases hd
    obtain ⟨fd, F⟩ := c.def_ 30 (d := dd__law_table) rfl
    exact ⟨_, fd, _, _, F, fs__law_table, He.glo_ok X GG (c.fact 30 (f := .glo "_law_table") rfl), kb__law_table F (G0 K)⟩
  rcases ite_inv hd with ⟨e, hd⟩ | ⟨_, hd⟩
  · subst e
    cases hd
    obtain ⟨fd, F⟩ := c.def_ 31 (d := dd__law_row_told) rfl
    exact ⟨_, fd, _, _, F, fs__law_row_told, He.glo_ok X GG (c.fact 31 (f := .glo "_law_row_told") rfl), kb__law_row_told F (G0 K)⟩
  rcases ite_inv hd with ⟨e, hd⟩ | ⟨_, hd⟩
  · subst e
    cases hd
    obtain ⟨fd, F⟩ := c.def_ 32 (d := dd__law_power) rfl
    exact ⟨_, fd, _, _, F, fs__law_power, He.glo_ok X GG (c.fact 32 (f := .glo "_law_power") rfl), kb__law_power F (G0 K)⟩
  rcases ite_inv hd with ⟨e, hd⟩ | ⟨_, hd⟩
  · subst e
    cases hd
    obtain ⟨fd, F⟩ := c.def_ 33 (d := dd__law_falls) rfl
    exact ⟨_, fd, _, _, F, fs__law_falls, He.glo_ok X GG (c.fact 33 (f := .glo "_law_falls") rfl), kb__law_falls F (G0 K)⟩
  rcases ite_inv hd with ⟨e, hd⟩ | ⟨_, hd⟩
  · subst e
    cases hd
    obtain ⟨fd, F⟩ := c.def_ 34 (d := dd__law_heard) rfl
    exact ⟨_, fd, _, _, F, fs__law_heard, He.glo_ok X GG (c.fact 34 (f := .glo "_law_heard") rfl), kb__law_heard F (G0 K)⟩
  rcases ite_inv hd with ⟨e, hd⟩ | ⟨_, hd⟩
  · subst e
    cases hd
    obtain ⟨fd, F⟩ := c.def_ 35 (d := dd__law_by_size) rfl
    exact ⟨_, fd, _, _, F, fs__law_by_size, He.glo_ok X GG (c.fact 35 (f := .glo "_law_by_size") rfl), kb__law_by_size F (G0 K)⟩
  rcases ite_inv hd with ⟨e, hd⟩ | ⟨_, hd⟩
  · subst e
    cases hd
    obtain ⟨fd, F⟩ := c.def_ 36 (d := dd__law_follows) rfl
    exact ⟨_, fd, _, _, F, fs__law_follows, He.glo_ok X GG (c.fact 36 (f := .glo "_law_follows") rfl), kb__law_follows F (G0 K)⟩
  rcases ite_inv hd with ⟨e, hd⟩ | ⟨_, hd⟩
  · subst e
    cases hd
    obtain ⟨fd, F⟩ := c.def_ 37 (d := dd__law_looked_at) rfl
    exact ⟨_, fd, _, _, F, fs__law_looked_at, He.glo_ok X GG (c.fact 37 (f := .glo "_law_looked_at") rfl), kb__law_looked_at F (G0 K)⟩
  rcases ite_inv hd with ⟨e, hd⟩ | ⟨_, hd⟩
  · subst e
    cases hd
    obtain ⟨fd, F⟩ := c.def_ 38 (d := dd__law_each_voter) rfl
    exact ⟨_, fd, _, _, F, fs__law_each_voter, He.glo_ok X GG (c.fact 38 (f := .glo "_law_each_voter") rfl), kb__law_each_voter F (G0 K)⟩
  rcases ite_inv hd with ⟨e, hd⟩ | ⟨_, hd⟩
  · subst e
    cases hd
    obtain ⟨fd, F⟩ := c.def_ 39 (d := dd__law_sets) rfl
    exact ⟨_, fd, _, _, F, fs__law_sets, He.glo_ok X GG (c.fact 39 (f := .glo "_law_sets") rfl), kb__law_sets F (G0 K)⟩
  rcases ite_inv hd with ⟨e, hd⟩ | ⟨_, hd⟩
  · subst e
    cases hd
    obtain ⟨fd, F⟩ := c.def_ 40 (d := dd__law_wider) rfl
    exact ⟨_, fd, _, _, F, fs__law_wider, He.glo_ok X GG (c.fact 40 (f := .glo "_law_wider") rfl), kb__law_wider F (G0 K)⟩
  rcases ite_inv hd with ⟨e, hd⟩ | ⟨_, hd⟩
  · subst e
    cases hd
    obtain ⟨fd, F⟩ := c.def_ 41 (d := dd__law_rising) rfl
    exact ⟨_, fd, _, _, F, fs__law_rising, He.glo_ok X GG (c.fact 41 (f := .glo "_law_rising") rfl), kb__law_rising F (G0 K)⟩
  rcases ite_inv hd with ⟨e, hd⟩ | ⟨_, hd⟩
  · subst e
    cases hd
    obtain ⟨fd, F⟩ := c.def_ 42 (d := dd__law_most) rfl
    exact ⟨_, fd, _, _, F, fs__law_most, He.glo_ok X GG (c.fact 42 (f := .glo "_law_most") rfl), kb__law_most F (G0 K)⟩
  rcases ite_inv hd with ⟨e, hd⟩ | ⟨_, hd⟩
  · subst e
    cases hd
    obtain ⟨fd, F⟩ := c.def_ 43 (d := dd__law_door) rfl
    exact ⟨_, fd, _, _, F, fs__law_door, He.glo_ok X GG (c.fact 43 (f := .glo "_law_door") rfl), kb__law_door F (G0 K)⟩
  rcases ite_inv hd with ⟨e, hd⟩ | ⟨_, hd⟩
  · subst e
    cases hd
    obtain ⟨fd, F⟩ := c.def_ 44 (d := dd__law_refused) rfl
    exact ⟨_, fd, _, _, F, fs__law_refused, He.glo_ok X GG (c.fact 44 (f := .glo "_law_refused") rfl), kb__law_refused F (G0 K)⟩
  rcases ite_inv hd with ⟨e, hd⟩ | ⟨_, hd⟩
  · subst e
    cases hd
    obtain ⟨fd, F⟩ := c.def_ 45 (d := dd_law) rfl
    exact ⟨_, fd, _, _, F, fs_law, He.glo_ok X GG (c.fact 45 (f := .glo "law") rfl), kb_law F (G0 K)⟩
  cases hd
omit X GG c in
theorem pg_shp : ∀ g n ks sh, B0.shape g n ks = some sh → ∃ d, tab0 g = some d := by
  intro g n ks sh hs
  change shape0 g n ks = some sh at hs
  unfold shape0 at hs
  rcases ite_inv hs with ⟨e, hs⟩ | ⟨_, hs⟩
  · subst e
    exact ⟨d_is_integer, rfl⟩
  rcases ite_inv hs with ⟨e, hs⟩ | ⟨_, hs⟩
  · subst e
    exact ⟨d_is_thing, rfl⟩
  rcases ite_inv hs with ⟨e, hs⟩ | ⟨_, hs⟩
  · subst e
    exact ⟨d_number_of_kind, rfl⟩
  rcases ite_inv hs with ⟨e, hs⟩ | ⟨_, hs⟩
  · subst e
    exact ⟨d_first_bad, rfl⟩
  rcases ite_inv hs with ⟨e, hs⟩ | ⟨_, hs⟩
  · subst e
    exact ⟨d_lot_of, rfl⟩
  rcases ite_inv hs with ⟨e, hs⟩ | ⟨_, hs⟩
  · subst e
    exact ⟨d_voters_in, rfl⟩
  rcases ite_inv hs with ⟨e, hs⟩ | ⟨_, hs⟩
  · subst e
    exact ⟨d_entries_in, rfl⟩
  rcases ite_inv hs with ⟨e, hs⟩ | ⟨_, hs⟩
  · subst e
    exact ⟨d_table_of, rfl⟩
  rcases ite_inv hs with ⟨e, hs⟩ | ⟨_, hs⟩
  · subst e
    exact ⟨d_any_table, rfl⟩
  rcases ite_inv hs with ⟨e, hs⟩ | ⟨_, hs⟩
  · subst e
    exact ⟨d_set_number, rfl⟩
  rcases ite_inv hs with ⟨e, hs⟩ | ⟨_, hs⟩
  · subst e
    exact ⟨d_set_of, rfl⟩
  rcases ite_inv hs with ⟨e, hs⟩ | ⟨_, hs⟩
  · subst e
    exact ⟨d_dual_of, rfl⟩
  rcases ite_inv hs with ⟨e, hs⟩ | ⟨_, hs⟩
  · subst e
    exact ⟨d_is_flat, rfl⟩
  rcases ite_inv hs with ⟨e, hs⟩ | ⟨_, hs⟩
  · subst e
    exact ⟨d_following, rfl⟩
  rcases ite_inv hs with ⟨e, hs⟩ | ⟨_, hs⟩
  · subst e
    exact ⟨d_followed, rfl⟩
  rcases ite_inv hs with ⟨e, hs⟩ | ⟨_, hs⟩
  · subst e
    exact ⟨d_heard_in, rfl⟩
  rcases ite_inv hs with ⟨e, hs⟩ | ⟨_, hs⟩
  · subst e
    exact ⟨d_first_fall, rfl⟩
  rcases ite_inv hs with ⟨e, hs⟩ | ⟨_, hs⟩
  · subst e
    exact ⟨d_is_rising, rfl⟩
  rcases ite_inv hs with ⟨e, hs⟩ | ⟨_, hs⟩
  · subst e
    exact ⟨d_is_sized, rfl⟩
  rcases ite_inv hs with ⟨e, hs⟩ | ⟨_, hs⟩
  · subst e
    exact ⟨d_majority_table, rfl⟩
  rcases ite_inv hs with ⟨e, hs⟩ | ⟨_, hs⟩
  · subst e
    exact ⟨d_count_rising, rfl⟩
  rcases ite_inv hs with ⟨e, hs⟩ | ⟨_, hs⟩
  · subst e
    exact ⟨d__law_draws, rfl⟩
  rcases ite_inv hs with ⟨e, hs⟩ | ⟨_, hs⟩
  · subst e
    exact ⟨d__law_take, rfl⟩
  rcases ite_inv hs with ⟨e, hs⟩ | ⟨_, hs⟩
  · subst e
    exact ⟨d__law_int, rfl⟩
  rcases ite_inv hs with ⟨e, hs⟩ | ⟨_, hs⟩
  · subst e
    exact ⟨d__law_bool, rfl⟩
  rcases ite_inv hs with ⟨e, hs⟩ | ⟨_, hs⟩
  · subst e
    exact ⟨d__law_bits, rfl⟩
  rcases ite_inv hs with ⟨e, hs⟩ | ⟨_, hs⟩
  · subst e
    exact ⟨d__law_in, rfl⟩
  rcases ite_inv hs with ⟨e, hs⟩ | ⟨_, hs⟩
  · subst e
    exact ⟨d__law_size, rfl⟩
  rcases ite_inv hs with ⟨e, hs⟩ | ⟨_, hs⟩
  · subst e
    exact ⟨d__law_dual, rfl⟩
  rcases ite_inv hs with ⟨e, hs⟩ | ⟨_, hs⟩
  · subst e
    exact ⟨d__law_flat, rfl⟩
  rcases ite_inv hs with ⟨e, hs⟩ | ⟨_, hs⟩
  · subst e
    exact ⟨d__law_table, rfl⟩
  rcases ite_inv hs with ⟨e, hs⟩ | ⟨_, hs⟩
  · subst e
    exact ⟨d__law_row_told, rfl⟩
  rcases ite_inv hs with ⟨e, hs⟩ | ⟨_, hs⟩
  · subst e
    exact ⟨d__law_power, rfl⟩
  rcases ite_inv hs with ⟨e, hs⟩ | ⟨_, hs⟩
  · subst e
    exact ⟨d__law_falls, rfl⟩
  rcases ite_inv hs with ⟨e, hs⟩ | ⟨_, hs⟩
  · subst e
    exact ⟨d__law_heard, rfl⟩
  rcases ite_inv hs with ⟨e, hs⟩ | ⟨_, hs⟩
  · subst e
    exact ⟨d__law_by_size, rfl⟩
  rcases ite_inv hs with ⟨e, hs⟩ | ⟨_, hs⟩
  · subst e
    exact ⟨d__law_follows, rfl⟩
  rcases ite_inv hs with ⟨e, hs⟩ | ⟨_, hs⟩
  · subst e
    exact ⟨d__law_looked_at, rfl⟩
  rcases ite_inv hs with ⟨e, hs⟩ | ⟨_, hs⟩
  · subst e
    exact ⟨d__law_each_voter, rfl⟩
  rcases ite_inv hs with ⟨e, hs⟩ | ⟨_, hs⟩
  · subst e
    exact ⟨d__law_sets, rfl⟩
  rcases ite_inv hs with ⟨e, hs⟩ | ⟨_, hs⟩
  · subst e
    exact ⟨d__law_wider, rfl⟩
  rcases ite_inv hs with ⟨e, hs⟩ | ⟨_, hs⟩
  · subst e
    exact ⟨d__law_rising, rfl⟩
  rcases ite_inv hs with ⟨e, hs⟩ | ⟨_, hs⟩
  · subst e
    exact ⟨d__law_most, rfl⟩
  rcases ite_inv hs with ⟨e, hs⟩ | ⟨_, hs⟩
  · subst e
    exact ⟨d__law_door, rfl⟩
  rcases ite_inv hs with ⟨e, hs⟩ | ⟨_, hs⟩
  · subst e
    exact ⟨d__law_refused, rfl⟩
  rcases ite_inv hs with ⟨e, hs⟩ | ⟨_, hs⟩
  · subst e
    exact ⟨d_law, rfl⟩
  cases hs
theorem pg_blt : ∀ x, B0.blt x = true → mg x = none := by
  intro x hx
  change blt0 x = true at hx
  unfold blt0 at hx
  simp only [Bool.or_eq_true, decide_eq_true_eq] at hx
  rcases hx with ((((((((((((((hx | hx) | hx) | hx) | hx) | hx) | hx) | hx) | hx) | hx) | hx) | hx) | hx) | hx) | hx) | hx
  · subst hx; exact He.free_ok X GG (c.fact 46 (f := .free "all") rfl)
  · subst hx; exact He.free_ok X GG (c.fact 47 (f := .free "any") rfl)
  · subst hx; exact He.free_ok X GG (c.fact 48 (f := .free "bool") rfl)
  · subst hx; exact He.free_ok X GG (c.fact 49 (f := .free "enumerate") rfl)
  · subst hx; exact He.free_ok X GG (c.fact 50 (f := .free "int") rfl)
  · subst hx; exact He.free_ok X GG (c.fact 51 (f := .free "isinstance") rfl)
  · subst hx; exact He.free_ok X GG (c.fact 52 (f := .free "len") rfl)
  · subst hx; exact He.free_ok X GG (c.fact 53 (f := .free "list") rfl)
  · subst hx; exact He.free_ok X GG (c.fact 54 (f := .free "max") rfl)
  · subst hx; exact He.free_ok X GG (c.fact 55 (f := .free "min") rfl)
  · subst hx; exact He.free_ok X GG (c.fact 56 (f := .free "range") rfl)
  · subst hx; exact He.free_ok X GG (c.fact 57 (f := .free "reversed") rfl)
  · subst hx; exact He.free_ok X GG (c.fact 58 (f := .free "sorted") rfl)
  · subst hx; exact He.free_ok X GG (c.fact 59 (f := .free "str") rfl)
  · subst hx; exact He.free_ok X GG (c.fact 60 (f := .free "sum") rfl)
  · subst hx; exact He.free_ok X GG (c.fact 61 (f := .free "tuple") rfl)
theorem pg_cst : ∀ x d, B0.cst x = some d → ∃ u v, mg x = some u ∧ RelV v u ∧ ∀ H, RD (G0 K) (fun _ => False) H d v := by
  intro x d hx
  change cst0 x = some d at hx
  unfold cst0 at hx
  split at hx
  · rename_i e
    subst e
    cases hx
    obtain ⟨t, e⟩ := He.int_ok X GG (c.fact 62 (f := .int "MOST_VOTERS" 5) rfl)
    exact ⟨_, .int 5, e, rel_int, fun H => .int 5⟩
  cases hx
omit X GG c in
theorem fo_name : PySem.ExcX.FldOk "name" := ⟨by decide +kernel, by decide +kernel, fun _ _ _ _ _ _ _ _ _ _ _ _ _ _ _ => rfl⟩
omit X GG c in
theorem fo_place : PySem.ExcX.FldOk "place" := ⟨by decide +kernel, by decide +kernel, fun _ _ _ _ _ _ _ _ _ _ _ _ _ _ _ => rfl⟩
variable (cx : ex0 K = true)
include cx
theorem pg_ex : ∀ c f, B0.exs c = some f → ∃ C fI qn, (G0 K).cls c = some C ∧ mg c = some (.ref C) ∧ PySem.ExcX.ExcTxt K f qn C fI := by
  intro x f hx
  change exs0 x = some f at hx
  unfold exs0 at hx
  unfold ex0 at cx
  simp only [Bool.and_eq_true] at cx
  obtain ⟨⟨h0, h1⟩, h2⟩ := cx
  split at hx
  · rename_i e
    subst e
    cases hx
    obtain ⟨fd, F⟩ := c.def_ 46 (d := dx_BadNumber) rfl
    have hcl : (G0 K).cls "BadNumber" = some (He.ga K "BadNumber") := by
      show (if (exs0 "BadNumber").isSome = true then some (He.ga K "BadNumber") else none) = _
      exact if_pos (by decide +kernel)
    exact ⟨_, _, _, hcl, He.glo_ok X GG (c.fact 63 (f := .glo "BadNumber") rfl), excB_ok h0 fo_name F⟩
  split at hx
  · rename_i e
    subst e
    cases hx
    obtain ⟨fd, F⟩ := c.def_ 47 (d := dx_BadLot) rfl
    have hcl : (G0 K).cls "BadLot" = some (He.ga K "BadLot") := by
      show (if (exs0 "BadLot").isSome = true then some (He.ga K "BadLot") else none) = _
      exact if_pos (by decide +kernel)
    exact ⟨_, _, _, hcl, He.glo_ok X GG (c.fact 64 (f := .glo "BadLot") rfl), excB_ok h1 fo_place F⟩
  split at hx
  · rename_i e
    subst e
    cases hx
    obtain ⟨fd, F⟩ := c.def_ 48 (d := dx_BadTable) rfl
    have hcl : (G0 K).cls "BadTable" = some (He.ga K "BadTable") := by
      show (if (exs0 "BadTable").isSome = true then some (He.ga K "BadTable") else none) = _
      exact if_pos (by decide +kernel)
    exact ⟨_, _, _, hcl, He.glo_ok X GG (c.fact 65 (f := .glo "BadTable") rfl), excB_ok h2 fo_place F⟩
  cases hx
omit X GG cx in
theorem pg_exm : ∀ c c1 f f1 C C1, B0.exs c = some f → B0.exs c1 = some f1 → (G0 K).cls c = some C → (G0 K).cls c1 = some C1 → PySem.W.exmOne K (.ref C) (.ref C1) = some (decide (c = c1)) := by
  intro x y f f1 C C1 hx hy hC hC1
  change exs0 x = some f at hx
  change exs0 y = some f1 at hy
  unfold exs0 at hx hy
  split at hx
  · rename_i e
    subst e
    split at hy
    · rename_i e
      subst e
      obtain rfl : He.ga K "BadNumber" = C := Option.some.inj hC
      obtain rfl : He.ga K "BadNumber" = C1 := Option.some.inj hC1
      exact (He.exm_ok (c.fact 66 (f := .exm "BadNumber" "BadNumber" true) rfl)).trans (by decide +kernel)
    split at hy
    · rename_i e
      subst e
      obtain rfl : He.ga K "BadNumber" = C := Option.some.inj hC
      obtain rfl : He.ga K "BadLot" = C1 := Option.some.inj hC1
      exact (He.exm_ok (c.fact 67 (f := .exm "BadNumber" "BadLot" false) rfl)).trans (by decide +kernel)
    split at hy
    · rename_i e
      subst e
      obtain rfl : He.ga K "BadNumber" = C := Option.some.inj hC
      obtain rfl : He.ga K "BadTable" = C1 := Option.some.inj hC1
      exact (He.exm_ok (c.fact 68 (f := .exm "BadNumber" "BadTable" false) rfl)).trans (by decide +kernel)
    cases hy
  split at hx
  · rename_i e
    subst e
    split at hy
    · rename_i e
      subst e
      obtain rfl : He.ga K "BadLot" = C := Option.some.inj hC
      obtain rfl : He.ga K "BadNumber" = C1 := Option.some.inj hC1
      exact (He.exm_ok (c.fact 69 (f := .exm "BadLot" "BadNumber" false) rfl)).trans (by decide +kernel)
    split at hy
    · rename_i e
      subst e
      obtain rfl : He.ga K "BadLot" = C := Option.some.inj hC
      obtain rfl : He.ga K "BadLot" = C1 := Option.some.inj hC1
      exact (He.exm_ok (c.fact 70 (f := .exm "BadLot" "BadLot" true) rfl)).trans (by decide +kernel)
    split at hy
    · rename_i e
      subst e
      obtain rfl : He.ga K "BadLot" = C := Option.some.inj hC
      obtain rfl : He.ga K "BadTable" = C1 := Option.some.inj hC1
      exact (He.exm_ok (c.fact 71 (f := .exm "BadLot" "BadTable" false) rfl)).trans (by decide +kernel)
    cases hy
  split at hx
  · rename_i e
    subst e
    split at hy
    · rename_i e
      subst e
      obtain rfl : He.ga K "BadTable" = C := Option.some.inj hC
      obtain rfl : He.ga K "BadNumber" = C1 := Option.some.inj hC1
      exact (He.exm_ok (c.fact 72 (f := .exm "BadTable" "BadNumber" false) rfl)).trans (by decide +kernel)
    split at hy
    · rename_i e
      subst e
      obtain rfl : He.ga K "BadTable" = C := Option.some.inj hC
      obtain rfl : He.ga K "BadLot" = C1 := Option.some.inj hC1
      exact (He.exm_ok (c.fact 73 (f := .exm "BadTable" "BadLot" false) rfl)).trans (by decide +kernel)
    split at hy
    · rename_i e
      subst e
      obtain rfl : He.ga K "BadTable" = C := Option.some.inj hC
      obtain rfl : He.ga K "BadTable" = C1 := Option.some.inj hC1
      exact (He.exm_ok (c.fact 74 (f := .exm "BadTable" "BadTable" true) rfl)).trans (by decide +kernel)
    cases hy
  cases hx
theorem pg0 : PgOk P w K mg (G0 K) B0 tab0 := ⟨rfl, pg_cst X GG c, pg_blt X GG c, pg_defs X GG c, pg_shp, pg_ex X GG c cx, pg_exm c⟩
end
end Bw

set_option maxHeartbeats 4000000
namespace Bw
open PySem PySem.Spec PyProof.Rows L2
theorem law_call0 (sc : List Int) (hs : sc.length ≤ 63) : callN B0 tab0 60 11 "law" [.d (.lst (sc.map .int))] = .ok (.d (.bl true)) [some (.d (.lst (sc.map .int)))] := by
  have e : callN B0 tab0 60 11 "law" [.d (.lst (sc.map .int))] = callC 11 45 [.d (.lst (sc.map .int))] := congrFun (congrFun (callC_eq 11) 45) _
  rw [e]
  exact law_true 0 sc hs
theorem law0 {P : Program} {w : World} {K : PySem.W.Frag} {h : Heap} {mg : Str → Option Value} {f : Addr} (X : K.In h) (GG : h.Ns mainGlobals mg) (hfa : mg ("law" : Str) = some (.ref f)) (c : He.SaysD fa0 fn0 K) (cx : ex0 K = true) :
    ∃ fd : FuncData, (∀ (s : Shared) (v : Value), BindsTo s fd ⟨[v], []⟩ [("script", v)]) ∧ ∀ base : Heap, K.In base → base.Ns mainGlobals mg → FnOk P w K mg base (CXa P) 12 f fd ["script"] (spF (G0 K) (callN B0 tab0 60 11 "law")) := by
  obtain ⟨fd, F⟩ := c.def_ 45 (d := dd_law) rfl
  have e := hfa.symm.trans (He.glo_ok X GG (c.fact 45 (f := .glo "law") rfl))
  cases e
  have b := FunD.bindsA (ps := ["script"]) F fun _ _ _ _ _ _ us hl => match us, hl with | [_], _ => rfl
  exact ⟨fd, fun s v => b s [v] rfl, fun base _ _ => fnok_any (defs_ok (pg0 X GG c cx) 11 "law" d_law _ fd _ _ rfl F fs_law)⟩
end Bw
open PySem PySem.W PySem.Calls PyProof.Rows
set_option maxHeartbeats 0 in
theorem PySem.Challenge.cw_behindwebs_k02_tables_of_voters_holds : PySem.Challenge.rw_behindwebs_k02_tables_of_voters.Holds := by
  w_on; o_law
  refine HandSHeadRun.head_any (r := OpenLaw.row PySem.Challenge.rw_behindwebs_k02_tables_of_voters) (q := view (OpenLaw.row PySem.Challenge.rw_behindwebs_k02_tables_of_voters).prog [55]) (H := Bw.hk0) (ob := Bw.ob0) (M := 4000) (loose := Bw.loose0) (d := HandSHeadRun.topDef (OpenLaw.row PySem.Challenge.rw_behindwebs_k02_tables_of_voters).prog 55) (kwd := []) Bw.ob0_eq
    (by kernel_rfl) (fun s => by kernel_rfl) Bw.run0 (by kernel_rfl) (by kernel_rfl) (by kernel_rfl) (by rfl) (by first | assumption | decide +kernel) (by decide +kernel) ⟨rfl, rfl, rfl, rfl, rfl, by decide +kernel⟩ ?hw ?hc
  case hw => w_witness2
  case hc =>
    refine L2.walk_ofE (l := PySem.Challenge.rw_behindwebs_k02_tables_of_voters) (n := 63) (k := 12) (x := "script") (CX := Bw.CXa (PySem.Challenge.rw_behindwebs_k02_tables_of_voters).prog) rfl (by decide) (by kernel_rfl) ⟨rfl, by decide, by decide⟩ ?F Bw.cxa_none
    intro w mg fa h Y G hmg0
    obtain ⟨K, KX, c, cx⟩ := Y
    have hmg : mg ("law" : PySem.Str) = some (.ref fa) := by
      have e : (HandSHeadRun.topDef (OpenLaw.row PySem.Challenge.rw_behindwebs_k02_tables_of_voters).prog 55).name = ("law" : PySem.Str) := by kernel_rfl
      rw [← e]
      exact hmg0
    obtain ⟨fd, hb, hF⟩ := Bw.law0 (P := (PySem.Challenge.rw_behindwebs_k02_tables_of_voters).prog) (w := w) KX G hmg c cx
    exact ⟨K, fd, _, KX, hb, fun H a ns hl _ hS => Bw.law_sp hS (Bw.law_call0 ns hl) rfl, hF⟩

