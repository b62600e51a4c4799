import PyProof.Rows.All
import Wide.All
import OpenK.AllK
import Wide.FinOn
import HandS.ForMost
import HandS.Exc
import HandS.ExcOwn
import HandS.Nested
import HandS.Wide
import HandS.TupLe
import HandS.TupAny
import HandS.IsInst
import HandS.Deep
import HandS.Style
import HandS.Conv
import KE.KTupSum
import KE.GoesEnum
import KE.GoesMore
import KE.GoesZip
import HandS.WordsExc
import HandS.Dict
import HandS.SortKw
import KE.KSortKey
import HandS.EndTab
import PySem.Challenge.RW_enoughvoices_k52_whole_seats_of_fewer_an
set_option Elab.async false
set_option linter.all false
set_option maxRecDepth 100000
set_option maxHeartbeats 4000000
/-! DL1: data without a heap, what stands for it, the state of a def's frame. -/
namespace DL
open PySem PySem.Spec PyProof.Rows L2

inductive D where
  | non | bl (b : Bool) | int (i : Int) | str (x : Str)
  | tup (ds : List D) | lst (ds : List D)
  | scr (ns : List Int)
  | dct (kvs : List (Key × D))
  | ins (C : Nat) (fs : List (Str × D))

/-- what is fixed for a law: the written part, the tables of code objects, where classes stand -/
structure Ctx where
  K : PySem.W.Frag
  T : List NdefX.NTab
  cls : Nat → Addr

abbrev Hid := Addr → Prop
def NTbl (o : HO) : Prop := ∀ ps, o ≠ .tbl ps

def KTup (K : PySem.W.Frag) (a : Addr) (xs : List V) : Prop :=
  ∃ (o : Obj) (its : Array Value) (n : Nat), K.lookup a = some o ∧ o.cls = .type "tuple" ∧ o.data = .seq its n ∧ its.size ≤ sizeLine ∧ Vals xs its.toList

def KLst (K : PySem.W.Frag) (a : Addr) (xs : List V) : Prop :=
  ∃ (o : Obj) (its : Array Value) (n : Nat), K.lookup a = some o ∧ o.cls = .type "list" ∧ o.dict = none ∧ o.data = .seq its n ∧ its.size ≤ sizeLine ∧ Vals xs its.toList

mutual
def At (G : Ctx) (O : Hid) (H : Hp) : D → V → Prop
  | .non, v => v = .non
  | .bl b, v => v = .bl b
  | .int i, v => v = .int i
  | .str x, v => v = .str x
  | .tup ds, v => ∃ a vs, v = .ref a ∧ ((¬ O a ∧ Rd H a (.tup vs)) ∨ KTup G.K a vs) ∧ vs.length ≤ sizeLine ∧ Ats G O H ds vs
  | .lst ds, v => ∃ a vs, v = .ref a ∧ ¬ O a ∧ H a = some (.lst vs) ∧ vs.length ≤ sizeLine ∧ Ats G O H ds vs
  | .scr ns, v => ∃ a, v = .ref a ∧ ((¬ O a ∧ Rd H a (.lst (ns.map V.int))) ∨ KLst G.K a (ns.map V.int)) ∧ ns.length ≤ 63
  | .dct kvs, v => ∃ a ws, v = .ref a ∧ ¬ O a ∧ H a = some (.dK ws) ∧ ws.length ≤ sizeLine ∧ AtK G O H kvs ws
  | .ins C fs, v => ∃ a dx ws, v = .ref a ∧ ¬ O a ∧ H a = some (.ins (G.cls C) dx ws) ∧ AtF G O H fs ws
def Ats (G : Ctx) (O : Hid) (H : Hp) : List D → List V → Prop
  | [], vs => vs = []
  | d :: ds, vs => ∃ v ws, vs = v :: ws ∧ At G O H d v ∧ Ats G O H ds ws
def AtK (G : Ctx) (O : Hid) (H : Hp) : List (Key × D) → List (Key × V) → Prop
  | [], vs => vs = []
  | (k, d) :: ds, vs => ∃ v ws, vs = (k, v) :: ws ∧ At G O H d v ∧ AtK G O H ds ws
def AtF (G : Ctx) (O : Hid) (H : Hp) : List (Str × D) → List (Str × V) → Prop
  | [], vs => vs = []
  | (k, d) :: ds, vs => ∃ v ws, vs = (k, v) :: ws ∧ At G O H d v ∧ AtF G O H ds ws
end

/-- cells that are not hidden stay; what is hidden from then on was hidden or not there -/
structure Mv (O : Hid) (H : Hp) (O' : Hid) (H' : Hp) : Prop where
  keep : ∀ b o, H b = some o → NTbl o → ¬ O b → H' b = some o
  hide : ∀ b, O' b → O b ∨ H b = none
theorem Mv.refl (O : Hid) (H : Hp) : Mv O H O H := ⟨fun _ _ h _ _ => h, fun _ h => .inl h⟩

/-- what may be hidden: a list, a dict -/
def LDo : HO → Prop
  | .lst _ => True
  | .dK _ => True
  | _ => False
def LD (H : Hp) (q : Addr) : Prop := ∃ o, H q = some o ∧ LDo o
theorem LDo.nt {o : HO} (h : LDo o) : NTbl o := fun ps e => by subst e; exact h
theorem LD.l {H : Hp} {q : Addr} {xs : List V} (h : H q = some (.lst xs)) : LD H q := ⟨_, h, True.intro⟩
theorem LD.d {H : Hp} {q : Addr} {kvs} (h : H q = some (.dK kvs)) : LD H q := ⟨_, h, True.intro⟩
theorem LD.kp {H H' : Hp} {q : Addr} (h : LD H q) (k : ∀ o, H q = some o → NTbl o → H' q = some o) : LD H' q := let ⟨o, e, l⟩ := h; ⟨o, k o e l.nt, l⟩
theorem ntbl_lst {xs : List V} : NTbl (.lst xs) := fun _ e => by cases e
theorem ntbl_tup {xs : List V} : NTbl (.tup xs) := fun _ e => by cases e
theorem ntbl_frz {o : Obj} {u : HO} : NTbl (.frz o u) := fun _ e => by cases e
theorem ntbl_dK {kvs} : NTbl (.dK kvs) := fun _ e => by cases e
theorem ntbl_ins {C dx fs} : NTbl (.ins C dx fs) := fun _ e => by cases e

section
variable {G : Ctx} {O O' : Hid} {H H' : Hp}
theorem Mv.nh (m : Mv O H O' H') {b : Addr} {o : HO} (h : H b = some o) (n : ¬ O b) : ¬ O' b := fun z => by
  rcases m.hide b z with q | q
  · exact n q
  · rw [h] at q; cases q
theorem Mv.rd (m : Mv O H O' H') {b : Addr} {u : HO} (hu : NTbl u) (n : ¬ O b) (h : Rd H b u) : ¬ O' b ∧ Rd H' b u := by
  rcases h with h | ⟨o, h⟩
  · exact ⟨m.nh h n, .inl (m.keep _ _ h hu n)⟩
  · exact ⟨m.nh h n, .inr ⟨o, m.keep _ _ h ntbl_frz n⟩⟩
mutual
theorem At.mv (m : Mv O H O' H') : ∀ {d : D} {v : V}, At G O H d v → At G O' H' d v
  | .non, _, h => h
  | .bl _, _, h => h
  | .int _, _, h => h
  | .str _, _, h => h
  | .tup ds, v, h => by
    unfold At at h ⊢
    obtain ⟨a, vs, e, h1, hl, h2⟩ := h
    refine ⟨a, vs, e, ?_, hl, Ats.mv m h2⟩
    rcases h1 with ⟨n, h1⟩ | h1
    · exact .inl (m.rd ntbl_tup n h1)
    · exact .inr h1
  | .lst ds, v, h => by
    unfold At at h ⊢
    obtain ⟨a, vs, e, n, h1, hl, h2⟩ := h
    exact ⟨a, vs, e, m.nh h1 n, m.keep _ _ h1 ntbl_lst n, hl, Ats.mv m h2⟩
  | .scr ns, v, h => by
    unfold At at h ⊢
    obtain ⟨a, e, h1, hl⟩ := h
    refine ⟨a, e, ?_, hl⟩
    rcases h1 with ⟨n, h1⟩ | h1
    · exact .inl (m.rd ntbl_lst n h1)
    · exact .inr h1
  | .dct kvs, v, h => by
    unfold At at h ⊢
    obtain ⟨a, ws, e, n, h1, hl, h2⟩ := h
    exact ⟨a, ws, e, m.nh h1 n, m.keep _ _ h1 ntbl_dK n, hl, AtK.mv m h2⟩
  | .ins C fs, v, h => by
    unfold At at h ⊢
    obtain ⟨a, dx, ws, e, n, h1, h2⟩ := h
    exact ⟨a, dx, ws, e, m.nh h1 n, m.keep _ _ h1 ntbl_ins n, AtF.mv m h2⟩
theorem Ats.mv (m : Mv O H O' H') : ∀ {ds : List D} {vs : List V}, Ats G O H ds vs → Ats G O' H' ds vs
  | [], _, h => h
  | d :: ds, vs, h => by
    unfold Ats at h ⊢
    obtain ⟨v, ws, e, h1, h2⟩ := h
    exact ⟨v, ws, e, At.mv m h1, Ats.mv m h2⟩
theorem AtK.mv (m : Mv O H O' H') : ∀ {ds : List (Key × D)} {vs : List (Key × V)}, AtK G O H ds vs → AtK G O' H' ds vs
  | [], _, h => h
  | (k, d) :: ds, vs, h => by
    unfold AtK at h ⊢
    obtain ⟨v, ws, e, h1, h2⟩ := h
    exact ⟨v, ws, e, At.mv m h1, AtK.mv m h2⟩
theorem AtF.mv (m : Mv O H O' H') : ∀ {ds : List (Str × D)} {vs : List (Str × V)}, AtF G O H ds vs → AtF G O' H' ds vs
  | [], _, h => h
  | (k, d) :: ds, vs, h => by
    unfold AtF at h ⊢
    obtain ⟨v, ws, e, h1, h2⟩ := h
    exact ⟨v, ws, e, At.mv m h1, AtF.mv m h2⟩
end
theorem Ats.length : ∀ {ds : List D} {vs : List V}, Ats G O H ds vs → vs.length = ds.length
  | [], _, h => by unfold Ats at h; subst h; rfl
  | d :: ds, vs, h => by
    unfold Ats at h
    obtain ⟨v, ws, e, h1, h2⟩ := h
    subst e
    show ws.length + 1 = ds.length + 1
    rw [Ats.length h2]
theorem Ats.get : ∀ {ds : List D} {vs : List V} {i : Nat} {d : D}, Ats G O H ds vs → ds[i]? = some d → ∃ v, vs[i]? = some v ∧ At G O H d v
  | [], _, _, _, _, e => by simp at e
  | d :: ds, vs, 0, d', h, e => by
    unfold Ats at h
    obtain ⟨v, ws, rfl, h1, h2⟩ := h
    simp at e; subst e
    exact ⟨v, rfl, h1⟩
  | d :: ds, vs, i + 1, d', h, e => by
    unfold Ats at h
    obtain ⟨v, ws, rfl, h1, h2⟩ := h
    have e' : ds[i]? = some d' := by simpa using e
    obtain ⟨v', q1, q2⟩ := Ats.get h2 e'
    exact ⟨v', by simpa using q1, q2⟩
theorem Ats.append : ∀ {ds es : List D} {vs ws : List V}, Ats G O H ds vs → Ats G O H es ws → Ats G O H (ds ++ es) (vs ++ ws)
  | [], _, _, _, h, k => by unfold Ats at h; subst h; exact k
  | d :: ds, es, vs, ws, h, k => by
    unfold Ats at h
    obtain ⟨v, us, rfl, h1, h2⟩ := h
    show Ats G O H (d :: (ds ++ es)) (v :: (us ++ ws))
    unfold Ats
    exact ⟨v, _, rfl, h1, Ats.append h2 k⟩
theorem Ats.nil : Ats G O H [] [] := by unfold Ats; rfl
theorem Ats.cons {d : D} {v : V} {ds : List D} {vs : List V} (h : At G O H d v) (k : Ats G O H ds vs) : Ats G O H (d :: ds) (v :: vs) := by
  unfold Ats; exact ⟨v, vs, rfl, h, k⟩
theorem Ats.one {d : D} {v : V} (h : At G O H d v) : Ats G O H [d] [v] := .cons h .nil
theorem Ats.drop : ∀ {ds : List D} {vs : List V} (n : Nat), Ats G O H ds vs → Ats G O H (ds.drop n) (vs.drop n)
  | _, _, 0, h => h
  | [], _, n + 1, h => by unfold Ats at h; subst h; exact Ats.nil
  | d :: ds, vs, n + 1, h => by
    unfold Ats at h
    obtain ⟨v, us, rfl, h1, h2⟩ := h
    exact Ats.drop n h2
theorem Ats.take : ∀ {ds : List D} {vs : List V} (n : Nat), Ats G O H ds vs → Ats G O H (ds.take n) (vs.take n)
  | _, _, 0, _ => Ats.nil
  | [], _, n + 1, h => by unfold Ats at h; subst h; exact Ats.nil
  | d :: ds, vs, n + 1, h => by
    unfold Ats at h
    obtain ⟨v, us, rfl, h1, h2⟩ := h
    exact Ats.cons h1 (Ats.take n h2)
theorem Ats.set : ∀ {ds : List D} {vs : List V} {d : D} {v : V} (n : Nat), Ats G O H ds vs → At G O H d v → Ats G O H (ds.set n d) (vs.set n v)
  | [], _, _, _, _, h, _ => by unfold Ats at h; subst h; exact Ats.nil
  | d :: ds, vs, d', v', 0, h, k => by
    unfold Ats at h
    obtain ⟨v, us, rfl, h1, h2⟩ := h
    exact Ats.cons k h2
  | d :: ds, vs, d', v', n + 1, h, k => by
    unfold Ats at h
    obtain ⟨v, us, rfl, h1, h2⟩ := h
    exact Ats.cons h1 (Ats.set n h2 k)
theorem Ats.rep {d : D} {v : V} (h : At G O H d v) : ∀ n, Ats G O H (List.replicate n d) (List.replicate n v)
  | 0 => Ats.nil
  | n + 1 => Ats.cons h (Ats.rep h n)
theorem Ats.reverse : ∀ {ds : List D} {vs : List V}, Ats G O H ds vs → Ats G O H ds.reverse vs.reverse
  | [], _, h => by unfold Ats at h; subst h; exact Ats.nil
  | d :: ds, vs, h => by
    unfold Ats at h
    obtain ⟨v, us, rfl, h1, h2⟩ := h
    rw [List.reverse_cons, List.reverse_cons]
    exact (Ats.reverse h2).append (Ats.one h1)
theorem Ats.dropLast : ∀ {ds : List D} {vs : List V}, Ats G O H ds vs → Ats G O H ds.dropLast vs.dropLast := fun {ds vs} h => by
  rw [List.dropLast_eq_take, List.dropLast_eq_take, h.length]
  exact h.take _
theorem Ats.ints : ∀ {ns : List Int} {vs : List V}, Ats G O H (ns.map D.int) vs → vs = ns.map V.int
  | [], _, h => by unfold Ats at h; exact h
  | n :: ns, vs, h => by
    rw [List.map_cons] at h
    unfold Ats at h
    obtain ⟨v, us, rfl, h1, h2⟩ := h
    unfold At at h1
    rw [h1, Ats.ints h2]
    rfl
theorem Ats.of_ints : ∀ (ns : List Int), Ats G O H (ns.map D.int) (ns.map V.int)
  | [] => Ats.nil
  | n :: ns => Ats.cons (by unfold At; rfl) (Ats.of_ints ns)
end

/-! ### a frame's data -/
inductive SE where
  | val (d : D)
  | own (par : Bool) (ds : List D)
abbrev FEnv := List (Option SE)

def OwnAt (σ : L2.St) (δ : FEnv) (i : Nat) (p : Addr) : Prop := σ[i]? = some (some (.ref p)) ∧ ∃ b ds, δ[i]? = some (some (SE.own b ds))
def Own (σ : L2.St) (δ : FEnv) : Hid := fun p => ∃ i, OwnAt σ δ i p
def Ob (O : Hid) (σ : L2.St) (δ : FEnv) : Hid := fun q => O q ∨ Own σ δ q
def Oa (O : Hid) (p : Addr) : Hid := fun q => O q ∨ q = p

structure St (G : Ctx) (Hb : Hp) (O : Hid) (H : Hp) (σ : L2.St) (δ : FEnv) : Prop where
  len : σ.length = δ.length
  tb : NdefX.TabsN G.T H
  trb : ∀ b, H b = none → Hb b = none
  hid : ∀ q, O q → LD H q
  val : ∀ (i : Nat) (d : D), δ[i]? = some (some (SE.val d)) → ∃ v, σ[i]? = some (some v) ∧ At G (Ob O σ δ) H d v
  own : ∀ (i : Nat) (b : Bool) (ds : List D), δ[i]? = some (some (SE.own b ds)) → ∃ p vs, σ[i]? = some (some (.ref p)) ∧ H p = some (.lst vs) ∧ vs.length ≤ sizeLine ∧ Hb p = none ∧ ¬ O p ∧ Ats G (Ob O σ δ) H ds vs
  inj : ∀ i j p, OwnAt σ δ i p → OwnAt σ δ j p → i = j

def IsPar (δ : FEnv) (i : Nat) : Prop := ∃ ds, δ[i]? = some (some (SE.own true ds))
structure Stp (σ : L2.St) (δ : FEnv) (H : Hp) (σ' : L2.St) (δ' : FEnv) (H' : Hp) : Prop where
  keep : ∀ b o, H b = some o → NTbl o → ¬ Own σ δ b → H' b = some o
  own : ∀ p, Own σ' δ' p → Own σ δ p ∨ H p = none
  trk : ∀ b, H' b = none → H b = none
  par : ∀ i, IsPar δ i → IsPar δ' i ∧ σ'[i]? = σ[i]?

section
variable {G : Ctx} {Hb : Hp} {O : Hid} {H H1 H2 H' : Hp} {σ σ1 σ2 σ' : L2.St} {δ δ1 δ2 δ' : FEnv}
theorem Stp.refl : Stp σ δ H σ δ H := ⟨fun _ _ h _ _ => h, fun _ h => .inl h, fun _ h => h, fun _ h => ⟨h, rfl⟩⟩
theorem Stp.trans (a : Stp σ δ H σ1 δ1 H1) (b : Stp σ1 δ1 H1 σ2 δ2 H2) : Stp σ δ H σ2 δ2 H2 where
  keep := fun c o h n q => b.keep c o (a.keep c o h n q) n fun z => by
    rcases a.own c z with k | k
    · exact q k
    · rw [h] at k; cases k
  own := fun p z => by
    rcases b.own p z with k | k
    · exact a.own p k
    · exact .inr (a.trk p k)
  trk := fun c h => a.trk c (b.trk c h)
  par := fun i h => let ⟨h1, e1⟩ := a.par i h; let ⟨h2, e2⟩ := b.par i h1; ⟨h2, e2.trans e1⟩
/-- how facts move along -/
theorem St.mv (S : St G Hb O H σ δ) (a : Stp σ δ H σ' δ' H') : Mv (Ob O σ δ) H (Ob O σ' δ') H' where
  keep := fun b o h n q => a.keep b o h n fun z => q (.inr z)
  hide := fun b z => by
    rcases z with z | z
    · exact .inl (.inl z)
    · rcases a.own b z with k | k
      · exact .inl (.inr k)
      · exact .inr k
/-- growing: nothing is changed, new things come -/
structure Grow (H H' : Hp) : Prop where
  keep : ∀ b o, H b = some o → H' b = some o
theorem Grow.refl : Grow H H := ⟨fun _ _ h => h⟩
theorem Grow.trans (a : Grow H H1) (b : Grow H1 H2) : Grow H H2 := ⟨fun c o h => b.keep c o (a.keep c o h)⟩
theorem Grow.trk (a : Grow H H') : ∀ b, H' b = none → H b = none := fun b h => by
  cases q : H b with
  | none => rfl
  | some o => rw [a.keep b o q] at h; cases h
theorem Grow.new {p : Addr} {o : HO} (h : H p = none) : Grow H (upd H p o) := ⟨fun b u e => by rw [upd_ne (ne_of_none e h)]; exact e⟩
theorem Grow.stp (a : Grow H H') : Stp σ δ H σ δ H' := ⟨fun b o h _ _ => a.keep b o h, fun _ h => .inl h, a.trk, fun _ h => ⟨h, rfl⟩⟩
theorem Grow.mv (a : Grow H H') (O : Hid) : Mv O H O H' := ⟨fun b o h _ _ => a.keep b o h, fun _ h => .inl h⟩
theorem ownAt_lst (S : St G Hb O H σ δ) {i : Nat} {p : Addr} (h : OwnAt σ δ i p) : ∃ xs, H p = some (.lst xs) := by
  obtain ⟨h1, b, ds, h2⟩ := h
  obtain ⟨q, vs, e, hq, _⟩ := S.own i b ds h2
  rw [h1] at e; cases e
  exact ⟨vs, hq⟩
theorem St.own_lst (S : St G Hb O H σ δ) {p : Addr} (h : Own σ δ p) : ∃ xs, H p = some (.lst xs) := let ⟨_, h⟩ := h; ownAt_lst S h
theorem St.ob_lst (S : St G Hb O H σ δ) {p : Addr} (h : Ob O σ δ p) : LD H p := by
  rcases h with h | h
  · exact S.hid p h
  · exact let ⟨_, e⟩ := S.own_lst h; LD.l e
theorem St.nob (S : St G Hb O H σ δ) {p : Addr} (h : H p = none) : ¬ Ob O σ δ p := fun z => by
  obtain ⟨xs, e, _⟩ := S.ob_lst z
  rw [h] at e; cases e
theorem St.nobt (S : St G Hb O H σ δ) {p : Addr} {vs : List V} (h : H p = some (.tup vs)) : ¬ Ob O σ δ p := fun z => by
  obtain ⟨xs, e, l⟩ := S.ob_lst z
  rw [h] at e; cases e; exact l
theorem tabs_grow {T : List NdefX.NTab} (h : NdefX.TabsN T H) (a : Grow H H') : NdefX.TabsN T H' := h.ext a.keep
theorem St.grow (S : St G Hb O H σ δ) (a : Grow H H') : St G Hb O H' σ δ where
  len := S.len
  tb := tabs_grow S.tb a
  trb := fun b h => S.trb b (a.trk b h)
  hid := fun q h => (S.hid q h).kp fun o e _ => a.keep _ _ e
  val := fun i d h => let ⟨v, e, q⟩ := S.val i d h; ⟨v, e, q.mv (a.mv _)⟩
  own := fun i b ds h => let ⟨p, vs, e, hp, hl, hb, ho, q⟩ := S.own i b ds h; ⟨p, vs, e, a.keep _ _ hp, hl, hb, ho, q.mv (a.mv _)⟩
  inj := S.inj
/-- what is new may be hidden -/
theorem St.hideO (S : St G Hb O H σ δ) (a : Grow H H') {p : Addr} (h : H p = none) (h' : LD H' p) : St G Hb (Oa O p) H' σ δ where
  len := S.len
  tb := tabs_grow S.tb a
  trb := fun b h => S.trb b (a.trk b h)
  hid := fun q z => by
    rcases z with z | z
    · exact (S.hid q z).kp fun o e _ => a.keep _ _ e
    · subst z; exact h'
  val := fun i d hi => by
    obtain ⟨v, e, q⟩ := S.val i d hi
    refine ⟨v, e, q.mv ⟨fun b o e _ _ => a.keep b o e, fun b z => ?_⟩⟩
    rcases z with (z | z) | z
    · exact .inl (.inl z)
    · subst z; exact .inr h
    · exact .inl (.inr z)
  own := fun i b ds hi => by
    obtain ⟨r, vs, e, hp, hl, hb, ho, q⟩ := S.own i b ds hi
    refine ⟨r, vs, e, a.keep _ _ hp, hl, hb, fun z => ?_, q.mv ⟨fun b o e _ _ => a.keep b o e, fun b z => ?_⟩⟩
    · rcases z with z | z
      · exact ho z
      · subst z; rw [h] at hp; cases hp
    · rcases z with (z | z) | z
      · exact .inl (.inl z)
      · subst z; exact .inr h
      · exact .inl (.inr z)
  inj := S.inj
theorem St.hide (S : St G Hb O H σ δ) (a : Grow H H') {p : Addr} (h : H p = none) {xs : List V} (h' : H' p = some (.lst xs)) : St G Hb (Oa O p) H' σ δ := S.hideO a h (LD.l h')
theorem Own.of_eq {i : Nat} {p : Addr} {b : Bool} {ds : List D} (h1 : σ[i]? = some (some (V.ref p))) (h2 : δ[i]? = some (some (SE.own b ds))) : Own σ δ p := ⟨i, h1, b, ds, h2⟩
end
end DL
/-! DL2: what an expression comes to; readings made of that; operators. -/
namespace DL
open PySem PySem.Spec PyProof.Rows L2

inductive Rz where
  | val (d : D) | bor (i : Nat) | fr (ds : List D)
inductive Res where
  | ok (r : Rz) (δ : FEnv) | err (c : Nat) (d : D) (δ : FEnv) | stuck
abbrev Mz := FEnv → Res

def slotD : Option SE → Option D
  | some (.own _ ds) => some (.lst ds)
  | some (.val d) => some d
  | none => none
def view (δ : FEnv) : Rz → Option D
  | .val d => some d
  | .fr ds => some (.lst ds)
  | .bor i => (δ[i]?).bind slotD
def Res.bind (x : Res) (k : Rz → FEnv → Res) : Res :=
  match x with
  | .ok r δ => k r δ
  | .err c d δ => .err c d δ
  | .stuck => .stuck

def RAt (G : Ctx) (Hb : Hp) (O : Hid) (H : Hp) (σ : L2.St) (δ : FEnv) (v : V) : Rz → Prop
  | .val d => At G (Ob O σ δ) H d v
  | .bor i => σ[i]? = some (some v) ∧ ∃ b ds, δ[i]? = some (some (SE.own b ds))
  | .fr ds => ∃ p vs, v = .ref p ∧ H p = some (.lst vs) ∧ vs.length ≤ sizeLine ∧ Hb p = none ∧ ¬ Ob O σ δ p ∧ Ats G (Ob (Oa O p) σ δ) H ds vs ∧ St G Hb (Oa O p) H σ δ
/-- readable: its own cell may be hidden -/
def At0 (G : Ctx) (O : Hid) (H : Hp) : D → V → Prop
  | .lst ds, v => ∃ a vs, v = .ref a ∧ H a = some (.lst vs) ∧ vs.length ≤ sizeLine ∧ Ats G O H ds vs
  | d, v => At G O H d v
section
variable {G : Ctx} {Hb : Hp} {O O' : Hid} {H H1 H2 H' : Hp} {σ σ1 σ2 σ' : L2.St} {δ δ1 δ2 δ' : FEnv} {d : D} {v : V} {r : Rz}
theorem At.at0 (h : At G O H d v) : At0 G O H d v := by
  cases d with
  | lst ds =>
    unfold At at h
    obtain ⟨a, vs, e, n, h1, hl, h2⟩ := h
    exact ⟨a, vs, e, h1, hl, h2⟩
  | _ => exact h
theorem obOa {p q : Addr} (h : Ob O σ δ q) : Ob (Oa O p) σ δ q := by
  rcases h with h | h
  · exact .inl (.inl h)
  · exact .inr h
theorem St.view (S : St G Hb O H σ δ) (h : RAt G Hb O H σ δ v r) (e : view δ r = some d) : At0 G (Ob O σ δ) H d v := by
  cases r with
  | val x =>
    have e' : x = d := Option.some.inj e
    subst e'
    exact At.at0 h
  | bor i =>
    obtain ⟨h1, b, ds, h2⟩ := h
    have e' : slotD (some (SE.own b ds)) = some d := by
      have q : (δ[i]?).bind slotD = some d := e
      rw [h2] at q
      exact q
    have e2 : D.lst ds = d := Option.some.inj e'
    subst e2
    obtain ⟨p, vs, q1, q2, ql, _, _, q3⟩ := S.own i b ds h2
    rw [h1] at q1; cases q1
    exact ⟨p, vs, rfl, q2, ql, q3⟩
  | fr ds =>
    have e' : D.lst ds = d := Option.some.inj e
    subst e'
    obtain ⟨p, vs, h1, h2, hl, _, hn, h3, _⟩ := h
    exact ⟨p, vs, h1, h2, hl, h3.mv ⟨fun _ _ h _ _ => h, fun b z => .inl (obOa z)⟩⟩
/-- a value held while more happens -/
theorem St.held (S : St G Hb O H σ δ) (h : RAt G Hb O H σ δ v r) (a : Stp σ δ H σ δ' H') (S' : St G Hb O H' σ δ') (e : DL.view δ' r = some d) : At0 G (Ob O σ δ') H' d v := by
  cases r with
  | val x =>
    have e' : x = d := Option.some.inj e
    subst e'
    exact (At.mv (S.mv a) h).at0
  | bor i =>
    obtain ⟨h1, b, ds, h2⟩ := h
    have q : (δ'[i]?).bind slotD = some d := e
    cases q0 : δ'[i]? with
    | none => rw [q0] at q; cases q
    | some s =>
      rw [q0] at q
      have q : slotD s = some d := q
      match s, q with
      | some (.own b' ds'), q =>
        have e2 : D.lst ds' = d := Option.some.inj q
        subst e2
        obtain ⟨p, vs, q1, q2, ql, _, _, q3⟩ := S'.own i b' ds' q0
        rw [h1] at q1; cases q1
        exact ⟨p, vs, rfl, q2, ql, q3⟩
      | some (.val d'), q =>
        have e2 : d' = d := Option.some.inj q
        subst e2
        obtain ⟨v', q1, q2⟩ := S'.val i d' q0
        rw [h1] at q1; cases q1
        exact q2.at0
  | fr ds =>
    have e' : D.lst ds = d := Option.some.inj e
    subst e'
    obtain ⟨p, vs, h1, h2, hl, _, hn, h3, _⟩ := h
    refine ⟨p, vs, h1, a.keep _ _ h2 ntbl_lst (fun z => hn (.inr z)), hl, ?_⟩
    exact h3.mv ⟨fun b o q1 q2 q3 => a.keep b o q1 q2 fun z => q3 (.inr z), fun b z => by
      rcases z with z | z
      · exact .inl (.inl (.inl z))
      · rcases a.own b z with k | k
        · exact .inl (.inr k)
        · exact .inr k⟩
end

/-- a new list was not there -/
def Nw (H : Hp) (v : V) : Rz → Prop
  | .fr _ => ∀ p, v = .ref p → H p = none
  | _ => True
/-- what a result grants -/
def Post (G : Ctx) (W : WX) (Hb : Hp) (O : Hid) (H : Hp) (σ : L2.St) (δ : FEnv) (Q : VK) : Res → Prop
  | .ok r δ' => ∀ v H', Stp σ δ H σ δ' H' → St G Hb O H' σ δ' → RAt G Hb O H' σ δ' v r → Nw H v r → Q v H'
  | .err c d δ' => ∀ dx v H', Stp σ δ H σ δ' H' → St G Hb O H' σ δ' → At G (Ob O σ δ') H' d v → H' dx = some (.xd [("value", v)]) → W (.ref (G.cls c)) (some dx) σ H'
  | .stuck => False
/-- what an expression's reading is: from a state that stands for δ it comes to what m tells -/
def Ev (G : Ctx) (W : WX) (m : Mz) : TE := fun σ H Q => ∃ Hb O δ, St G Hb O H σ δ ∧ Post G W Hb O H σ δ Q (m δ)
abbrev W0 : WX := fun _ _ _ _ => False
theorem PE.mono {X : Cx} {e : Expr} {t t' : TE} (h : PE X e t) (k : ∀ σ H Q, t' σ H Q → t σ H Q) : PE X e t' := ⟨fun pins s σ H Q I q => h.run pins s σ H Q I (k σ H Q q)⟩
theorem PT.mono {X : Cx} {e : Expr} {t t' : TT} (h : PT X e t) (k : ∀ σ H Q, t' σ H Q → t σ H Q) : PT X e t' := ⟨fun pins s σ H Q I q => h.run pins s σ H Q I (k σ H Q q)⟩
theorem PA.mono {X : Cx} {e : List Expr} {t t' : TA} (h : PA X e t) (k : ∀ σ H Q, t' σ H Q → t σ H Q) : PA X e t' := ⟨fun pos pins s σ H Q I q => h.run pos pins s σ H Q I (k σ H Q q)⟩
theorem PK.mono {X : Cx} {e : List Keyword} {t t' : TA} (h : PK X e t) (k : ∀ σ H Q, t' σ H Q → t σ H Q) : PK X e t' := ⟨fun pos pins s σ H Q I q => h.run pos pins s σ H Q I (k σ H Q q)⟩
theorem PS.mono {X : Cx} {e : Stmt} {t t' : TS} (h : PS X e t) (k : ∀ D σ H, t' D σ H → t D σ H) : PS X e t' := ⟨fun pins s σ H D I q => h.run pins s σ H D I (k D σ H q)⟩
theorem PSs.mono {X : Cx} {e : List Stmt} {t t' : TS} (h : PSs X e t) (k : ∀ D σ H, t' D σ H → t D σ H) : PSs X e t' := ⟨fun pins s σ H D I q => h.run pins s σ H D I (k D σ H q)⟩

theorem Nw.back {H H' : Hp} {v : V} {r : Rz} (t : ∀ b, H' b = none → H b = none) (h : Nw H' v r) : Nw H v r := by
  cases r with
  | fr ds => exact fun p e => t p (h p e)
  | _ => exact True.intro
theorem Post.after {G : Ctx} {W : WX} {Hb : Hp} {O : Hid} {H H' : Hp} {σ : L2.St} {δ δ' : FEnv} {Q : VK} {x : Res} (st : Stp σ δ H σ δ' H') (h : Post G W Hb O H σ δ Q x) : Post G W Hb O H' σ δ' Q x := by
  cases x with
  | ok r δ2 => exact fun v H2 st2 S2 r2 n2 => h v H2 (st.trans st2) S2 r2 (n2.back st.trk)
  | err c d δ2 => exact fun dx v H2 st2 => h dx v H2 (st.trans st2)
  | stuck => exact h
/-- the reading of a bound computation: first m, then k -/
theorem Post.bind {G : Ctx} {W : WX} {Hb : Hp} {O : Hid} {σ : L2.St} {δ : FEnv} {x : Res} {k : Rz → FEnv → Res} {H : Hp} {Q R : VK}
    (h : Post G W Hb O H σ δ Q (x.bind k))
    (hk : ∀ r δ' v H', Stp σ δ H σ δ' H' → St G Hb O H' σ δ' → RAt G Hb O H' σ δ' v r → Nw H v r → Post G W Hb O H' σ δ' Q (k r δ') → R v H') : Post G W Hb O H σ δ R x := by
  cases x with
  | stuck => exact h
  | err c d δ' => exact h
  | ok r δ' => exact fun v H' st S' hr hn => hk r δ' v H' st S' hr hn (Post.after st h)

/-! ### what an operator makes of data -/
/-- a result made anew: the old stands -/
def RNew (G : Ctx) (O : Hid) (H H' : Hp) (v : V) : Rz → Prop
  | .val d => At G O H' d v
  | .fr ds => ∃ p vs Hm, v = .ref p ∧ Grow H Hm ∧ Hm p = none ∧ Grow Hm H' ∧ H' p = some (.lst vs) ∧ vs.length ≤ sizeLine ∧ Ats G O Hm ds vs
  | .bor _ => False
theorem St.base {G : Ctx} {Hb : Hp} {O : Hid} {H : Hp} {σ : L2.St} {δ : FEnv} (S : St G Hb O H σ δ) {p : Addr} (h : H p = none) : Hb p = none := S.trb p h
theorem St.rnew {G : Ctx} {Hb : Hp} {O : Hid} {H H' : Hp} {σ : L2.St} {δ : FEnv} {v : V} {r : Rz} (S : St G Hb O H σ δ) (a : Grow H H') (h : RNew G (Ob O σ δ) H H' v r) : RAt G Hb O H' σ δ v r := by
  cases r with
  | val d => exact h
  | bor i => exact h.elim
  | fr ds =>
    obtain ⟨p, vs, Hm, e, g1, hn, g2, hp, hl, hs⟩ := h
    have S1 := S.grow g1
    refine ⟨p, vs, e, hp, hl, S1.base hn, S1.nob hn, ?_, S1.hide g2 hn hp⟩
    refine hs.mv ⟨fun b o q _ _ => g2.keep b o q, fun b z => ?_⟩
    rcases z with (z | z) | z
    · exact .inl (.inl z)
    · subst z; exact .inr hn
    · exact .inl (.inr z)
theorem Post.new {G : Ctx} {W : WX} {Hb : Hp} {O : Hid} {H H' : Hp} {σ : L2.St} {δ : FEnv} {Q : VK} {v : V} {r : Rz} (S : St G Hb O H σ δ) (a : Grow H H') (n : RNew G (Ob O σ δ) H H' v r) (h : Post G W Hb O H σ δ Q (.ok r δ)) : Q v H' :=
  h v H' a.stp (S.grow a) (S.rnew a n) (by
    cases r with
    | fr ds =>
      obtain ⟨p, vs, Hm, e, g1, hn, _⟩ := n
      intro q e2
      rw [e] at e2; cases e2
      exact g1.trk p hn
    | _ => exact True.intro)
/-- an operator by data -/
def OpD (G : Ctx) (rr : R2) (f : D → D → Option Rz) : Prop :=
  ∀ x y r, f x y = some r → ∀ (O : Hid) (H : Hp) (vx vy : V) (Q : VK), (∀ q, O q → H q ≠ none) → At0 G O H x vx → At0 G O H y vy → (∀ v H', Grow H H' → RNew G O H H' v r → Q v H') → rr vx vy H Q
def UnD (G : Ctx) (rr : V → Hp → VK → Prop) (f : D → Option Rz) : Prop :=
  ∀ x r, f x = some r → ∀ (O : Hid) (H : Hp) (vx : V) (Q : VK), (∀ q, O q → H q ≠ none) → At0 G O H x vx → (∀ v H', Grow H H' → RNew G O H H' v r → Q v H') → rr vx H Q
def got (r : Option Rz) (δ : FEnv) : Res := match r with
  | some r => .ok r δ
  | none => .stuck
def viewB (δ : FEnv) (r : Rz) (k : D → Res) : Res := match view δ r with
  | some d => k d
  | none => .stuck
def mBin (f : D → D → Option Rz) (a b : Mz) : Mz := fun δ => (a δ).bind fun r δ1 => (b δ1).bind fun r2 δ2 => viewB δ2 r fun x => viewB δ2 r2 fun y => got (f x y) δ2
def mUn (f : D → Option Rz) (a : Mz) : Mz := fun δ => (a δ).bind fun r δ1 => viewB δ1 r fun x => got (f x) δ1
theorem Post.viewB {G : Ctx} {W : WX} {Hb : Hp} {O : Hid} {H : Hp} {σ : L2.St} {δ δ0 : FEnv} {Q : VK} {r : Rz} {k : D → Res} (h : Post G W Hb O H σ δ0 Q (viewB δ r k)) : ∃ d, view δ r = some d ∧ Post G W Hb O H σ δ0 Q (k d) := by
  unfold DL.viewB at h
  cases e : view δ r with
  | none => rw [e] at h; exact h.elim
  | some d => rw [e] at h; exact ⟨d, rfl, h⟩
theorem Post.got {G : Ctx} {W : WX} {Hb : Hp} {O : Hid} {H : Hp} {σ : L2.St} {δ δ0 : FEnv} {Q : VK} {o : Option Rz} (h : Post G W Hb O H σ δ0 Q (got o δ)) : ∃ r, o = some r ∧ Post G W Hb O H σ δ0 Q (.ok r δ) := by
  cases o with
  | none => exact h.elim
  | some r => exact ⟨r, rfl, h⟩
theorem St.tracked {G : Ctx} {Hb : Hp} {O : Hid} {H : Hp} {σ : L2.St} {δ : FEnv} (S : St G Hb O H σ δ) : ∀ q, Ob O σ δ q → H q ≠ none := fun q z e => S.nob e z
theorem ev_bin {G : Ctx} {W : WX} {rr : R2} {f : D → D → Option Rz} {a b : Mz} (op : OpD G rr f) (σ : L2.St) (H : Hp) (Q : VK) (h : Ev G W (mBin f a b) σ H Q) : tOp rr (Ev G W a) (Ev G W b) σ H Q := by
  obtain ⟨Hb, O, δ, S, h⟩ := h
  refine ⟨Hb, O, δ, S, Post.bind h fun r δ1 v H1 st1 S1 r1 n1 h1 => ?_⟩
  refine ⟨Hb, O, δ1, S1, Post.bind h1 fun r2 δ2 v2 H2 st2 S2 rr2 n2 h2 => ?_⟩
  obtain ⟨x, ex, h2⟩ := Post.viewB h2
  obtain ⟨y, ey, h2⟩ := Post.viewB h2
  obtain ⟨r3, e3, h2⟩ := Post.got h2
  exact op x y r3 e3 _ H2 v v2 Q S2.tracked (S1.held r1 st2 S2 ex) (S2.view rr2 ey) fun v' H' g n => Post.new S2 g n h2
theorem ev_un {G : Ctx} {W : WX} {rr : V → Hp → VK → Prop} {f : D → Option Rz} {a : Mz} (op : UnD G rr f) (σ : L2.St) (H : Hp) (Q : VK) (h : Ev G W (mUn f a) σ H Q) : tUn rr (Ev G W a) σ H Q := by
  obtain ⟨Hb, O, δ, S, h⟩ := h
  refine ⟨Hb, O, δ, S, Post.bind h fun r δ1 v H1 st1 S1 r1 n1 h1 => ?_⟩
  obtain ⟨x, ex, h2⟩ := Post.viewB h1
  obtain ⟨r3, e3, h2⟩ := Post.got h2
  exact op x r3 e3 _ H1 v Q S1.tracked (S1.view r1 ex) fun v' H' g n => Post.new S1 g n h2
/-! ### the plain expressions -/
def mVar (i : Nat) : Mz := fun δ => match δ[i]? with
  | some (some (.val d)) => .ok (.val d) δ
  | some (some (.own _ _)) => .ok (.bor i) δ
  | _ => .stuck
def mC (d : D) : Mz := fun δ => .ok (.val d) δ
theorem ev_var {G : Ctx} {W : WX} {i : Nat} (σ : L2.St) (H : Hp) (Q : VK) (h : Ev G W (mVar i) σ H Q) : tVar i σ H Q := by
  obtain ⟨Hb, O, δ, S, h⟩ := h
  unfold mVar at h
  match e : δ[i]?, h with
  | some (some (.val d)), h =>
    obtain ⟨v, e1, e2⟩ := S.val i d e
    exact ⟨v, e1, h v H Stp.refl S e2 True.intro⟩
  | some (some (.own b ds)), h =>
    obtain ⟨p, vs, e1, _⟩ := S.own i b ds e
    exact ⟨_, e1, h _ H Stp.refl S ⟨e1, b, ds, e⟩ True.intro⟩
theorem ev_c {G : Ctx} {W : WX} {d : D} {v : V} (hd : ∀ O H, At G O H d v) (σ : L2.St) (H : Hp) (Q : VK) (h : Ev G W (mC d) σ H Q) : tC v σ H Q := by
  obtain ⟨Hb, O, δ, S, h⟩ := h
  exact h v H Stp.refl S (hd _ _) True.intro
section
variable {X : Cx} {G : Ctx} {W : WX} {pos : Pos}
theorem be_var (i : Nat) {x : Str} (hN : X.N[i]? = some x := by rfl) (hv : Vis X.env.scope x := by first | exact Or.inl rfl | exact Or.inr (Or.inl rfl) | exact Or.inr (Or.inr rfl)) (hd : (x == ("__debug__" : Str)) = false := by decide)
    (hcd : (x == ("__classdict__" : Str)) = false := by decide) : PE X (.Name x pos) (Ev G W (mVar i)) := PE.mono (pe_var hN hv hd hcd) ev_var
theorem be_int {i : Int} {kk} : PE X (.Constant (.int i) kk pos) (Ev G W (mC (.int i))) := PE.mono pe_int (ev_c fun _ _ => by unfold At; rfl)
theorem be_str {x} {kk} : PE X (.Constant (.str x) kk pos) (Ev G W (mC (.str x))) := PE.mono pe_str (ev_c fun _ _ => by unfold At; rfl)
theorem be_non {kk} : PE X (.Constant .none kk pos) (Ev G W (mC .non)) := PE.mono pe_non (ev_c fun _ _ => by unfold At; rfl)
theorem be_bl {b : Bool} {kk} : PE X (.Constant (.bool b) kk pos) (Ev G W (mC (.bl b))) := PE.mono pe_bl (ev_c fun _ _ => by unfold At; rfl)
end
end DL
/-! DL3: the operators by data. -/
namespace DL
open PySem PySem.Spec PyProof.Rows L2

/-! ### the tools -/
theorem _root_.L2.OpR.orr {X : Cx} {f : Value → Value → Sem Value} {r r' : R2} (a : OpR X f r) (b : OpR X f r') : OpR X f (fun x y H Q => r x y H Q ∨ r' x y H Q) := fun pins s σ H x y v u Q I rx ry h =>
  h.elim (a pins s σ H x y v u Q I rx ry) (b pins s σ H x y v u Q I rx ry)
theorem _root_.L2.IxR.orr {X : Cx} {r r' : R2} (a : IxR X r) (b : IxR X r') : IxR X (fun x y H Q => r x y H Q ∨ r' x y H Q) := fun value slice pins s σ H x y v u Q I rx ry h =>
  h.elim (a value slice pins s σ H x y v u Q I rx ry) (b value slice pins s σ H x y v u Q I rx ry)
theorem _root_.L2.CallR.orr {X : Cx} {f : Value} {r r' : List V → Hp → VK → Prop} (a : CallR X f r) (b : CallR X f r') : CallR X f (fun x H Q => r x H Q ∨ r' x H Q) := fun pins s σ H xs us Q I rx h =>
  h.elim (a pins s σ H xs us Q I rx) (b pins s σ H xs us Q I rx)
theorem _root_.L2.SlR.orr {X : Cx} {r r' : V → Option Int → Option Int → Hp → VK → Prop} (a : SlR X r) (b : SlR X r') : SlR X (fun x l u H Q => r x l u H Q ∨ r' x l u H Q) := fun pins s σ H x v vl vu lo hi sl Q I rx hs pl pu h =>
  h.elim (a pins s σ H x v vl vu lo hi sl Q I rx hs pl pu) (b pins s σ H x v vl vu lo hi sl Q I rx hs pl pu)
section
variable {G : Ctx} {O : Hid} {H H' : Hp} {d : D} {v : V}
theorem OpD.orl {r r' : R2} {f : D → D → Option Rz} (a : OpD G r f) : OpD G (fun x y H Q => r x y H Q ∨ r' x y H Q) f := fun x y z e O H vx vy Q ht hx hy k => .inl (a x y z e O H vx vy Q ht hx hy k)
theorem OpD.orr {r r' : R2} {f : D → D → Option Rz} (a : OpD G r' f) : OpD G (fun x y H Q => r x y H Q ∨ r' x y H Q) f := fun x y z e O H vx vy Q ht hx hy k => .inr (a x y z e O H vx vy Q ht hx hy k)
theorem at0_int {i : Int} (h : At0 G O H (.int i) v) : v = .int i := by simpa [At0, At] using h
theorem at0_bl {i : Bool} (h : At0 G O H (.bl i) v) : v = .bl i := by simpa [At0, At] using h
theorem at0_str {i : Str} (h : At0 G O H (.str i) v) : v = .str i := by simpa [At0, At] using h
theorem at0_non (h : At0 G O H .non v) : v = .non := by simpa [At0, At] using h
theorem at_int {i : Int} : At G O H (.int i) (.int i) := by unfold At; rfl
theorem at_bl {i : Bool} : At G O H (.bl i) (.bl i) := by unfold At; rfl
theorem at_str {i : Str} : At G O H (.str i) (.str i) := by unfold At; rfl
theorem at_non : At G O H .non .non := by unfold At; rfl
theorem at0_tup {ds : List D} (h : At0 G O H (.tup ds) v) : ∃ a vs, v = .ref a ∧ ((¬ O a ∧ Rd H a (.tup vs)) ∨ KTup G.K a vs) ∧ SqT G.K H a vs ∧ vs.length ≤ sizeLine ∧ Ats G O H ds vs := by
  have h : At G O H (.tup ds) v := h
  unfold At at h
  obtain ⟨a, vs, e, h1, hl, h2⟩ := h
  refine ⟨a, vs, e, h1, ?_, hl, h2⟩
  rcases h1 with ⟨_, h1⟩ | h1
  · exact .inl h1
  · exact .inr h1
theorem at0_lst {ds : List D} (h : At0 G O H (.lst ds) v) : ∃ a vs, v = .ref a ∧ H a = some (.lst vs) ∧ SqL G.K H a vs ∧ vs.length ≤ sizeLine ∧ Ats G O H ds vs := by
  obtain ⟨a, vs, e, h1, hl, h2⟩ := h
  exact ⟨a, vs, e, h1, .inl (.inl h1), hl, h2⟩
theorem at0_scr {ns : List Int} (h : At0 G O H (.scr ns) v) : ∃ a, v = .ref a ∧ SqL G.K H a (ns.map V.int) ∧ ns.length ≤ 63 := by
  have h : At G O H (.scr ns) v := h
  unfold At at h
  obtain ⟨a, e, h1, hl⟩ := h
  exact ⟨a, e, h1.elim (fun z => .inl z.2) .inr, hl⟩
theorem nv (h : At G O H' d v) : RNew G O H H' v (.val d) := h
/-- a new tuple -/
theorem at_new {p : Addr} {ds : List D} {vs : List V} (ht : ∀ q, O q → H q ≠ none) (hp : H p = none) (hl : vs.length ≤ sizeLine) (h : Ats G O H ds vs) : At G O (upd H p (.tup vs)) (.tup ds) (.ref p) := by
  unfold At
  exact ⟨p, vs, rfl, .inl ⟨fun z => ht p z hp, .inl upd_same⟩, hl, h.mv ((Grow.new hp).mv O)⟩
theorem fr_new {p : Addr} {ds : List D} {vs : List V} (hp : H p = none) (hl : vs.length ≤ sizeLine) (h : Ats G O H ds vs) : RNew G O H (upd H p (.lst vs)) (.ref p) (.fr ds) :=
  ⟨p, vs, H, rfl, Grow.refl, hp, Grow.new hp, upd_same, hl, h⟩
end

/-! ### ints -/
def fI (g : Int → Int → Option Rz) : D → D → Option Rz
  | .int i, .int j => g i j
  | _, _ => none
theorem opI0D {G : Ctx} {g : Int → Int → V} {k : Int → Int → D} (h : ∀ i j O H, At G O H (k i j) (g i j)) : OpD G (rI0 g) (fI fun i j => some (.val (k i j))) := by
  intro x y r e O H vx vy Q ht hx hy q
  match x, y, e with
  | .int i, .int j, e =>
    obtain rfl := at0_int hx
    obtain rfl := at0_int hy
    have e2 : Rz.val (k i j) = r := Option.some.inj e
    subst e2
    exact ⟨i, j, rfl, rfl, q _ H Grow.refl (h i j O H)⟩
theorem opID {G : Ctx} {C : Int → Int → Prop} {g : Int → Int → V} {c : Int → Int → Bool} {k : Int → Int → D} (hc : ∀ i j, c i j = true → C i j) (h : ∀ i j O H, At G O H (k i j) (g i j)) :
    OpD G (rI C g) (fI fun i j => if c i j = true then some (.val (k i j)) else none) := by
  intro x y r e O H vx vy Q ht hx hy q
  match x, y, e with
  | .int i, .int j, e =>
    obtain rfl := at0_int hx
    obtain rfl := at0_int hy
    have e : (if c i j = true then some (Rz.val (k i j)) else none) = some r := e
    by_cases z : c i j = true
    · rw [if_pos z] at e
      have e2 : Rz.val (k i j) = r := Option.some.inj e
      subst e2
      exact ⟨i, j, rfl, rfl, hc i j z, q _ H Grow.refl (h i j O H)⟩
    · rw [if_neg z] at e; cases e
/-- first f, else g -/
def fOr (f g : D → D → Option Rz) : D → D → Option Rz := fun x y => match f x y with
  | some r => some r
  | none => g x y
theorem OpD.or2 {G : Ctx} {r r' : R2} {f g : D → D → Option Rz} (a : OpD G r f) (b : OpD G r' g) : OpD G (fun x y H Q => r x y H Q ∨ r' x y H Q) (fOr f g) := by
  intro x y z e O H vx vy Q ht hx hy k
  unfold fOr at e
  cases e1 : f x y with
  | some r1 =>
    rw [e1] at e
    exact .inl (a x y z (by rw [e1]; exact e) O H vx vy Q ht hx hy k)
  | none =>
    rw [e1] at e
    exact .inr (b x y z e O H vx vy Q ht hx hy k)

def fStr (g : Str → Str → Option Rz) : D → D → Option Rz
  | .str i, .str j => g i j
  | _, _ => none
def fTup (g : List D → List D → Option Rz) : D → D → Option Rz
  | .tup i, .tup j => g i j
  | _, _ => none
def fLst (g : List D → List D → Option Rz) : D → D → Option Rz
  | .lst i, .lst j => g i j
  | _, _ => none
def sz (n : Nat) : Bool := decide (n ≤ 16777216)
theorem sz_line {n : Nat} (h : sz n = true) : n ≤ sizeLine := by
  rw [sizeLine_eq]
  exact of_decide_eq_true h

abbrev rAddS : R2 := fun x y H Q => ∃ i j, x = .str i ∧ y = .str j ∧ i.length + j.length ≤ sizeLine ∧ Q (.str (i ++ j)) H
def dAdd : D → D → Option Rz := fOr (fI fun i j => some (.val (.int (i + j)))) (fOr (fStr fun x y => if sz (x.length + y.length) = true then some (.val (.str (x ++ y))) else none)
  (fOr (fLst fun x y => if sz (x.length + y.length) = true then some (.fr (x ++ y)) else none) (fTup fun x y => if sz (x.length + y.length) = true then some (.val (.tup (x ++ y))) else none)))
theorem add_s {G : Ctx} : OpD G rAddS (fStr fun x y => if sz (x.length + y.length) = true then some (.val (.str (x ++ y))) else none) := by
  intro x y r e O H vx vy Q ht hx hy q
  match x, y, e with
  | .str i, .str j, e =>
    obtain rfl := at0_str hx
    obtain rfl := at0_str hy
    have e : (if sz (i.length + j.length) = true then some (Rz.val (.str (i ++ j))) else none) = some r := e
    by_cases z : sz (i.length + j.length) = true
    · rw [if_pos z] at e
      have e2 := Option.some.inj e
      subst e2
      exact ⟨i, j, rfl, rfl, sz_line z, q _ H Grow.refl (nv at_str)⟩
    · rw [if_neg z] at e; cases e
theorem add_l {G : Ctx} : OpD G rCat (fLst fun x y => if sz (x.length + y.length) = true then some (.fr (x ++ y)) else none) := by
  intro x y r e O H vx vy Q ht hx hy q
  match x, y, e with
  | .lst i, .lst j, e =>
    obtain ⟨a, xs, rfl, ha, _, _, hs⟩ := at0_lst hx
    obtain ⟨b, ys, rfl, hb, _, _, hs'⟩ := at0_lst hy
    have e : (if sz (i.length + j.length) = true then some (Rz.fr (i ++ j)) else none) = some r := e
    by_cases z : sz (i.length + j.length) = true
    · rw [if_pos z] at e
      have e2 := Option.some.inj e
      subst e2
      have hl : xs.length + ys.length ≤ sizeLine := by rw [hs.length, hs'.length]; exact sz_line z
      exact ⟨a, b, xs, ys, rfl, rfl, ha, hb, hl, fun p hp => q _ _ (Grow.new hp) (fr_new hp (by rw [List.length_append]; exact hl) (hs.append hs'))⟩
    · rw [if_neg z] at e; cases e
theorem add_t {G : Ctx} : OpD G (rCatA G.K) (fTup fun x y => if sz (x.length + y.length) = true then some (.val (.tup (x ++ y))) else none) := by
  intro x y r e O H vx vy Q ht hx hy q
  match x, y, e with
  | .tup i, .tup j, e =>
    obtain ⟨a, xs, rfl, h1, ha, la, hs⟩ := at0_tup hx
    obtain ⟨b, ys, rfl, h2, hb, lb, hs'⟩ := at0_tup hy
    have e : (if sz (i.length + j.length) = true then some (Rz.val (.tup (i ++ j))) else none) = some r := e
    by_cases z : sz (i.length + j.length) = true
    · rw [if_pos z] at e
      have e2 := Option.some.inj e
      subst e2
      have hl : xs.length + ys.length ≤ sizeLine := by rw [hs.length, hs'.length]; exact sz_line z
      refine ⟨a, b, xs, ys, rfl, rfl, ha, hb, hl, fun z0 => ?_, fun _ z0 => ?_, fun _ _ p hp => ?_⟩
      · subst z0
        have : i = [] := List.eq_nil_of_length_eq_zero (by rw [← hs.length]; rfl)
        subst this
        exact q _ H Grow.refl (nv hy)
      · subst z0
        have : j = [] := List.eq_nil_of_length_eq_zero (by rw [← hs'.length]; rfl)
        subst this
        rw [List.append_nil] at q
        exact q _ H Grow.refl (nv hx)
      · exact q _ _ (Grow.new hp) (nv <| at_new ht hp (by rw [List.length_append]; exact hl) (hs.append hs'))
    · rw [if_neg z] at e; cases e
abbrev rAdd (K : PySem.W.Frag) : R2 := fun x y H Q => rI0 (fun i j => .int (i + j)) x y H Q ∨ (rAddS x y H Q ∨ (rCat x y H Q ∨ rCatA K x y H Q))
theorem od_add {G : Ctx} : OpD G (rAdd G.K) dAdd := (opI0D fun _ _ _ _ => at_int).or2 (add_s.or2 (add_l.or2 add_t))
theorem or_add {X : Cx} : OpR X (binaryOp .Add) (rAdd X.K) := op_add.orr (op_add_str.orr (op_cat.orr op_catA))

def dSub : D → D → Option Rz := fI fun i j => some (.val (.int (i - j)))
theorem od_sub {G : Ctx} : OpD G (rI0 fun i j => .int (i - j)) dSub := opI0D fun _ _ _ _ => at_int

/-- may two ints be multiplied, an int be divided, raised -/
def mulOk (i j : Int) : Bool := decide (i.natAbs.log2 + j.natAbs.log2 < 1000000)
def divOk (j : Int) : Bool := decide (0 < j) && decide (j.natAbs.log2 < 9000)
def powOk (i j : Int) : Bool := decide (0 ≤ j) && decide (((i.natAbs.log2 + 1 : Nat) : Int) * j ≤ 134217728)
def repL (n : Nat) (ds : List D) : List D := (List.replicate n ds).flatten
def dMul : D → D → Option Rz := fOr (fI fun i j => if mulOk i j = true then some (.val (.int (i * j))) else none) fun x y => match x, y with
  | .lst ds, .int k => if sz (ds.length * k.toNat) = true ∧ k < 9223372036854775808 ∧ -9223372036854775808 ≤ k then some (.fr (repL k.toNat ds)) else none
  | _, _ => none
theorem Ats.rept {G : Ctx} {O : Hid} {H : Hp} {ds : List D} {vs : List V} (h : Ats G O H ds vs) : ∀ n : Nat, Ats G O H (repL n ds) (List.replicate n vs).flatten
  | 0 => Ats.nil
  | n + 1 => by
    unfold repL
    rw [List.replicate_succ, List.replicate_succ, List.flatten_cons, List.flatten_cons]
    exact h.append (Ats.rept h n)
theorem len_rept {α : Type} (l : List α) : ∀ n : Nat, (List.replicate n l).flatten.length = l.length * n
  | 0 => rfl
  | n + 1 => by
    rw [List.replicate_succ, List.flatten_cons, List.length_append, len_rept l n, Nat.mul_succ, Nat.add_comm]
theorem mul_l {G : Ctx} : OpD G rRep (fun x y => match x, y with
  | .lst ds, .int k => if sz (ds.length * k.toNat) = true ∧ k < 9223372036854775808 ∧ -9223372036854775808 ≤ k then some (.fr (repL k.toNat ds)) else none
  | _, _ => none) := by
  intro x y r e O H vx vy Q ht hx hy q
  match x, y, e with
  | .lst i, .int k, e =>
    obtain ⟨a, xs, rfl, ha, _, _, hs⟩ := at0_lst hx
    obtain rfl := at0_int hy
    have e : (if sz (i.length * k.toNat) = true ∧ k < 9223372036854775808 ∧ -9223372036854775808 ≤ k then some (Rz.fr (repL k.toNat i)) else none) = some r := e
    by_cases z : sz (i.length * k.toNat) = true ∧ k < 9223372036854775808 ∧ -9223372036854775808 ≤ k
    · rw [if_pos z] at e
      have e2 := Option.some.inj e
      subst e2
      obtain ⟨z1, z2, z3⟩ := z
      have hl : xs.length * k.toNat ≤ sizeLine := by rw [hs.length]; exact sz_line z1
      exact ⟨a, k, xs, rfl, rfl, ha, by omega, by omega, hl, fun p hp => q _ _ (Grow.new hp) (fr_new hp (by rw [len_rept]; exact hl) (hs.rept _))⟩
    · rw [if_neg z] at e; cases e
abbrev rMul : R2 := fun x y H Q => rI CMulW (fun i j => .int (i * j)) x y H Q ∨ rRep x y H Q
theorem od_mul {G : Ctx} : OpD G rMul dMul := (opID (c := mulOk) (fun i j z => by
  have z2 : i.natAbs.log2 + j.natAbs.log2 < 1000000 := of_decide_eq_true z
  exact z2) fun _ _ _ _ => at_int).or2 mul_l
theorem or_mul {X : Cx} : OpR X (binaryOp .Mult) rMul := op_mulW.orr op_rep
def dFdv : D → D → Option Rz := fI fun i j => if divOk j = true then some (.val (.int (i / j))) else none
theorem od_fdv {G : Ctx} : OpD G (rI CDivW fun i j => .int (i / j)) dFdv := opID (c := fun _ j => divOk j) (fun i j z => by
  have z : divOk j = true := z
  unfold divOk at z
  rw [Bool.and_eq_true] at z
  exact ⟨of_decide_eq_true z.1, of_decide_eq_true z.2⟩) fun _ _ _ _ => at_int
def dMod : D → D → Option Rz := fI fun i j => if decide (0 < j) = true then some (.val (.int (i % j))) else none
theorem od_mod {G : Ctx} : OpD G (rI (fun _ j => 0 < j) fun i j => .int (i % j)) dMod := opID (c := fun _ j => decide (0 < j)) (fun i j z => of_decide_eq_true z) fun _ _ _ _ => at_int
def dPow : D → D → Option Rz := fI fun i j => if powOk i j = true then some (.val (.int (i ^ j.toNat))) else none
def CPowW (i j : Int) : Prop := 0 ≤ j ∧ (Builtin.Int.intBits i : Int) * j ≤ 2 ^ 27
theorem op_powW {X : Cx} : OpR X (binaryOp .Pow) (rI CPowW fun i j => .int (i ^ j.toNat)) := opI fun _ _ _ _ _ _ _ hc q => pow_int hc.1 hc.2 q
theorem od_pow {G : Ctx} : OpD G (rI CPowW fun i j => .int (i ^ j.toNat)) dPow := opID (c := powOk) (fun i j z => by
  unfold powOk at z
  rw [Bool.and_eq_true] at z
  have z1 := of_decide_eq_true z.1
  have z2 := of_decide_eq_true z.2
  refine ⟨z1, ?_⟩
  have b : Builtin.Int.intBits i ≤ i.natAbs.log2 + 1 := by
    unfold Builtin.Int.intBits
    split <;> omega
  have b2 : (Builtin.Int.intBits i : Int) ≤ ((i.natAbs.log2 + 1 : Nat) : Int) := by omega
  have := Int.mul_le_mul_of_nonneg_right b2 z1
  omega) fun _ _ _ _ => at_int

/-! ### comparisons -/
def cI (g : Int → Int → Bool) : D → D → Option Rz := fI fun i j => some (.val (.bl (g i j)))
theorem od_cI {G : Ctx} {g : Int → Int → Bool} : OpD G (rI0 fun i j => .bl (g i j)) (cI g) := opI0D fun _ _ _ _ => at_bl
def dLt := cI fun i j => decide (i < j)
def dLe := cI fun i j => decide (i ≤ j)
def dGt := cI fun i j => decide (j < i)
def dGe := cI fun i j => decide (j ≤ i)

mutual
/-- as the library's data, where it is such -/
def py : D → Option PyData
  | .non => some .none
  | .bl b => some (.bool b)
  | .int i => some (.int i)
  | .str x => some (.str x)
  | .tup ds => (pys ds).map .tuple
  | .lst ds => (pys ds).map .list
  | .scr _ => none
  | .dct _ => none
  | .ins _ _ => none
def pys : List D → Option (List PyData)
  | [] => some []
  | d :: ds => (py d).bind fun p => (pys ds).map fun ps => p :: ps
end
mutual
theorem at_dp {G : Ctx} {O : Hid} {H : Hp} : ∀ {d : D} {v : V} {p : PyData}, At G O H d v → py d = some p → Dp G.K H v p
  | .non, v, p, h, e => by
    unfold At at h; unfold py at e
    subst h; cases e; exact .non
  | .bl b, v, p, h, e => by
    unfold At at h; unfold py at e
    subst h; cases e; exact .bl b
  | .int b, v, p, h, e => by
    unfold At at h; unfold py at e
    subst h; cases e; exact .int b
  | .str b, v, p, h, e => by
    unfold At at h; unfold py at e
    subst h; cases e; exact .str b
  | .tup ds, v, p, h, e => by
    unfold At at h; unfold py at e
    obtain ⟨a, vs, rfl, h1, hl, h2⟩ := h
    obtain ⟨ps, e1, rfl⟩ := Option.map_eq_some_iff.mp e
    refine .tup ?_ (ats_dp h2 e1)
    rcases h1 with ⟨_, h1⟩ | h1
    · exact .inl h1
    · exact .inr h1
  | .lst ds, v, p, h, e => by
    unfold At at h; unfold py at e
    obtain ⟨a, vs, rfl, n, h1, hl, h2⟩ := h
    obtain ⟨ps, e1, rfl⟩ := Option.map_eq_some_iff.mp e
    exact .lst (.inl (.inl h1)) (ats_dp h2 e1)
  | .scr _, v, p, h, e => by unfold py at e; cases e
  | .dct _, v, p, h, e => by unfold py at e; cases e
  | .ins _ _, v, p, h, e => by unfold py at e; cases e
theorem ats_dp {G : Ctx} {O : Hid} {H : Hp} : ∀ {ds : List D} {vs : List V} {ps : List PyData}, Ats G O H ds vs → pys ds = some ps → DpAll G.K H vs ps
  | [], vs, ps, h, e => by
    unfold Ats at h; unfold pys at e
    subst h; cases e; exact .nil
  | d :: ds, vs, ps, h, e => by
    unfold Ats at h; unfold pys at e
    obtain ⟨v, ws, rfl, h1, h2⟩ := h
    obtain ⟨p, e1, e⟩ := Option.bind_eq_some_iff.mp e
    obtain ⟨qs, e2, rfl⟩ := Option.map_eq_some_iff.mp e
    exact .cons (at_dp h1 e1) (ats_dp h2 e2)
end
theorem at0_dp {G : Ctx} {O : Hid} {H : Hp} {d : D} {v : V} {p : PyData} (h : At0 G O H d v) (e : py d = some p) : Dp G.K H v p := by
  cases d with
  | lst ds =>
    obtain ⟨a, vs, rfl, h1, _, hl, h2⟩ := at0_lst h
    unfold py at e
    obtain ⟨ps, e1, rfl⟩ := Option.map_eq_some_iff.mp e
    exact .lst (.inl (.inl h1)) (ats_dp h2 e1)
  | _ => exact at_dp (show At G O H _ v from h) e
def eqD (x y : D) : Option Bool :=
  match x, y with
  | .str a, .str b => some (decide (a = b))
  | _, _ => match py x, py y with
    | some p, some q => if SeqAt.shaped p = true ∧ SeqAt.shaped q = true then some (PyData.eqv p q) else none
    | _, _ => none
def dEq : D → D → Option Rz := fun x y => (eqD x y).map fun b => .val (.bl b)
def dNe : D → D → Option Rz := fun x y => (eqD x y).map fun b => .val (.bl (!b))
theorem eqD_cases {x y : D} {b : Bool} (e : eqD x y = some b) : (∃ s t, x = .str s ∧ y = .str t ∧ b = decide (s = t)) ∨ ∃ p q, py x = some p ∧ py y = some q ∧ SeqAt.shaped p = true ∧ SeqAt.shaped q = true ∧ b = PyData.eqv p q := by
  unfold eqD at e
  split at e
  · exact .inl ⟨_, _, rfl, rfl, (Option.some.inj e).symm⟩
  · split at e
    · rename_i p q e1 e2
      split at e
      · rename_i h
        exact .inr ⟨p, q, e1, e2, h.1, h.2, (Option.some.inj e).symm⟩
      · cases e
    · cases e
theorem dec_strV {a b : Str} : decide (V.str a = V.str b) = decide (a = b) := by
  by_cases e : a = b
  · subst e; simp
  · rw [decide_eq_false e, decide_eq_false fun z => e (V.str.inj z)]
abbrev rEqA (K : PySem.W.Frag) : R2 := fun x y H Q => rEq x y H Q ∨ rEqD K x y H Q
abbrev rNeA (K : PySem.W.Frag) : R2 := fun x y H Q => rNe x y H Q ∨ rNeD K x y H Q
theorem od_eq {G : Ctx} : OpD G (rEqA G.K) dEq := by
  intro x y r e O H vx vy Q ht hx hy q
  obtain ⟨b, e1, rfl⟩ := Option.map_eq_some_iff.mp e
  rcases eqD_cases e1 with ⟨s, t, rfl, rfl, rfl⟩ | ⟨p, p', h1, h2, h3, h4, rfl⟩
  · obtain rfl := at0_str hx
    obtain rfl := at0_str hy
    refine .inl ⟨rfl, ?_⟩
    rw [dec_strV]
    exact q _ H Grow.refl (nv at_bl)
  · exact .inr ⟨p, p', at0_dp hx h1, at0_dp hy h2, h3, h4, q _ H Grow.refl (nv at_bl)⟩
theorem od_ne {G : Ctx} : OpD G (rNeA G.K) dNe := by
  intro x y r e O H vx vy Q ht hx hy q
  obtain ⟨b, e1, rfl⟩ := Option.map_eq_some_iff.mp e
  rcases eqD_cases e1 with ⟨s, t, rfl, rfl, rfl⟩ | ⟨p, p', h1, h2, h3, h4, rfl⟩
  · obtain rfl := at0_str hx
    obtain rfl := at0_str hy
    refine .inl ⟨rfl, ?_⟩
    rw [dec_strV]
    exact q _ H Grow.refl (nv at_bl)
  · exact .inr ⟨p, p', at0_dp hx h1, at0_dp hy h2, h3, h4, q _ H Grow.refl (nv at_bl)⟩
theorem or_eq {X : Cx} (hu : X.A.units + 64 < cLine) : OpR X (compareOp .Eq) (rEqA X.K) := op_eq.orr (op_eqD hu)
theorem or_ne {X : Cx} (hu : X.A.units + 64 < cLine) : OpR X (compareOp .NotEq) (rNeA X.K) := op_ne.orr (op_neD hu)
end DL
/-! DL4: tests, choices, displays, arguments. -/
namespace DL
open PySem PySem.Spec PyProof.Rows L2

/-! ### tests and choices -/
def boolB (r : Rz) (k : Bool → Res) : Res := match r with
  | .val (.bl b) => k b
  | _ => .stuck
def mIf (c a b : Mz) : Mz := fun δ => (c δ).bind fun r δ1 => boolB r fun t => if t = true then a δ1 else b δ1
def mAnd (a b : Mz) : Mz := fun δ => (a δ).bind fun r δ1 => boolB r fun t => if t = true then b δ1 else .ok (.val (.bl false)) δ1
def mOr (a b : Mz) : Mz := fun δ => (a δ).bind fun r δ1 => boolB r fun t => if t = true then .ok (.val (.bl true)) δ1 else b δ1
def mNot (a : Mz) : Mz := fun δ => (a δ).bind fun r δ1 => boolB r fun t => .ok (.val (.bl (!t))) δ1
/-- a op1 b op2 c -/
def mChain (f g : D → D → Option Rz) (a b c : Mz) : Mz := fun δ => (a δ).bind fun r δ1 => (b δ1).bind fun r2 δ2 => viewB δ2 r fun x => viewB δ2 r2 fun y => (got (f x y) δ2).bind fun z δ3 => boolB z fun t =>
  if t = true then (c δ3).bind fun r3 δ4 => viewB δ4 r2 fun y' => viewB δ4 r3 fun w => got (g y' w) δ4 else .ok (.val (.bl false)) δ3
/-- a test's reading -/
abbrev EvT (G : Ctx) (W : WX) (m : Mz) : TT := tB (Ev G W m)
section
variable {G : Ctx} {W : WX} {Hb : Hp} {O : Hid} {H : Hp} {σ : L2.St} {δ δ0 : FEnv} {Q : VK}
theorem Post.boolB {r : Rz} {k : Bool → Res} {v : V} (hr : RAt G Hb O H σ δ v r) (h : Post G W Hb O H σ δ0 Q (boolB r k)) : ∃ b, v = .bl b ∧ Post G W Hb O H σ δ0 Q (k b) := by
  cases r with
  | bor i => exact False.elim h
  | fr ds => exact False.elim h
  | val d =>
    cases d with
    | bl b =>
      have hr : At G (Ob O σ δ) H (.bl b) v := hr
      unfold At at hr
      exact ⟨b, hr, h⟩
    | _ => exact False.elim h
theorem ev_if {c a b : Mz} (σ : L2.St) (H : Hp) (Q : VK) (h : Ev G W (mIf c a b) σ H Q) : tIf (EvT G W c) (Ev G W a) (Ev G W b) σ H Q := by
  obtain ⟨Hb, O, δ, S, h⟩ := h
  refine ⟨Hb, O, δ, S, Post.bind h fun r δ1 v H1 st1 S1 r1 n1 h1 => ?_⟩
  obtain ⟨t, e, h1⟩ := Post.boolB r1 h1
  refine ⟨t, e, ?_⟩
  cases t with
  | true => exact ⟨Hb, O, δ1, S1, h1⟩
  | false => exact ⟨Hb, O, δ1, S1, h1⟩
theorem ev_and {a b : Mz} (σ : L2.St) (H : Hp) (Q : VK) (h : Ev G W (mAnd a b) σ H Q) : tAndV (Ev G W a) (Ev G W b) σ H Q := by
  obtain ⟨Hb, O, δ, S, h⟩ := h
  refine ⟨Hb, O, δ, S, Post.bind h fun r δ1 v H1 st1 S1 r1 n1 h1 => ?_⟩
  obtain ⟨t, e, h1⟩ := Post.boolB r1 h1
  refine ⟨t, e, ?_⟩
  cases t with
  | true => exact ⟨Hb, O, δ1, S1, h1⟩
  | false => exact h1 _ H1 Stp.refl S1 (show At _ _ _ _ _ from at_bl) True.intro
theorem ev_or {a b : Mz} (σ : L2.St) (H : Hp) (Q : VK) (h : Ev G W (mOr a b) σ H Q) : tOrV (Ev G W a) (Ev G W b) σ H Q := by
  obtain ⟨Hb, O, δ, S, h⟩ := h
  refine ⟨Hb, O, δ, S, Post.bind h fun r δ1 v H1 st1 S1 r1 n1 h1 => ?_⟩
  obtain ⟨t, e, h1⟩ := Post.boolB r1 h1
  refine ⟨t, e, ?_⟩
  cases t with
  | true => exact h1 _ H1 Stp.refl S1 (show At _ _ _ _ _ from at_bl) True.intro
  | false => exact ⟨Hb, O, δ1, S1, h1⟩
theorem ev_not {a : Mz} (σ : L2.St) (H : Hp) (Q : VK) (h : Ev G W (mNot a) σ H Q) : tNotV (Ev G W a) σ H Q := by
  obtain ⟨Hb, O, δ, S, h⟩ := h
  refine ⟨Hb, O, δ, S, Post.bind h fun r δ1 v H1 st1 S1 r1 n1 h1 => ?_⟩
  obtain ⟨t, e, h1⟩ := Post.boolB r1 h1
  exact ⟨t, e, h1 _ H1 Stp.refl S1 (show At _ _ _ _ _ from at_bl) True.intro⟩
/-- the same as tests -/
theorem et_and {a b : Mz} (σ : L2.St) (H : Hp) (Q : Bool → Hp → Prop) (h : EvT G W (mAnd a b) σ H Q) : tAnd (EvT G W a) (EvT G W b) σ H Q := by
  obtain ⟨Hb, O, δ, S, h⟩ := h
  refine ⟨Hb, O, δ, S, Post.bind h fun r δ1 v H1 st1 S1 r1 n1 h1 => ?_⟩
  obtain ⟨t, e, h1⟩ := Post.boolB r1 h1
  refine ⟨t, e, ?_⟩
  cases t with
  | true => exact ⟨Hb, O, δ1, S1, h1⟩
  | false =>
    obtain ⟨c, ec, q⟩ := h1 _ H1 Stp.refl S1 (show At _ _ _ _ _ from at_bl) True.intro
    cases ec
    exact q
theorem et_or {a b : Mz} (σ : L2.St) (H : Hp) (Q : Bool → Hp → Prop) (h : EvT G W (mOr a b) σ H Q) : tOr (EvT G W a) (EvT G W b) σ H Q := by
  obtain ⟨Hb, O, δ, S, h⟩ := h
  refine ⟨Hb, O, δ, S, Post.bind h fun r δ1 v H1 st1 S1 r1 n1 h1 => ?_⟩
  obtain ⟨t, e, h1⟩ := Post.boolB r1 h1
  refine ⟨t, e, ?_⟩
  cases t with
  | true =>
    obtain ⟨c, ec, q⟩ := h1 _ H1 Stp.refl S1 (show At _ _ _ _ _ from at_bl) True.intro
    cases ec
    exact q
  | false => exact ⟨Hb, O, δ1, S1, h1⟩
theorem et_not {a : Mz} (σ : L2.St) (H : Hp) (Q : Bool → Hp → Prop) (h : EvT G W (mNot a) σ H Q) : tNot (EvT G W a) σ H Q := by
  obtain ⟨Hb, O, δ, S, h⟩ := h
  refine ⟨Hb, O, δ, S, Post.bind h fun r δ1 v H1 st1 S1 r1 n1 h1 => ?_⟩
  obtain ⟨t, e, h1⟩ := Post.boolB r1 h1
  refine ⟨t, e, ?_⟩
  obtain ⟨c, ec, q⟩ := h1 _ H1 Stp.refl S1 (show At _ _ _ _ _ from at_bl) True.intro
  cases ec
  exact q
theorem ev_chain {f g : D → D → Option Rz} {rr rr' : R2} {a b c : Mz} (op : OpD G rr f) (op' : OpD G rr' g) (σ : L2.St) (H : Hp) (Q : VK) (h : Ev G W (mChain f g a b c) σ H Q) : tChain rr rr' (Ev G W a) (Ev G W b) (Ev G W c) σ H Q := by
  obtain ⟨Hb, O, δ, S, h⟩ := h
  refine ⟨Hb, O, δ, S, Post.bind h fun r δ1 v H1 st1 S1 r1 n1 h1 => ?_⟩
  refine ⟨Hb, O, δ1, S1, Post.bind h1 fun r2 δ2 v2 H2 st2 S2 rr2 n2 h2 => ?_⟩
  obtain ⟨x, ex, h2⟩ := Post.viewB h2
  obtain ⟨y, ey, h2⟩ := Post.viewB h2
  cases e3 : f x y with
  | none => rw [e3] at h2; exact h2.elim
  | some z =>
    rw [e3] at h2
    refine op x y z e3 _ H2 v v2 _ S2.tracked (S1.held r1 st2 S2 ex) (S2.view rr2 ey) fun v' H3 g3 n => ?_
    have S3 := S2.grow g3
    have rz := S2.rnew g3 n
    have h3 := Post.after (G := G) (W := W) (Hb := Hb) (O := O) (Q := Q) (st := (g3.stp : Stp σ δ2 H2 σ δ2 H3)) h2
    obtain ⟨t, e, h3⟩ := Post.boolB rz h3
    refine ⟨t, e, ?_⟩
    cases t with
    | false => exact h3 _ H3 Stp.refl S3 (show At _ _ _ _ _ from at_bl) True.intro
    | true =>
      refine ⟨Hb, O, δ2, S3, Post.bind h3 fun r4 δ4 v4 H4 st4 S4 rr4 n4 h4 => ?_⟩
      obtain ⟨y', ey', h4⟩ := Post.viewB h4
      obtain ⟨w, ew, h4⟩ := Post.viewB h4
      obtain ⟨r5, e5, h4⟩ := Post.got h4
      exact op' y' w r5 e5 _ H4 v2 v4 Q S4.tracked (S2.held rr2 (g3.stp.trans st4) S4 ey') (S4.view rr4 ew) fun v' H' g n => Post.new S4 g n h4
end

/-! ### arguments -/
inductive ResA where
  | ok (rs : List Rz) (δ : FEnv) | err (c : Nat) (d : D) (δ : FEnv) | stuck
def Res.bindA (x : Res) (k : Rz → FEnv → ResA) : ResA := match x with
  | .ok r δ => k r δ
  | .err c d δ => .err c d δ
  | .stuck => .stuck
def ResA.bindA (x : ResA) (k : List Rz → FEnv → ResA) : ResA := match x with
  | .ok r δ => k r δ
  | .err c d δ => .err c d δ
  | .stuck => .stuck
def ResA.bind (x : ResA) (k : List Rz → FEnv → Res) : Res := match x with
  | .ok r δ => k r δ
  | .err c d δ => .err c d δ
  | .stuck => .stuck
/-- a value that is held: a new list is no longer anybody's alone, a borrowed one may have been given away -/
def normS (i : Nat) : Option (Option SE) → Option Rz
  | some (some (.val d)) => some (.val d)
  | some (some (.own _ _)) => some (.bor i)
  | _ => none
def norm (δ : FEnv) : Rz → Option Rz
  | .fr ds => some (.val (.lst ds))
  | .val d => some (.val d)
  | .bor i => normS i δ[i]?
def ResA.cons (δ : FEnv) (r : Option Rz) (rs : List Rz) : ResA := match r with
  | some r => .ok (r :: rs) δ
  | none => .stuck
def mArgs : List Mz → FEnv → ResA
  | [], δ => .ok [] δ
  | m :: ms, δ => (m δ).bindA fun r δ1 => (mArgs ms δ1).bindA fun rs δ2 => ResA.cons δ2 (norm δ2 r) rs
def RAts (G : Ctx) (Hb : Hp) (O : Hid) (H : Hp) (σ : L2.St) (δ : FEnv) : List V → List Rz → Prop
  | [], [] => True
  | v :: vs, r :: rs => RAt G Hb O H σ δ v r ∧ RAts G Hb O H σ δ vs rs
  | _, _ => False
def PostA (G : Ctx) (W : WX) (Hb : Hp) (O : Hid) (H : Hp) (σ : L2.St) (δ : FEnv) (Q : List V → Hp → Prop) : ResA → Prop
  | .ok rs δ' => ∀ vs H', Stp σ δ H σ δ' H' → St G Hb O H' σ δ' → RAts G Hb O H' σ δ' vs rs → Q vs H'
  | .err c d δ' => ∀ dx v H', Stp σ δ H σ δ' H' → St G Hb O H' σ δ' → At G (Ob O σ δ') H' d v → H' dx = some (.xd [("value", v)]) → W (.ref (G.cls c)) (some dx) σ H'
  | .stuck => False
def EvA (G : Ctx) (W : WX) (ms : List Mz) : TA := fun σ H Q => ∃ Hb O δ, St G Hb O H σ δ ∧ PostA G W Hb O H σ δ Q (mArgs ms δ)
section
variable {G : Ctx} {W : WX} {Hb : Hp} {O : Hid} {H H1 H' : Hp} {σ : L2.St} {δ δ0 δ1 δ' : FEnv} {Q : VK} {r : Rz} {v : V}
theorem St.norm {r' : Rz} (S : St G Hb O H σ δ) (h : RAt G Hb O H σ δ v r) (a : Stp σ δ H σ δ' H') (S' : St G Hb O H' σ δ') (e : norm δ' r = some r') : RAt G Hb O H' σ δ' v r' := by
  cases r with
  | val d =>
    cases Option.some.inj e
    exact At.mv (S.mv a) h
  | fr ds =>
    cases Option.some.inj e
    have q : At0 G (Ob O σ δ') H' (.lst ds) v := S.held h a S' rfl
    obtain ⟨p, vs, e, h2, hl, hb, hn, h3, _⟩ := h
    obtain ⟨p', vs', e', q1, q2, q3⟩ := q
    rw [e] at e'
    cases e'
    show At G (Ob O σ δ') H' (.lst ds) v
    unfold At
    exact ⟨p, vs', e, fun z => hn (by
      rcases z with z | z
      · exact .inl z
      · rcases a.own _ z with k | k
        · exact .inr k
        · rw [h2] at k; cases k), q1, q2, q3⟩
  | bor i =>
    obtain ⟨h1, b, ds, h2⟩ := h
    have e : normS i δ'[i]? = some r' := e
    match e1 : δ'[i]?, e with
    | some (some (.val d)), e =>
      cases Option.some.inj e
      obtain ⟨v', q1, q2⟩ := S'.val i d e1
      rw [h1] at q1; cases q1
      exact q2
    | some (some (.own b' ds')), e =>
      cases Option.some.inj e
      exact ⟨h1, b', ds', e1⟩
end
end DL
/-! DL5: giving away, arguments, displays, subscripts, slices, built-ins. -/
namespace DL
open PySem PySem.Spec PyProof.Rows L2
section
variable {G : Ctx} {W : WX} {Hb : Hp} {O : Hid} {H H1 H' : Hp} {σ : L2.St} {δ δ0 δ1 δ' : FEnv} {Q : VK} {r : Rz} {v : V} {d : D}
/-- an own list is given away: it is nobody's alone from now on -/
theorem St.release {i : Nat} {ds : List D} (S : St G Hb O H σ δ) (h : δ[i]? = some (some (SE.own false ds))) :
    St G Hb O H σ (δ.set i (some (.val (.lst ds)))) ∧ Stp σ δ H σ (δ.set i (some (.val (.lst ds)))) H ∧ ∃ p, σ[i]? = some (some (V.ref p)) ∧ At G (Ob O σ (δ.set i (some (.val (.lst ds))))) H (.lst ds) (.ref p) := by
  obtain ⟨p, vs, e1, hp, hl, hb, ho, hs⟩ := S.own i false ds h
  have hi : i < δ.length := (List.getElem?_eq_some_iff.mp h).1
  have gi : (δ.set i (some (.val (.lst ds))))[i]? = some (some (SE.val (.lst ds))) := by rw [List.getElem?_set_self hi]
  have gn : ∀ j, j ≠ i → (δ.set i (some (.val (.lst ds))))[j]? = δ[j]? := fun j hj => by rw [List.getElem?_set_ne (Ne.symm hj)]
  have sub : ∀ j q, OwnAt σ (δ.set i (some (.val (.lst ds)))) j q → OwnAt σ δ j q ∧ j ≠ i := fun j q ⟨a, b, es, c⟩ => by
    by_cases hj : j = i
    · subst hj; rw [gi] at c; cases c
    · rw [gn j hj] at c; exact ⟨⟨a, b, es, c⟩, hj⟩
  have sb : ∀ q, Ob O σ (δ.set i (some (.val (.lst ds)))) q → Ob O σ δ q := fun q z => by
    rcases z with z | ⟨j, z⟩
    · exact .inl z
    · exact .inr ⟨j, (sub j q z).1⟩
  have mv : Mv (Ob O σ δ) H (Ob O σ (δ.set i (some (.val (.lst ds))))) H := ⟨fun _ _ h _ _ => h, fun b z => .inl (sb b z)⟩
  have np : ¬ Ob O σ (δ.set i (some (.val (.lst ds)))) p := fun z => by
    rcases z with z | ⟨j, z⟩
    · exact ho z
    · obtain ⟨z1, z2⟩ := sub j p z
      exact z2 (S.inj j i p z1 ⟨e1, false, ds, h⟩)
  have hat : At G (Ob O σ (δ.set i (some (.val (.lst ds))))) H (.lst ds) (.ref p) := by
    unfold At
    exact ⟨p, vs, rfl, np, hp, hl, hs.mv mv⟩
  refine ⟨⟨by rw [List.length_set]; exact S.len, S.tb, S.trb, S.hid, fun j d' e => ?_, fun j b es e => ?_, fun j k q a b => S.inj j k q (sub j q a).1 (sub k q b).1⟩,
    ⟨fun _ _ h _ _ => h, fun q ⟨j, z⟩ => .inl ⟨j, (sub j q z).1⟩, fun _ h => h, fun j ⟨es, hj⟩ => ⟨⟨es, by rw [gn j (fun z => by subst z; rw [h] at hj; cases hj)]; exact hj⟩, rfl⟩⟩, p, e1, hat⟩
  · by_cases hj : j = i
    · subst hj; rw [gi] at e; cases e
      exact ⟨_, e1, hat⟩
    · rw [gn j hj] at e
      obtain ⟨v, a, b⟩ := S.val j d' e
      exact ⟨v, a, b.mv mv⟩
  · by_cases hj : j = i
    · subst hj; rw [gi] at e; cases e
    · rw [gn j hj] at e
      obtain ⟨p', vs', a1, a2, a3, a4, a5, a6⟩ := S.own j b es e
      exact ⟨p', vs', a1, a2, a3, a4, a5, a6.mv mv⟩
def giveS (i : Nat) (δ : FEnv) : Option (Option SE) → Option (D × FEnv)
  | some (some (.val d)) => some (d, δ)
  | some (some (.own false ds)) => some (.lst ds, δ.set i (some (.val (.lst ds))))
  | _ => none
def give (δ : FEnv) : Rz → Option (D × FEnv)
  | .val d => some (d, δ)
  | .fr ds => some (.lst ds, δ)
  | .bor i => giveS i δ δ[i]?
def giveAll : List Rz → FEnv → Option (List D × FEnv)
  | [], δ => some ([], δ)
  | r :: rs, δ => (give δ r).bind fun x => (giveAll rs x.2).map fun y => (x.1 :: y.1, y.2)
/-- weakly: what is borrowed is told by its slot alone -/
def WAt (G : Ctx) (Hb : Hp) (O : Hid) (H : Hp) (σ : L2.St) (δ : FEnv) (v : V) : Rz → Prop
  | .val d => At G (Ob O σ δ) H d v
  | .bor i => σ[i]? = some (some v)
  | .fr ds => RAt G Hb O H σ δ v (.fr ds)
theorem RAt.w (h : RAt G Hb O H σ δ v r) : WAt G Hb O H σ δ v r := by
  cases r with
  | val d => exact h
  | bor i => exact h.1
  | fr ds => exact h
theorem St.give (S : St G Hb O H σ δ) (h : WAt G Hb O H σ δ v r) (e : give δ r = some (d, δ')) : St G Hb O H σ δ' ∧ Stp σ δ H σ δ' H ∧ At G (Ob O σ δ') H d v := by
  cases r with
  | val x => cases Option.some.inj e; exact ⟨S, Stp.refl, h⟩
  | fr ds =>
    cases Option.some.inj e
    exact ⟨S, Stp.refl, S.norm (r := .fr ds) h Stp.refl S rfl⟩
  | bor i =>
    have e : giveS i δ δ[i]? = some (d, δ') := e
    have h : σ[i]? = some (some v) := h
    match e1 : δ[i]?, e with
    | some (some (.val x)), e =>
      obtain ⟨v', q1, q2⟩ := S.val i x e1
      cases Option.some.inj e
      rw [h] at q1; cases q1
      exact ⟨S, Stp.refl, q2⟩
    | some (some (.own false ds)), e =>
      cases Option.some.inj e
      obtain ⟨S', st, p, q1, q2⟩ := S.release e1
      rw [h] at q1; cases q1
      exact ⟨S', st, q2⟩
theorem WAt.rel (S : St G Hb O H σ δ) (h : WAt G Hb O H σ δ v r) (st : Stp σ δ H σ δ' H) (S' : St G Hb O H σ δ') (n : ∀ ds, r ≠ .fr ds) : WAt G Hb O H σ δ' v r := by
  cases r with
  | val x => exact At.mv (S.mv st) h
  | fr ds => exact absurd rfl (n ds)
  | bor i => exact h
/-- all of some (none of which is a new list) -/
def WAts (G : Ctx) (Hb : Hp) (O : Hid) (H : Hp) (σ : L2.St) (δ : FEnv) : List V → List Rz → Prop
  | [], [] => True
  | v :: vs, r :: rs => (WAt G Hb O H σ δ v r ∧ ∀ ds, r ≠ .fr ds) ∧ WAts G Hb O H σ δ vs rs
  | _, _ => False
theorem WAts.rel (S : St G Hb O H σ δ) (st : Stp σ δ H σ δ' H) (S' : St G Hb O H σ δ') : ∀ {vs : List V} {rs : List Rz}, WAts G Hb O H σ δ vs rs → WAts G Hb O H σ δ' vs rs
  | [], [], h => h
  | v :: vs, r :: rs, h => ⟨⟨h.1.1.rel S st S' h.1.2, h.1.2⟩, WAts.rel S st S' h.2⟩
  | [], _ :: _, h => h.elim
  | _ :: _, [], h => h.elim
theorem St.giveAll : ∀ {rs : List Rz} {vs : List V} {δ δ' : FEnv} {ds : List D} (S : St G Hb O H σ δ) (h : WAts G Hb O H σ δ vs rs) (e : giveAll rs δ = some (ds, δ')), St G Hb O H σ δ' ∧ Stp σ δ H σ δ' H ∧ Ats G (Ob O σ δ') H ds vs
  | [], [], _, _, _, S, _, e => by cases Option.some.inj e; exact ⟨S, Stp.refl, Ats.nil⟩
  | [], _ :: _, _, _, _, S, h, e => h.elim
  | _ :: _, [], _, _, _, S, h, e => h.elim
  | r :: rs, v :: vs, δ, δ', ds, S, h, e => by
    unfold DL.giveAll at e
    obtain ⟨⟨d, δ1⟩, e1, e⟩ := Option.bind_eq_some_iff.mp e
    obtain ⟨⟨es, δ2⟩, e2, e⟩ := Option.map_eq_some_iff.mp e
    cases e
    obtain ⟨S1, st1, a1⟩ := S.give h.1.1 e1
    obtain ⟨S2, st2, a2⟩ := St.giveAll S1 (h.2.rel S st1 S1) e2
    exact ⟨S2, st1.trans st2, Ats.cons (a1.mv (S1.mv st2)) a2⟩
theorem norm_nf {r' : Rz} (e : norm δ r = some r') : ∀ ds, r' ≠ .fr ds := fun ds z => by
  subst z
  cases r with
  | val d => cases e
  | fr ds => cases e
  | bor i =>
    have e : normS i δ[i]? = some (.fr ds) := e
    match δ[i]?, e with
    | some (some (.val x)), e => cases e
    | some (some (.own _ _)), e => cases e
/-- the arguments that were told, none a new list -/
def Nf (rs : List Rz) : Prop := ∀ r ∈ rs, ∀ ds, r ≠ .fr ds
theorem RAts.wats : ∀ {vs : List V} {rs : List Rz}, RAts G Hb O H σ δ vs rs → Nf rs → WAts G Hb O H σ δ vs rs
  | [], [], _, _ => True.intro
  | v :: vs, r :: rs, h, n => ⟨⟨h.1.w, n r List.mem_cons_self⟩, RAts.wats h.2 fun r' h' => n r' (List.mem_cons_of_mem _ h')⟩
  | [], _ :: _, h, _ => h.elim
  | _ :: _, [], h, _ => h.elim
end
section
variable {G : Ctx} {W : WX}
theorem nf_args : ∀ {ms : List Mz} {δ δ' : FEnv} {rs : List Rz}, mArgs ms δ = .ok rs δ' → Nf rs
  | [], δ, δ', rs, e => by
    unfold mArgs at e
    cases e
    exact fun r h => absurd h (by simp)
  | m :: ms, δ, δ', rs, e => by
    unfold mArgs at e
    cases e1 : m δ with
    | err c d δ1 => rw [e1] at e; cases e
    | stuck => rw [e1] at e; cases e
    | ok r δ1 =>
      rw [e1] at e
      have e : (mArgs ms δ1).bindA (fun rs δ2 => ResA.cons δ2 (norm δ2 r) rs) = .ok rs δ' := e
      cases e2 : mArgs ms δ1 with
      | err c d δ1 => rw [e2] at e; cases e
      | stuck => rw [e2] at e; cases e
      | ok rs2 δ2 =>
        rw [e2] at e
        have e : ResA.cons δ2 (norm δ2 r) rs2 = .ok rs δ' := e
        cases e3 : norm δ2 r with
        | none => rw [e3] at e; cases e
        | some r' =>
          rw [e3] at e
          cases e
          intro r0 h
          rcases List.mem_cons.mp h with h | h
          · subst h; exact norm_nf e3
          · exact nf_args e2 r0 h
theorem ea_nil (σ : L2.St) (H : Hp) (Q : List V → Hp → Prop) (h : EvA G W [] σ H Q) : tNil σ H Q := by
  obtain ⟨Hb, O, δ, S, h⟩ := h
  exact h [] H Stp.refl S True.intro
theorem PostA.after {Hb : Hp} {O : Hid} {H H' : Hp} {σ : L2.St} {δ δ' : FEnv} {Q : List V → Hp → Prop} {x : ResA} (st : Stp σ δ H σ δ' H') (h : PostA G W Hb O H σ δ Q x) : PostA G W Hb O H' σ δ' Q x := by
  cases x with
  | ok r δ2 => exact fun v H2 st2 => h v H2 (st.trans st2)
  | err c d δ2 => exact fun dx v H2 st2 => h dx v H2 (st.trans st2)
  | stuck => exact h
theorem PostA.bind1 {Hb : Hp} {O : Hid} {σ : L2.St} {δ : FEnv} {x : Res} {k : Rz → FEnv → ResA} {H : Hp} {Q : List V → Hp → Prop} {R : VK}
    (h : PostA G W Hb O H σ δ Q (x.bindA k))
    (hk : ∀ r δ' v H', Stp σ δ H σ δ' H' → St G Hb O H' σ δ' → RAt G Hb O H' σ δ' v r → PostA G W Hb O H' σ δ' Q (k r δ') → R v H') : Post G W Hb O H σ δ R x := by
  cases x with
  | stuck => exact h
  | err c d δ' => exact h
  | ok r δ' => exact fun v H' st S' hr _ => hk r δ' v H' st S' hr (PostA.after st h)
theorem PostA.bindA {Hb : Hp} {O : Hid} {σ : L2.St} {δ : FEnv} {x : ResA} {k : List Rz → FEnv → ResA} {H : Hp} {Q R : List V → Hp → Prop}
    (h : PostA G W Hb O H σ δ Q (x.bindA k))
    (hk : ∀ r δ' v H', Stp σ δ H σ δ' H' → St G Hb O H' σ δ' → RAts G Hb O H' σ δ' v r → PostA G W Hb O H' σ δ' Q (k r δ') → R v H') : PostA G W Hb O H σ δ R x := by
  cases x with
  | stuck => exact h
  | err c d δ' => exact h
  | ok r δ' => exact fun v H' st S' hr => hk r δ' v H' st S' hr (PostA.after st h)
theorem ea_cons {m : Mz} {ms : List Mz} (σ : L2.St) (H : Hp) (Q : List V → Hp → Prop) (h : EvA G W (m :: ms) σ H Q) : tCons (Ev G W m) (EvA G W ms) σ H Q := by
  obtain ⟨Hb, O, δ, S, h⟩ := h
  unfold mArgs at h
  refine ⟨Hb, O, δ, S, PostA.bind1 h fun r δ1 v H1 st1 S1 r1 h1 => ?_⟩
  refine ⟨Hb, O, δ1, S1, PostA.bindA h1 fun rs δ2 vs H2 st2 S2 r2 h2 => ?_⟩
  cases e : norm δ2 r with
  | none => rw [e] at h2; exact h2.elim
  | some r' =>
    rw [e] at h2
    exact h2 (v :: vs) H2 Stp.refl S2 ⟨S1.norm r1 st2 S2 e, r2⟩
/-- what comes behind the arguments -/
theorem PostA.of {Hb : Hp} {O : Hid} {σ : L2.St} {δ : FEnv} {x : ResA} {k : List Rz → FEnv → Res} {H : Hp} {Q : VK} {R : List V → Hp → Prop}
    (h : Post G W Hb O H σ δ Q (x.bind k))
    (hk : ∀ r δ' v H', x = .ok r δ' → Stp σ δ H σ δ' H' → St G Hb O H' σ δ' → RAts G Hb O H' σ δ' v r → Post G W Hb O H' σ δ' Q (k r δ') → R v H') : PostA G W Hb O H σ δ R x := by
  cases x with
  | stuck => exact h
  | err c d δ' => exact h
  | ok r δ' => exact fun v H' st S' hr => hk r δ' v H' rfl st S' hr (Post.after st h)

/-! ### displays -/
def gaveB (x : Option (List D × FEnv)) (k : List D → FEnv → Res) : Res := match x with
  | some y => k y.1 y.2
  | none => .stuck
def mTup (ms : List Mz) : Mz := fun δ => (mArgs ms δ).bind fun rs δ1 => gaveB (giveAll rs δ1) fun ds δ2 => if sz ds.length = true then .ok (.val (.tup ds)) δ2 else .stuck
def mLst (ms : List Mz) : Mz := fun δ => (mArgs ms δ).bind fun rs δ1 => gaveB (giveAll rs δ1) fun ds δ2 => if sz ds.length = true then .ok (.fr ds) δ2 else .stuck
theorem Post.gaveB {Hb : Hp} {O : Hid} {H : Hp} {σ : L2.St} {δ0 : FEnv} {Q : VK} {x : Option (List D × FEnv)} {k : List D → FEnv → Res} (h : Post G W Hb O H σ δ0 Q (gaveB x k)) : ∃ ds δ', x = some (ds, δ') ∧ Post G W Hb O H σ δ0 Q (k ds δ') := by
  cases x with
  | none => exact h.elim
  | some y => exact ⟨y.1, y.2, rfl, h⟩
theorem Post.ite {Hb : Hp} {O : Hid} {H : Hp} {σ : L2.St} {δ0 : FEnv} {Q : VK} {c : Prop} [Decidable c] {x : Res} (h : Post G W Hb O H σ δ0 Q (if c then x else .stuck)) : c ∧ Post G W Hb O H σ δ0 Q x := by
  by_cases z : c
  · rw [if_pos z] at h; exact ⟨z, h⟩
  · rw [if_neg z] at h; exact h.elim
theorem ev_tup {ms : List Mz} (σ : L2.St) (H : Hp) (Q : VK) (h : Ev G W (mTup ms) σ H Q) : tTup (EvA G W ms) σ H Q := by
  obtain ⟨Hb, O, δ, S, h⟩ := h
  refine ⟨Hb, O, δ, S, PostA.of h fun rs δ1 vs H1 ex st1 S1 r1 h1 => ?_⟩
  obtain ⟨ds, δ2, e2, h2⟩ := Post.gaveB h1
  obtain ⟨hz, h2⟩ := Post.ite h2
  obtain ⟨S2, st2, a2⟩ := S1.giveAll (r1.wats (nf_args ex)) e2
  have hl : vs.length ≤ sizeLine := by rw [a2.length]; exact sz_line hz
  refine ⟨hl, fun p hp => ?_⟩
  exact Post.new S2 (Grow.new hp) (nv (at_new S2.tracked hp hl a2)) (Post.after st2 h2)
theorem ev_lst {ms : List Mz} (σ : L2.St) (H : Hp) (Q : VK) (h : Ev G W (mLst ms) σ H Q) : tLst (EvA G W ms) σ H Q := by
  obtain ⟨Hb, O, δ, S, h⟩ := h
  refine ⟨Hb, O, δ, S, PostA.of h fun rs δ1 vs H1 ex st1 S1 r1 h1 => ?_⟩
  obtain ⟨ds, δ2, e2, h2⟩ := Post.gaveB h1
  obtain ⟨hz, h2⟩ := Post.ite h2
  obtain ⟨S2, st2, a2⟩ := S1.giveAll (r1.wats (nf_args ex)) e2
  have hl : vs.length ≤ sizeLine := by rw [a2.length]; exact sz_line hz
  refine ⟨hl, fun p hp => ?_⟩
  exact Post.new S2 (Grow.new hp) (fr_new hp hl a2) (Post.after st2 h2)

/-! ### built-ins by data -/
def At0s (G : Ctx) (O : Hid) (H : Hp) : List D → List V → Prop
  | [], vs => vs = []
  | d :: ds, vs => ∃ v ws, vs = v :: ws ∧ At0 G O H d v ∧ At0s G O H ds ws
def views (δ : FEnv) : List Rz → Option (List D)
  | [] => some []
  | r :: rs => (view δ r).bind fun d => (views δ rs).map fun ds => d :: ds
theorem St.views {Hb : Hp} {O : Hid} {H : Hp} {σ : L2.St} {δ : FEnv} (S : St G Hb O H σ δ) : ∀ {vs : List V} {rs : List Rz} {ds : List D}, RAts G Hb O H σ δ vs rs → views δ rs = some ds → At0s G (Ob O σ δ) H ds vs
  | [], [], ds, _, e => by cases Option.some.inj e; exact rfl
  | v :: vs, r :: rs, ds, h, e => by
    unfold DL.views at e
    obtain ⟨d, e1, e⟩ := Option.bind_eq_some_iff.mp e
    obtain ⟨es, e2, e⟩ := Option.map_eq_some_iff.mp e
    subst e
    exact ⟨v, vs, rfl, S.view h.1 e1, St.views S h.2 e2⟩
  | [], _ :: _, _, h, _ => h.elim
  | _ :: _, [], _, h, _ => h.elim
def CallD (G : Ctx) (rr : List V → Hp → VK → Prop) (f : List D → Option Rz) : Prop :=
  ∀ xs r, f xs = some r → ∀ (O : Hid) (H : Hp) (vs : List V) (Q : VK), (∀ q, O q → H q ≠ none) → At0s G O H xs vs → (∀ v H', Grow H H' → RNew G O H H' v r → Q v H') → rr vs H Q
def viewsB (δ : FEnv) (rs : List Rz) (k : List D → Res) : Res := match views δ rs with
  | some ds => k ds
  | none => .stuck
theorem Post.viewsB {Hb : Hp} {O : Hid} {H : Hp} {σ : L2.St} {δ δ0 : FEnv} {Q : VK} {r : List Rz} {k : List D → Res} (h : Post G W Hb O H σ δ0 Q (viewsB δ r k)) : ∃ d, views δ r = some d ∧ Post G W Hb O H σ δ0 Q (k d) := by
  unfold DL.viewsB at h
  cases e : DL.views δ r with
  | none => rw [e] at h; exact h.elim
  | some d => rw [e] at h; exact ⟨d, rfl, h⟩
def mCB (f : List D → Option Rz) (ms : List Mz) : Mz := fun δ => (mArgs ms δ).bind fun rs δ1 => viewsB δ1 rs fun ds => got (f ds) δ1
theorem ev_cb {rr : List V → Hp → VK → Prop} {f : List D → Option Rz} {ms : List Mz} (op : CallD G rr f) (σ : L2.St) (H : Hp) (Q : VK) (h : Ev G W (mCB f ms) σ H Q) : tCB rr (EvA G W ms) σ H Q := by
  obtain ⟨Hb, O, δ, S, h⟩ := h
  refine ⟨Hb, O, δ, S, PostA.of h fun rs δ1 vs H1 ex st1 S1 r1 h1 => ?_⟩
  obtain ⟨ds, e2, h2⟩ := Post.viewsB h1
  obtain ⟨r, e3, h3⟩ := Post.got h2
  exact op ds r e3 _ H1 vs Q S1.tracked (S1.views r1 e2) fun v H' g n => Post.new S1 g n h3
end
end DL
/-! DL6: subscripts, slices, membership, built-ins. -/
namespace DL
open PySem PySem.Spec PyProof.Rows L2
/-! ### the end of a test on data -/
theorem at0s_nil {G : Ctx} {O : Hid} {H : Hp} {vs : List V} (h : At0s G O H [] vs) : vs = [] := h
theorem at0s_one {G : Ctx} {O : Hid} {H : Hp} {d : D} {vs : List V} (h : At0s G O H [d] vs) : ∃ v, vs = [v] ∧ At0 G O H d v := by
  obtain ⟨v, ws, e, h1, h2⟩ := h
  have h2 : ws = [] := h2
  subst h2
  exact ⟨v, e, h1⟩
theorem at0s_two {G : Ctx} {O : Hid} {H : Hp} {d e : D} {vs : List V} (h : At0s G O H [d, e] vs) : ∃ v w, vs = [v, w] ∧ At0 G O H d v ∧ At0 G O H e w := by
  obtain ⟨v, ws, e, h1, w, us, e2, h2, h3⟩ := h
  have h3 : us = [] := h3
  subst h3 e2
  exact ⟨v, w, e, h1, h2⟩

/-! ### xs[i] -/
def dIx : D → D → Option Rz
  | .tup ds, .int i => (atI ds i).map .val
  | .lst ds, .int i => (atI ds i).map .val
  | .scr ns, .int i => (atI ns i).map fun n => .val (.int n)
  | .str x, .int i => if sz x.length = true then (atI x.cps.toList i).map fun c => .val (.str ⟨#[c]⟩) else none
  | _, _ => none
theorem Ats.atI {G : Ctx} {O : Hid} {H : Hp} {ds : List D} {vs : List V} {i : Int} {d : D} (h : Ats G O H ds vs) (e : L2.atI ds i = some d) : ∃ v, L2.atI vs i = some v ∧ At G O H d v := by
  unfold L2.atI at e ⊢
  rw [h.length]
  obtain ⟨j, e1, e2⟩ := Option.bind_eq_some_iff.mp e
  obtain ⟨v, q1, q2⟩ := h.get e2
  exact ⟨v, by rw [e1]; exact q1, q2⟩
theorem atI_map {α β : Type} (f : α → β) {xs : List α} {i : Int} : atI (xs.map f) i = (atI xs i).map f := by
  unfold atI
  rw [List.length_map]
  cases ixN xs.length i with
  | none => rfl
  | some j => show (xs.map f)[j]? = (xs[j]?).map f; rw [List.getElem?_map]
theorem od_ix {G : Ctx} : OpD G (rIx G.K) dIx := by
  intro x y r e O H vx vy Q ht hx hy q
  match x, y, e with
  | .tup ds, .int i, e =>
    obtain ⟨a, vs, rfl, h1, h2, hl, hs⟩ := at0_tup hx
    obtain rfl := at0_int hy
    obtain ⟨d, e1, rfl⟩ := Option.map_eq_some_iff.mp e
    obtain ⟨v, q1, q2⟩ := hs.atI e1
    exact .inr (.inl ⟨a, vs, i, v, rfl, rfl, h2, q1, q v H Grow.refl (nv q2)⟩)
  | .lst ds, .int i, e =>
    obtain ⟨a, vs, rfl, h1, h2, hl, hs⟩ := at0_lst hx
    obtain rfl := at0_int hy
    obtain ⟨d, e1, rfl⟩ := Option.map_eq_some_iff.mp e
    obtain ⟨v, q1, q2⟩ := hs.atI e1
    exact .inl ⟨a, vs, i, v, rfl, rfl, h2, q1, q v H Grow.refl (nv q2)⟩
  | .scr ns, .int i, e =>
    obtain ⟨a, rfl, h2, hl⟩ := at0_scr hx
    obtain rfl := at0_int hy
    obtain ⟨d, e1, rfl⟩ := Option.map_eq_some_iff.mp e
    exact .inl ⟨a, _, i, .int d, rfl, rfl, h2, by rw [atI_map, e1]; rfl, q _ H Grow.refl (nv at_int)⟩
  | .str s, .int i, e =>
    obtain rfl := at0_str hx
    obtain rfl := at0_int hy
    have e : (if sz s.length = true then (atI s.cps.toList i).map fun c => Rz.val (.str ⟨#[c]⟩) else none) = some r := e
    by_cases z : sz s.length = true
    · rw [if_pos z] at e
      obtain ⟨c, e1, rfl⟩ := Option.map_eq_some_iff.mp e
      exact .inr (.inr ⟨s, i, c, rfl, rfl, sz_line z, e1, q _ H Grow.refl (nv at_str)⟩)
    · rw [if_neg z] at e; cases e

/-! ### xs[lo:hi] -/
def cutD {α : Type} (xs : List α) (lo hi : Option Int) : List α := (xs.drop (HT.sIx xs.length 0 lo)).take (HT.sIx xs.length xs.length hi - HT.sIx xs.length 0 lo)
theorem Ats.cut {G : Ctx} {O : Hid} {H : Hp} {ds : List D} {vs : List V} (h : Ats G O H ds vs) (lo hi : Option Int) : Ats G O H (cutD ds lo hi) (cutV vs lo hi) := by
  unfold cutD cutV
  rw [h.length]
  exact (h.drop _).take _
def dSl : D → Option Int → Option Int → Option Rz
  | .tup ds, lo, hi => some (.val (.tup (cutD ds lo hi)))
  | .lst ds, lo, hi => some (.fr (cutD ds lo hi))
  | .scr ns, lo, hi => some (.fr ((cutD ns lo hi).map .int))
  | .str x, lo, hi => if sz x.length = true then some (.val (.str (cutS x lo hi))) else none
  | _, _, _ => none
abbrev rSl (K : PySem.W.Frag) : V → Option Int → Option Int → Hp → VK → Prop := fun x lo hi H Q => rSlL K x lo hi H Q ∨ (rSlA K x lo hi H Q ∨ rSlS x lo hi H Q)
theorem or_sl {X : Cx} : SlR X (rSl X.K) := sl_list.orr (sl_tupA.orr sl_str)
theorem cut_all {α : Type} {xs : List α} {lo hi : Option Int} (h : HT.sIx xs.length 0 lo = 0 ∧ HT.sIx xs.length xs.length hi = xs.length) : cutD xs lo hi = xs := by
  unfold cutD
  rw [h.1, h.2]
  simp
theorem cut_map {α β : Type} (f : α → β) (xs : List α) (lo hi : Option Int) : cutD (xs.map f) lo hi = (cutD xs lo hi).map f := by
  unfold cutD
  rw [List.length_map, List.map_take, List.map_drop]
theorem sl_d {G : Ctx} {x : D} {lo hi : Option Int} {r : Rz} (e : dSl x lo hi = some r) {O : Hid} {H : Hp} {vx : V} {Q : VK} (ht : ∀ q, O q → H q ≠ none) (hx : At0 G O H x vx)
    (q : ∀ v H', Grow H H' → RNew G O H H' v r → Q v H') : rSl G.K vx lo hi H Q := by
  match x, e with
  | .tup ds, e =>
    obtain ⟨a, vs, rfl, h1, h2, hl, hs⟩ := at0_tup hx
    cases Option.some.inj e
    refine .inr (.inl ⟨a, vs, rfl, h2, fun z => ?_, fun _ p hp => ?_⟩)
    · have ez : cutD ds lo hi = ds := cut_all (by rw [hs.length] at z; exact z)
      rw [ez] at q
      exact q _ H Grow.refl (nv hx)
    · have hc := hs.cut lo hi
      exact q _ _ (Grow.new hp) (nv (at_new ht hp (Nat.le_trans (cutV_length _ _ _) hl) hc))
  | .lst ds, e =>
    obtain ⟨a, vs, rfl, h1, h2, hl, hs⟩ := at0_lst hx
    cases Option.some.inj e
    exact .inl ⟨a, vs, rfl, h2, fun p hp => q _ _ (Grow.new hp) (fr_new hp (Nat.le_trans (cutV_length _ _ _) hl) (hs.cut lo hi))⟩
  | .scr ns, e =>
    obtain ⟨a, rfl, h2, hl⟩ := at0_scr hx
    cases Option.some.inj e
    refine .inl ⟨a, _, rfl, h2, fun p hp => q _ _ (Grow.new hp) (fr_new hp ?_ ?_)⟩
    · refine Nat.le_trans (cutV_length _ _ _) ?_
      rw [List.length_map, sizeLine_eq]; omega
    · rw [show cutV (ns.map V.int) lo hi = (cutD ns lo hi).map V.int from cut_map V.int ns lo hi]
      exact Ats.of_ints _
  | .str s, e =>
    obtain rfl := at0_str hx
    have e : (if sz s.length = true then some (Rz.val (.str (cutS s lo hi))) else none) = some r := e
    by_cases z : sz s.length = true
    · rw [if_pos z] at e
      cases Option.some.inj e
      exact .inr (.inr ⟨s, rfl, sz_line z, q _ H Grow.refl (nv at_str)⟩)
    · rw [if_neg z] at e; cases e
def intB (r : Rz) (k : Int → Res) : Res := match r with
  | .val (.int i) => k i
  | _ => .stuck
/-- a part of a slice, perhaps left out -/
def mPart (m : Option Mz) (k : Option Int → FEnv → Res) : FEnv → Res := fun δ => match m with
  | none => k none δ
  | some m => (m δ).bind fun r δ1 => intB r fun i => k (some i) δ1
def mSl (a : Mz) (lo hi : Option Mz) : Mz := fun δ => (a δ).bind fun r δ1 => mPart lo (fun l => mPart hi fun u δ3 => viewB δ3 r fun x => got (dSl x l u) δ3) δ1
def EvO (G : Ctx) (W : WX) : Option Mz → TO
  | none => tNoPart
  | some m => tPart (Ev G W m)
theorem Post.intB {G : Ctx} {W : WX} {Hb : Hp} {O : Hid} {H : Hp} {σ : L2.St} {δ δ0 : FEnv} {Q : VK} {r : Rz} {k : Int → Res} {v : V} (hr : RAt G Hb O H σ δ v r) (h : Post G W Hb O H σ δ0 Q (intB r k)) : ∃ b, v = .int b ∧ Post G W Hb O H σ δ0 Q (k b) := by
  cases r with
  | bor i => exact False.elim h
  | fr ds => exact False.elim h
  | val d =>
    cases d with
    | int b =>
      have hr : At G (Ob O σ δ) H (.int b) v := hr
      unfold At at hr
      exact ⟨b, hr, h⟩
    | _ => exact False.elim h
theorem Post.part {G : Ctx} {W : WX} {Hb : Hp} {O : Hid} {H : Hp} {σ : L2.St} {δ : FEnv} {Q : VK} {m : Option Mz} {k : Option Int → FEnv → Res} {R : Option Int → Hp → Prop} (S : St G Hb O H σ δ) (h : Post G W Hb O H σ δ Q (mPart m k δ))
    (hk : ∀ o δ' H', Stp σ δ H σ δ' H' → St G Hb O H' σ δ' → Post G W Hb O H' σ δ' Q (k o δ') → R o H') : EvO G W m σ H R := by
  cases m with
  | none => exact hk none δ H Stp.refl S h
  | some m =>
    refine ⟨Hb, O, δ, S, Post.bind h fun r δ1 v H1 st1 S1 r1 n1 h1 => ?_⟩
    obtain ⟨i, e, h1⟩ := Post.intB r1 h1
    exact ⟨i, e, hk (some i) δ1 H1 st1 S1 h1⟩
theorem ev_sl {G : Ctx} {W : WX} {a : Mz} {lo hi : Option Mz} (σ : L2.St) (H : Hp) (Q : VK) (h : Ev G W (mSl a lo hi) σ H Q) : tSl (rSl G.K) (Ev G W a) (EvO G W lo) (EvO G W hi) σ H Q := by
  obtain ⟨Hb, O, δ, S, h⟩ := h
  refine ⟨Hb, O, δ, S, Post.bind h fun r δ1 v H1 st1 S1 r1 n1 h1 => ?_⟩
  refine Post.part S1 h1 fun l δ2 H2 st2 S2 h2 => ?_
  refine Post.part S2 h2 fun u δ3 H3 st3 S3 h3 => ?_
  obtain ⟨x, ex, h4⟩ := Post.viewB h3
  obtain ⟨r5, e5, h5⟩ := Post.got h4
  exact sl_d e5 S3.tracked (S1.held r1 (st2.trans st3) S3 ex) fun v' H' g n => Post.new S3 g n h5

/-! ### built-ins -/
def d1 (f : D → Option Rz) : List D → Option Rz
  | [x] => f x
  | _ => none
def d2 (f : D → D → Option Rz) : List D → Option Rz
  | [x, y] => f x y
  | _ => none
theorem d1_some {f : D → Option Rz} {xs : List D} {r : Rz} (e : d1 f xs = some r) : ∃ x, xs = [x] ∧ f x = some r := by
  match xs, e with
  | [x], e => exact ⟨x, rfl, e⟩
theorem d2_some {f : D → D → Option Rz} {xs : List D} {r : Rz} (e : d2 f xs = some r) : ∃ x y, xs = [x, y] ∧ f x y = some r := by
  match xs, e with
  | [x, y], e => exact ⟨x, y, rfl, e⟩
def dLen : D → Option Rz
  | .tup ds => some (.val (.int ds.length))
  | .lst ds => some (.val (.int ds.length))
  | .scr ns => some (.val (.int ns.length))
  | .str x => if sz x.length = true then some (.val (.int x.length)) else none
  | _ => none
abbrev rLen (K : PySem.W.Frag) : List V → Hp → VK → Prop := fun xs H Q => (∃ p ys, xs = [.ref p] ∧ (SqL K H p ys ∨ SqT K H p ys) ∧ Q (.int ys.length) H) ∨ (∃ z, xs = [.str z] ∧ z.length ≤ sizeLine ∧ Q (.int z.length) H)
theorem cr_len {X : Cx} : CallR X (.builtin "len") (rLen X.K) := call_len_seq.orr call_len_str
theorem cd_len {G : Ctx} : CallD G (rLen G.K) (d1 dLen) := by
  intro xs r e O H vs Q ht h q
  obtain ⟨x, rfl, e⟩ := d1_some e
  obtain ⟨v, rfl, hx⟩ := at0s_one h
  match x, e with
  | .tup ds, e =>
    obtain ⟨a, vs, rfl, h1, h2, hl, hs⟩ := at0_tup hx
    cases Option.some.inj e
    refine .inl ⟨a, vs, rfl, .inr h2, ?_⟩
    rw [hs.length]; exact q _ H Grow.refl (nv at_int)
  | .lst ds, e =>
    obtain ⟨a, vs, rfl, h1, h2, hl, hs⟩ := at0_lst hx
    cases Option.some.inj e
    refine .inl ⟨a, vs, rfl, .inl h2, ?_⟩
    rw [hs.length]; exact q _ H Grow.refl (nv at_int)
  | .scr ns, e =>
    obtain ⟨a, rfl, h2, hl⟩ := at0_scr hx
    cases Option.some.inj e
    refine .inl ⟨a, _, rfl, .inl h2, ?_⟩
    rw [List.length_map]; exact q _ H Grow.refl (nv at_int)
  | .str s, e =>
    obtain rfl := at0_str hx
    have e : (if sz s.length = true then some (Rz.val (.int s.length)) else none) = some r := e
    by_cases z : sz s.length = true
    · rw [if_pos z] at e
      cases Option.some.inj e
      exact .inr ⟨s, rfl, sz_line z, q _ H Grow.refl (nv at_int)⟩
    · rw [if_neg z] at e; cases e
/-- the intsD of some data -/
def intsD : List D → Option (List Int)
  | [] => some []
  | .int i :: ds => (intsD ds).map fun ns => i :: ns
  | _ :: _ => none
theorem intsD_eq : ∀ {ds : List D} {ns : List Int}, intsD ds = some ns → ds = ns.map D.int
  | [], ns, e => by cases Option.some.inj e; rfl
  | .int i :: ds, ns, e => by
    obtain ⟨ms, e1, e2⟩ := Option.map_eq_some_iff.mp e
    subst e2
    rw [intsD_eq e1]
    rfl
theorem intsD_map : ∀ ns : List Int, intsD (ns.map D.int) = some ns
  | [] => rfl
  | n :: ns => by
    show (intsD (ns.map D.int)).map (fun ms => n :: ms) = some (n :: ns)
    rw [intsD_map ns]; rfl
def boolsD : List D → Option (List Bool)
  | [] => some []
  | .bl i :: ds => (boolsD ds).map fun ns => i :: ns
  | _ :: _ => none
theorem bools_eq : ∀ {ds : List D} {ns : List Bool}, boolsD ds = some ns → ds = ns.map D.bl
  | [], ns, e => by cases Option.some.inj e; rfl
  | .bl i :: ds, ns, e => by
    obtain ⟨ms, e1, e2⟩ := Option.map_eq_some_iff.mp e
    subst e2
    rw [bools_eq e1]
    rfl
theorem bools_map : ∀ ns : List Bool, boolsD (ns.map D.bl) = some ns
  | [] => rfl
  | n :: ns => by
    show (boolsD (ns.map D.bl)).map (fun ms => n :: ms) = some (n :: ns)
    rw [bools_map ns]; rfl
theorem Ats.bools {G : Ctx} {O : Hid} {H : Hp} : ∀ {ns : List Bool} {vs : List V}, Ats G O H (ns.map D.bl) vs → vs = ns.map V.bl
  | [], _, h => by unfold Ats at h; exact h
  | n :: ns, vs, h => by
    rw [List.map_cons] at h
    unfold Ats at h
    obtain ⟨v, us, rfl, h1, h2⟩ := h
    unfold At at h1
    rw [h1, Ats.bools h2]
    rfl
/-- any list or tuple, to be read -/
def seqD : D → Option (List D)
  | .tup ds => some ds
  | .lst ds => some ds
  | .scr ns => some (ns.map .int)
  | _ => none
/-- sum(list), also of a tuple of intsD -/
def dSum (x : D) : Option Rz := match x with
  | .lst ds => (intsD ds).map fun ns => .val (.int ns.sum)
  | .scr ns => some (.val (.int ns.sum))
  | _ => none
theorem cd_sum {G : Ctx} : CallD G (rSum G.K) (d1 dSum) := by
  intro xs r e O H vs Q ht h q
  obtain ⟨x, rfl, e⟩ := d1_some e
  obtain ⟨v, rfl, hx⟩ := at0s_one h
  match x, e with
  | .lst ds, e =>
    obtain ⟨ns, e1, e2⟩ := Option.map_eq_some_iff.mp e
    cases e2
    have e1 := intsD_eq e1
    subst e1
    obtain ⟨a, vs, rfl, h1, h2, hl, hs⟩ := at0_lst hx
    rw [hs.ints] at h2
    exact ⟨a, ns, rfl, h2, q _ H Grow.refl (nv at_int)⟩
  | .scr ns, e =>
    obtain ⟨a, rfl, h2, hl⟩ := at0_scr hx
    cases Option.some.inj e
    exact ⟨a, ns, rfl, h2, q _ H Grow.refl (nv at_int)⟩
/-- sum of a tuple of ints -/
def dSumT : D → Option Rz
  | .tup ds => (intsD ds).map fun ns => .val (.int ns.sum)
  | _ => none
def rSumT (K : PySem.W.Frag) : List V → Hp → VK → Prop := fun vs H Q => ∃ (a : Addr) (ns : List Int), vs = [V.ref a] ∧ SqT K H a (ns.map V.int) ∧ Q (.int ns.sum) H
theorem cr_sumT {X : Cx} (hc : X.calm = true) : CallR X (.builtin "sum") (rSumT X.K) := by
  intro pins s σ H vs us Q I r h
  obtain ⟨a, ns, rfl, hs, q⟩ := h
  obtain ⟨its, rv, hl, _⟩ := I.tuple hs
  rw [Vals.ref1 r]
  have hi := rv.ints
  obtain ⟨xs, e⟩ := hi.allInts.items
  have hn : numsOf (intItems xs).toList = ns := by rw [← e]; exact hi.numsOf
  rw [nums_intItems] at hn
  have hl : s.heap.IsTuple a its.toArray := hl
  rw [e] at hl
  refine PySem.W.ktm_sumG (I.ok.hd hc) hl fun h' tk t' hk => ?_
  rw [preSum_eq, List.take_of_length_le (by simp), hn]
  exact ⟨.int _, H, I.kept hk, ⟨_, rfl⟩, q⟩
theorem cd_sumT {G : Ctx} : CallD G (rSumT G.K) (d1 dSumT) := by
  intro xs r e O H vs Q ht h q
  obtain ⟨x, rfl, e⟩ := d1_some e
  obtain ⟨v, rfl, hx⟩ := at0s_one h
  match x, e with
  | .tup ds, e =>
    obtain ⟨ns, e1, e2⟩ := Option.map_eq_some_iff.mp e
    cases e2
    have e1 := intsD_eq e1
    subst e1
    obtain ⟨a, vs, rfl, h1, h2, hl, hs⟩ := at0_tup hx
    rw [hs.ints] at h2
    exact ⟨a, ns, rfl, h2, q _ H Grow.refl (nv at_int)⟩
def lOr (f g : List D → Option Rz) : List D → Option Rz := fun x => match f x with
  | some r => some r
  | none => g x
theorem CallD.or2 {G : Ctx} {r r' : List V → Hp → VK → Prop} {f g : List D → Option Rz} (a : CallD G r f) (b : CallD G r' g) : CallD G (fun x H Q => r x H Q ∨ r' x H Q) (lOr f g) := by
  intro x z e O H vx Q ht hx k
  unfold lOr at e
  cases e1 : f x with
  | some r1 =>
    rw [e1] at e
    exact .inl (a x z (by rw [e1]; exact e) O H vx Q ht hx k)
  | none =>
    rw [e1] at e
    exact .inr (b x z e O H vx Q ht hx k)
abbrev rSumA (K : PySem.W.Frag) : List V → Hp → VK → Prop := fun x H Q => rSum K x H Q ∨ rSumT K x H Q
def dSumA : List D → Option Rz := lOr (d1 dSum) (d1 dSumT)
theorem cd_sumA {G : Ctx} : CallD G (rSumA G.K) dSumA := cd_sum.or2 cd_sumT
theorem cr_sumA {X : Cx} (hc : X.calm = true) : CallR X (.builtin "sum") (rSumA X.K) := (cr_sum hc).orr (cr_sumT hc)
def dAll : D → Option Rz
  | .lst ds => (boolsD ds).map fun ns => .val (.bl (ns.all id))
  | _ => none
def dAny : D → Option Rz
  | .lst ds => (boolsD ds).map fun ns => .val (.bl (ns.any id))
  | _ => none
theorem cd_all {G : Ctx} : CallD G (rAll G.K) (d1 dAll) := by
  intro xs r e O H vs Q ht h q
  obtain ⟨x, rfl, e⟩ := d1_some e
  obtain ⟨v, rfl, hx⟩ := at0s_one h
  match x, e with
  | .lst ds, e =>
    obtain ⟨ns, e1, e2⟩ := Option.map_eq_some_iff.mp e
    cases e2
    have e1 := bools_eq e1
    subst e1
    obtain ⟨a, vs, rfl, h1, h2, hl, hs⟩ := at0_lst hx
    rw [hs.bools] at h2
    exact ⟨a, ns, rfl, h2, q _ H Grow.refl (nv at_bl)⟩
theorem cd_any {G : Ctx} : CallD G (rAny G.K) (d1 dAny) := by
  intro xs r e O H vs Q ht h q
  obtain ⟨x, rfl, e⟩ := d1_some e
  obtain ⟨v, rfl, hx⟩ := at0s_one h
  match x, e with
  | .lst ds, e =>
    obtain ⟨ns, e1, e2⟩ := Option.map_eq_some_iff.mp e
    cases e2
    have e1 := bools_eq e1
    subst e1
    obtain ⟨a, vs, rfl, h1, h2, hl, hs⟩ := at0_lst hx
    rw [hs.bools] at h2
    exact ⟨a, ns, rfl, h2, q _ H Grow.refl (nv at_bl)⟩
/-- abs, int, max, min of two -/
def dAbs : D → Option Rz
  | .int i => some (.val (.int (if i < 0 then -i else i)))
  | _ => none
def dInt : D → Option Rz
  | .int i => some (.val (.int i))
  | .bl b => some (.val (.int (if b = true then 1 else 0)))
  | _ => none
abbrev rAbs : List V → Hp → VK → Prop := fun xs H Q => ∃ i, xs = [.int i] ∧ Q (.int (if i < 0 then -i else i)) H
abbrev rInt : List V → Hp → VK → Prop := fun xs H Q => (∃ i, xs = [.int i] ∧ Q (.int i) H) ∨ ∃ k, xs = [.bl k] ∧ Q (.int (if k then 1 else 0)) H
abbrev rMax2 : List V → Hp → VK → Prop := fun xs H Q => ∃ i j, xs = [.int i, .int j] ∧ Q (.int (if j > i then j else i)) H
abbrev rMin2 : List V → Hp → VK → Prop := fun xs H Q => ∃ i j, xs = [.int i, .int j] ∧ Q (.int (if j < i then j else i)) H
def dMax2 : D → D → Option Rz := fI fun i j => some (.val (.int (if j > i then j else i)))
def dMin2 : D → D → Option Rz := fI fun i j => some (.val (.int (if j < i then j else i)))
theorem cd_abs {G : Ctx} : CallD G rAbs (d1 dAbs) := by
  intro xs r e O H vs Q ht h q
  obtain ⟨x, rfl, e⟩ := d1_some e
  obtain ⟨v, rfl, hx⟩ := at0s_one h
  match x, e with
  | .int i, e =>
    obtain rfl := at0_int hx
    cases Option.some.inj e
    exact ⟨i, rfl, q _ H Grow.refl (nv at_int)⟩
theorem cd_int {G : Ctx} : CallD G rInt (d1 dInt) := by
  intro xs r e O H vs Q ht h q
  obtain ⟨x, rfl, e⟩ := d1_some e
  obtain ⟨v, rfl, hx⟩ := at0s_one h
  match x, e with
  | .int i, e =>
    obtain rfl := at0_int hx
    cases Option.some.inj e
    exact .inl ⟨i, rfl, q _ H Grow.refl (nv at_int)⟩
  | .bl b, e =>
    obtain rfl := at0_bl hx
    cases Option.some.inj e
    exact .inr ⟨b, rfl, q _ H Grow.refl (nv at_int)⟩
theorem cd_max2 {G : Ctx} : CallD G rMax2 (d2 dMax2) := by
  intro xs r e O H vs Q ht h q
  obtain ⟨x, y, rfl, e⟩ := d2_some e
  obtain ⟨v, w, rfl, hx, hy⟩ := at0s_two h
  match x, y, e with
  | .int i, .int j, e =>
    obtain rfl := at0_int hx
    obtain rfl := at0_int hy
    cases Option.some.inj e
    exact ⟨i, j, rfl, q _ H Grow.refl (nv at_int)⟩
theorem cd_min2 {G : Ctx} : CallD G rMin2 (d2 dMin2) := by
  intro xs r e O H vs Q ht h q
  obtain ⟨x, y, rfl, e⟩ := d2_some e
  obtain ⟨v, w, rfl, hx, hy⟩ := at0s_two h
  match x, y, e with
  | .int i, .int j, e =>
    obtain rfl := at0_int hx
    obtain rfl := at0_int hy
    cases Option.some.inj e
    exact ⟨i, j, rfl, q _ H Grow.refl (nv at_int)⟩
/-- list(x), tuple(x) of a list or a tuple -/
def dList : D → Option Rz
  | .tup ds => some (.fr ds)
  | .lst ds => some (.fr ds)
  | _ => none
def dTuple : D → Option Rz
  | .tup ds => some (.val (.tup ds))
  | .lst ds => some (.val (.tup ds))
  | _ => none
abbrev rList (K : PySem.W.Frag) : List V → Hp → VK → Prop := fun xs H Q => ∃ p ys, xs = [.ref p] ∧ (SqL K H p ys ∨ SqT K H p ys) ∧ ∀ l, H l = none → Q (.ref l) (upd H l (.lst ys))
abbrev rTuple (K : PySem.W.Frag) : List V → Hp → VK → Prop := fun xs H Q => ∃ p ys, xs = [.ref p] ∧ ((SqL K H p ys ∧ ∀ l, H l = none → Q (.ref l) (upd H l (.tup ys))) ∨ (SqT K H p ys ∧ Q (.ref p) H))
theorem cd_list {G : Ctx} : CallD G (rList G.K) (d1 dList) := by
  intro xs r e O H vs Q ht h q
  obtain ⟨x, rfl, e⟩ := d1_some e
  obtain ⟨v, rfl, hx⟩ := at0s_one h
  match x, e with
  | .tup ds, e =>
    obtain ⟨a, vs, rfl, h1, h2, hl, hs⟩ := at0_tup hx
    cases Option.some.inj e
    exact ⟨a, vs, rfl, .inr h2, fun p hp => q _ _ (Grow.new hp) (fr_new hp hl hs)⟩
  | .lst ds, e =>
    obtain ⟨a, vs, rfl, h1, h2, hl, hs⟩ := at0_lst hx
    cases Option.some.inj e
    exact ⟨a, vs, rfl, .inl h2, fun p hp => q _ _ (Grow.new hp) (fr_new hp hl hs)⟩
theorem cd_tuple {G : Ctx} : CallD G (rTuple G.K) (d1 dTuple) := by
  intro xs r e O H vs Q ht h q
  obtain ⟨x, rfl, e⟩ := d1_some e
  obtain ⟨v, rfl, hx⟩ := at0s_one h
  match x, e with
  | .tup ds, e =>
    obtain ⟨a, vs, rfl, h1, h2, hl, hs⟩ := at0_tup hx
    cases Option.some.inj e
    exact ⟨a, vs, rfl, .inr ⟨h2, q _ H Grow.refl (nv hx)⟩⟩
  | .lst ds, e =>
    obtain ⟨a, vs, rfl, h1, h2, hl, hs⟩ := at0_lst hx
    cases Option.some.inj e
    exact ⟨a, vs, rfl, .inl ⟨h2, fun p hp => q _ _ (Grow.new hp) (nv (at_new ht hp hl hs))⟩⟩

/-! ### isinstance with a built-in type -/
def tyN : D → Option String
  | .non => some "NoneType"
  | .bl _ => some "bool"
  | .int _ => some "int"
  | .str _ => some "str"
  | .tup _ => some "tuple"
  | .lst _ => some "list"
  | .scr _ => some "list"
  | .dct _ => some "dict"
  | .ins _ _ => none
def dIsi (t : String) (x : D) : Option Rz := (tyN x).bind fun n => (kitB n t).map fun b => .val (.bl b)
end DL
/-! DL7: statements. -/
namespace DL
open PySem PySem.Spec PyProof.Rows L2
inductive Out where
  | nx (δ : FEnv) | rt (r : Rz) (δ : FEnv) | bk (δ : FEnv) | ct (δ : FEnv) | er (c : Nat) (d : D) (δ : FEnv) | stuck
abbrev Sz := FEnv → Out
def PostS (G : Ctx) (W : WX) (Hb : Hp) (O : Hid) (H : Hp) (σ : L2.St) (δ : FEnv) (D : Ends) : Out → Prop
  | .nx δ' => ∀ σ' H', Stp σ δ H σ' δ' H' → St G Hb O H' σ' δ' → D.nx σ' H'
  | .bk δ' => ∀ σ' H', Stp σ δ H σ' δ' H' → St G Hb O H' σ' δ' → D.bk σ' H'
  | .ct δ' => ∀ σ' H', Stp σ δ H σ' δ' H' → St G Hb O H' σ' δ' → D.ct σ' H'
  | .rt r δ' => ∀ v σ' H', Stp σ δ H σ' δ' H' → St G Hb O H' σ' δ' → RAt G Hb O H' σ' δ' v r → D.rt v H'
  | .er c d δ' => ∀ dx v σ' H', Stp σ δ H σ' δ' H' → St G Hb O H' σ' δ' → At G (Ob O σ' δ') H' d v → H' dx = some (.xd [("value", v)]) → W (.ref (G.cls c)) (some dx) σ' H'
  | .stuck => False
def Sv (G : Ctx) (W : WX) (s : Sz) : TS := fun D σ H => ∃ Hb O δ, St G Hb O H σ δ ∧ PostS G W Hb O H σ δ D (s δ)
section
variable {G : Ctx} {W : WX} {Hb : Hp} {O : Hid} {H H1 H' : Hp} {σ σ' : L2.St} {δ δ0 δ1 δ' : FEnv} {D : Ends} {r : Rz} {v : V} {d : DL.D}
theorem PostS.after {x : Out} (st : Stp σ δ H σ' δ' H') (h : PostS G W Hb O H σ δ D x) : PostS G W Hb O H' σ' δ' D x := by
  cases x with
  | nx δ2 => exact fun a b st2 => h a b (st.trans st2)
  | bk δ2 => exact fun a b st2 => h a b (st.trans st2)
  | ct δ2 => exact fun a b st2 => h a b (st.trans st2)
  | rt r δ2 => exact fun a b c st2 => h a b c (st.trans st2)
  | er c d δ2 => exact fun a b c d st2 => h a b c d (st.trans st2)
  | stuck => exact h
def Res.bindS (x : Res) (k : Rz → FEnv → Out) : Out := match x with
  | .ok r δ => k r δ
  | .err c d δ => .er c d δ
  | .stuck => .stuck
theorem PostS.bind {x : Res} {k : Rz → FEnv → Out} {R : VK} (h : PostS G W Hb O H σ δ D (x.bindS k))
    (hk : ∀ r δ' v H', Stp σ δ H σ δ' H' → St G Hb O H' σ δ' → RAt G Hb O H' σ δ' v r → Nw H v r → PostS G W Hb O H' σ δ' D (k r δ') → R v H') : Post G W Hb O H σ δ R x := by
  cases x with
  | stuck => exact h
  | err c d δ' => exact fun dx v H' st S a e => h dx v σ H' st S a e
  | ok r δ' => exact fun v H' st S' hr hn => hk r δ' v H' st S' hr hn (PostS.after st h)

/-! ### what a slot becomes -/
def setE (δ : FEnv) (i : Nat) (e : SE) : Option FEnv := match δ[i]? with
  | some (some (.own true _)) => none
  | some _ => some (δ.set i (some e))
  | none => none
def setSlot (δ : FEnv) (i : Nat) : Rz → Option FEnv
  | .val d => setE δ i (.val d)
  | .fr ds => setE δ i (.own false ds)
  | .bor j => (give δ (.bor j)).bind fun x => setE x.2 i (.val x.1)
theorem setE_some {i : Nat} {e : SE} (h : setE δ i e = some δ') : i < δ.length ∧ δ' = δ.set i (some e) ∧ ¬ IsPar δ i := by
  unfold setE at h
  cases e1 : δ[i]? with
  | none => rw [e1] at h; cases h
  | some s =>
    rw [e1] at h
    have hi : i < δ.length := (List.getElem?_eq_some_iff.mp e1).1
    match s, e1, h with
    | none, e1, h => exact ⟨hi, (Option.some.inj h).symm, fun ⟨ds, z⟩ => by rw [e1] at z; cases z⟩
    | some (.val _), e1, h => exact ⟨hi, (Option.some.inj h).symm, fun ⟨ds, z⟩ => by rw [e1] at z; cases z⟩
    | some (.own false _), e1, h => exact ⟨hi, (Option.some.inj h).symm, fun ⟨ds, z⟩ => by rw [e1] at z; cases z⟩
theorem St.setVal {i : Nat} (S : St G Hb O H σ δ) (hi : i < δ.length) (hp : ¬ IsPar δ i) (h : At G (Ob O σ δ) H d v) :
    St G Hb O H (σ.set i (some v)) (δ.set i (some (.val d))) ∧ Stp σ δ H (σ.set i (some v)) (δ.set i (some (.val d))) H := by
  have hs : i < σ.length := by rw [S.len]; exact hi
  have gi : (δ.set i (some (.val d)))[i]? = some (some (SE.val d)) := by rw [List.getElem?_set_self hi]
  have gn : ∀ j, j ≠ i → (δ.set i (some (.val d)))[j]? = δ[j]? := fun j hj => by rw [List.getElem?_set_ne (Ne.symm hj)]
  have si : (σ.set i (some v))[i]? = some (some v) := by rw [List.getElem?_set_self hs]
  have sn : ∀ j, j ≠ i → (σ.set i (some v))[j]? = σ[j]? := fun j hj => by rw [List.getElem?_set_ne (Ne.symm hj)]
  have sub : ∀ j q, OwnAt (σ.set i (some v)) (δ.set i (some (.val d))) j q → OwnAt σ δ j q ∧ j ≠ i := fun j q ⟨a, b, es, c⟩ => by
    by_cases hj : j = i
    · subst hj; rw [gi] at c; cases c
    · rw [gn j hj] at c; rw [sn j hj] at a; exact ⟨⟨a, b, es, c⟩, hj⟩
  have mv : Mv (Ob O σ δ) H (Ob O (σ.set i (some v)) (δ.set i (some (.val d)))) H := ⟨fun _ _ h _ _ => h, fun b z => .inl (by
    rcases z with z | ⟨j, z⟩
    · exact .inl z
    · exact .inr ⟨j, (sub j b z).1⟩)⟩
  refine ⟨⟨by rw [List.length_set, List.length_set]; exact S.len, S.tb, S.trb, S.hid, fun j d' e => ?_, fun j b es e => ?_, fun j k q a b => S.inj j k q (sub j q a).1 (sub k q b).1⟩,
    ⟨fun _ _ h _ _ => h, fun q ⟨j, z⟩ => .inl ⟨j, (sub j q z).1⟩, fun _ h => h, fun j hj => ?_⟩⟩
  · by_cases hj : j = i
    · subst hj; rw [gi] at e; cases e
      exact ⟨v, si, h.mv mv⟩
    · rw [gn j hj] at e
      obtain ⟨u, a, b⟩ := S.val j d' e
      exact ⟨u, by rw [sn j hj]; exact a, b.mv mv⟩
  · by_cases hj : j = i
    · subst hj; rw [gi] at e; cases e
    · rw [gn j hj] at e
      obtain ⟨p', vs', a1, a2, a3, a4, a5, a6⟩ := S.own j b es e
      exact ⟨p', vs', by rw [sn j hj]; exact a1, a2, a3, a4, a5, a6.mv mv⟩
  · have ne : j ≠ i := fun z => hp (z ▸ hj)
    obtain ⟨ds, q⟩ := hj
    exact ⟨⟨ds, by rw [gn j ne]; exact q⟩, by rw [sn j ne]⟩
theorem St.setOwn {i : Nat} {ds : List DL.D} (S : St G Hb O H σ δ) (hi : i < δ.length) (hp : ¬ IsPar δ i) (h : RAt G Hb O H σ δ v (.fr ds)) {H0 : Hp} {σ0 : L2.St} {δ2 : FEnv} (st0 : Stp σ0 δ2 H0 σ δ H) (hn : Nw H0 v (.fr ds)) :
    St G Hb O H (σ.set i (some v)) (δ.set i (some (.own false ds))) ∧ Stp σ0 δ2 H0 (σ.set i (some v)) (δ.set i (some (.own false ds))) H := by
  obtain ⟨p, vs, rfl, hH, hl, hb, hnO, hs, Sp⟩ := h
  have hn : H0 p = none := hn p rfl
  have hlen : i < σ.length := by rw [S.len]; exact hi
  have gi : (δ.set i (some (.own false ds)))[i]? = some (some (SE.own false ds)) := by rw [List.getElem?_set_self hi]
  have gn : ∀ j, j ≠ i → (δ.set i (some (.own false ds)))[j]? = δ[j]? := fun j hj => by rw [List.getElem?_set_ne (Ne.symm hj)]
  have si : (σ.set i (some (V.ref p)))[i]? = some (some (V.ref p)) := by rw [List.getElem?_set_self hlen]
  have sn : ∀ j, j ≠ i → (σ.set i (some (V.ref p)))[j]? = σ[j]? := fun j hj => by rw [List.getElem?_set_ne (Ne.symm hj)]
  have sub : ∀ j q, OwnAt (σ.set i (some (V.ref p))) (δ.set i (some (.own false ds))) j q → (j = i ∧ q = p) ∨ (OwnAt σ δ j q ∧ j ≠ i) := fun j q ⟨a, b, es, c⟩ => by
    by_cases hj : j = i
    · subst hj; rw [si] at a; cases a; exact .inl ⟨rfl, rfl⟩
    · rw [gn j hj] at c; rw [sn j hj] at a; exact .inr ⟨⟨a, b, es, c⟩, hj⟩
  have mv : Mv (Ob (Oa O p) σ δ) H (Ob O (σ.set i (some (V.ref p))) (δ.set i (some (.own false ds)))) H := ⟨fun _ _ h _ _ => h, fun b z => .inl (by
    rcases z with z | ⟨j, z⟩
    · exact .inl (.inl z)
    · rcases sub j b z with ⟨_, e⟩ | ⟨z, _⟩
      · exact .inl (.inr e)
      · exact .inr ⟨j, z⟩)⟩
  refine ⟨⟨by rw [List.length_set, List.length_set]; exact S.len, S.tb, S.trb, S.hid, fun j d' e => ?_, fun j b es e => ?_, fun j k q a b => ?_⟩,
    ⟨fun b o e n q => st0.keep b o e n q, fun q ⟨j, z⟩ => ?_, st0.trk, fun j hj => ?_⟩⟩
  · by_cases hj : j = i
    · subst hj; rw [gi] at e; cases e
    · rw [gn j hj] at e
      obtain ⟨u, a, b⟩ := Sp.val j d' e
      exact ⟨u, by rw [sn j hj]; exact a, b.mv mv⟩
  · by_cases hj : j = i
    · subst hj; rw [gi] at e; cases e
      exact ⟨p, vs, si, hH, hl, hb, fun z => hnO (.inl z), hs.mv mv⟩
    · rw [gn j hj] at e
      obtain ⟨p', vs', a1, a2, a3, a4, a5, a6⟩ := Sp.own j b es e
      exact ⟨p', vs', by rw [sn j hj]; exact a1, a2, a3, a4, fun z => a5 (.inl z), a6.mv mv⟩
  · rcases sub j q a with ⟨e1, e2⟩ | ⟨a2, e1⟩
    · rcases sub k q b with ⟨f1, f2⟩ | ⟨b2, f1⟩
      · exact e1.trans f1.symm
      · subst e2; exact absurd (.inr ⟨k, b2⟩) hnO
    · rcases sub k q b with ⟨f1, f2⟩ | ⟨b2, f1⟩
      · subst f2; exact absurd (.inr ⟨j, a2⟩) hnO
      · exact S.inj j k q a2 b2
  · rcases sub j q z with ⟨_, e⟩ | ⟨z, _⟩
    · subst e; exact .inr hn
    · exact st0.own q ⟨j, z⟩
  · obtain ⟨h1, h2⟩ := st0.par j hj
    have ne : j ≠ i := fun z => hp (z ▸ h1)
    obtain ⟨es, q⟩ := h1
    exact ⟨⟨es, by rw [gn j ne]; exact q⟩, (sn j ne).trans h2⟩
/-- a slot takes what was told -/
theorem St.take {i : Nat} {δ2 : FEnv} {H0 : Hp} {σ0 : L2.St} (S : St G Hb O H σ δ) (hr : RAt G Hb O H σ δ v r) (st0 : Stp σ0 δ2 H0 σ δ H) (hn : Nw H0 v r) (e : setSlot δ i r = some δ') :
    St G Hb O H (σ.set i (some v)) δ' ∧ Stp σ0 δ2 H0 (σ.set i (some v)) δ' H := by
  cases r with
  | val d =>
    obtain ⟨hi, rfl, hp⟩ := setE_some e
    obtain ⟨S', st⟩ := S.setVal hi hp hr
    exact ⟨S', st0.trans st⟩
  | fr ds =>
    obtain ⟨hi, rfl, hp⟩ := setE_some e
    exact S.setOwn hi hp hr st0 hn
  | bor j =>
    obtain ⟨⟨d, δ1⟩, e1, e2⟩ := Option.bind_eq_some_iff.mp e
    obtain ⟨hi, rfl, hp⟩ := setE_some e2
    obtain ⟨S1, st1, a1⟩ := S.give hr.w e1
    obtain ⟨S', st⟩ := S1.setVal hi hp a1
    exact ⟨S', (st0.trans st1).trans st⟩

/-! ### the plain statements -/
def outO (x : Option FEnv) : Out := match x with
  | some δ => .nx δ
  | none => .stuck
def sSet (i : Nat) (m : Mz) : Sz := fun δ => (m δ).bindS fun r δ1 => outO (setSlot δ1 i r)
def sExpr (m : Mz) : Sz := fun δ => (m δ).bindS fun _ δ1 => .nx δ1
def sRet (m : Mz) : Sz := fun δ => (m δ).bindS fun r δ1 => .rt r δ1
def sRetN : Sz := fun δ => .rt (.val .non) δ
def sNext : Sz := fun δ => .nx δ
def sBreak : Sz := fun δ => .bk δ
def sCont : Sz := fun δ => .ct δ
def sNever : Sz := fun _ => .stuck
def Out.then (x : Out) (k : FEnv → Out) : Out := match x with
  | .nx δ => k δ
  | .rt r δ => .rt r δ
  | .bk δ => .bk δ
  | .ct δ => .ct δ
  | .er c d δ => .er c d δ
  | .stuck => .stuck
def sSeq (a b : Sz) : Sz := fun δ => (a δ).then b
def boolS (r : Rz) (k : Bool → Out) : Out := match r with
  | .val (.bl b) => k b
  | _ => .stuck
def sIf (c : Mz) (a b : Sz) : Sz := fun δ => (c δ).bindS fun r δ1 => boolS r fun t => if t = true then a δ1 else b δ1
theorem PostS.boolS {k : Bool → Out} (hr : RAt G Hb O H σ δ v r) (h : PostS G W Hb O H σ δ0 D (boolS r k)) : ∃ b, v = .bl b ∧ PostS G W Hb O H σ δ0 D (k b) := by
  cases r with
  | bor i => exact False.elim h
  | fr ds => exact False.elim h
  | val d =>
    cases d with
    | bl b =>
      have hr : At G (Ob O σ δ) H (.bl b) v := hr
      unfold At at hr
      exact ⟨b, hr, h⟩
    | _ => exact False.elim h
theorem PostS.outO {x : Option FEnv} (h : PostS G W Hb O H σ δ0 D (outO x)) : ∃ δ', x = some δ' ∧ PostS G W Hb O H σ δ0 D (.nx δ') := by
  cases x with
  | none => exact False.elim h
  | some y => exact ⟨y, rfl, h⟩
end
section
variable {G : Ctx} {W : WX}
theorem sv_set {i : Nat} {m : Mz} (D : Ends) (σ : L2.St) (H : Hp) (h : Sv G W (sSet i m) D σ H) : tAsg (Ev G W m) (gName i) D σ H := by
  obtain ⟨Hb, O, δ, S, h⟩ := h
  have h : PostS G W Hb O H σ δ D ((m δ).bindS fun r δ1 => outO (setSlot δ1 i r)) := h
  refine ⟨Hb, O, δ, S, ?_⟩
  cases e : m δ with
  | stuck => rw [e] at h; exact h
  | err c d δ' => rw [e] at h; exact fun dx v H' st S a e => h dx v σ H' st S a e
  | ok r δ1 =>
    rw [e] at h
    intro v H' st S' hr hn
    obtain ⟨δ', e2, h⟩ := PostS.outO (h : PostS G W Hb O H σ δ D (outO (setSlot δ1 i r)))
    obtain ⟨S2, st2⟩ := S'.take hr st hn e2
    exact h _ _ st2 S2
theorem sv_expr {m : Mz} (D : Ends) (σ : L2.St) (H : Hp) (h : Sv G W (sExpr m) D σ H) : tDrop (Ev G W m) D σ H := by
  obtain ⟨Hb, O, δ, S, h⟩ := h
  exact ⟨Hb, O, δ, S, PostS.bind h fun r δ1 v H1 st1 S1 r1 n1 h1 => h1 _ _ Stp.refl S1⟩
theorem sv_ret {m : Mz} (D : Ends) (σ : L2.St) (H : Hp) (h : Sv G W (sRet m) D σ H) : tRet (Ev G W m) D σ H := by
  obtain ⟨Hb, O, δ, S, h⟩ := h
  exact ⟨Hb, O, δ, S, PostS.bind h fun r δ1 v H1 st1 S1 r1 n1 h1 => h1 v σ H1 Stp.refl S1 r1⟩
theorem sv_retN (D : Ends) (σ : L2.St) (H : Hp) (h : Sv G W sRetN D σ H) : tRetN D σ H := by
  obtain ⟨Hb, O, δ, S, h⟩ := h
  exact h .non σ H Stp.refl S (show At _ _ _ _ _ from at_non)
theorem sv_next (D : Ends) (σ : L2.St) (H : Hp) (h : Sv G W sNext D σ H) : tNext D σ H := by
  obtain ⟨Hb, O, δ, S, h⟩ := h
  exact h σ H Stp.refl S
theorem sv_break (D : Ends) (σ : L2.St) (H : Hp) (h : Sv G W sBreak D σ H) : tBreak D σ H := by
  obtain ⟨Hb, O, δ, S, h⟩ := h
  exact h σ H Stp.refl S
theorem sv_cont (D : Ends) (σ : L2.St) (H : Hp) (h : Sv G W sCont D σ H) : tCont D σ H := by
  obtain ⟨Hb, O, δ, S, h⟩ := h
  exact h σ H Stp.refl S
theorem sv_never (D : Ends) (σ : L2.St) (H : Hp) (h : Sv G W sNever D σ H) : tNever D σ H := by
  obtain ⟨Hb, O, δ, S, h⟩ := h
  exact h
theorem sv_if {c : Mz} {a b : Sz} (D : Ends) (σ : L2.St) (H : Hp) (h : Sv G W (sIf c a b) D σ H) : tIfS (EvT G W c) (Sv G W a) (Sv G W b) D σ H := by
  obtain ⟨Hb, O, δ, S, h⟩ := h
  refine ⟨Hb, O, δ, S, PostS.bind h fun r δ1 v H1 st1 S1 r1 n1 h1 => ?_⟩
  obtain ⟨t, e, h1⟩ := PostS.boolS r1 h1
  refine ⟨t, e, ?_⟩
  cases t with
  | true => exact ⟨Hb, O, δ1, S1, h1⟩
  | false => exact ⟨Hb, O, δ1, S1, h1⟩
theorem sv_seq {a b : Sz} (D : Ends) (σ : L2.St) (H : Hp) (h : Sv G W (sSeq a b) D σ H) : tSeq (Sv G W a) (Sv G W b) D σ H := by
  obtain ⟨Hb, O, δ, S, h⟩ := h
  have h : PostS G W Hb O H σ δ D ((a δ).then b) := h
  refine ⟨Hb, O, δ, S, ?_⟩
  cases e : a δ with
  | nx δ' =>
    rw [e] at h
    exact fun σ' H' st S' => ⟨Hb, O, δ', S', PostS.after st h⟩
  | rt r δ' => rw [e] at h; exact h
  | bk δ' => rw [e] at h; exact h
  | ct δ' => rw [e] at h; exact h
  | er c d δ' => rw [e] at h; exact h
  | stuck => rw [e] at h; exact h
end
end DL
/-! DLI: enumerate and zip over lists and tuples in any mix. -/
namespace DL
open PySem PySem.Spec PyProof.Rows L2
def SqK (k : Bool) (K : PySem.W.Frag) (H : Hp) (a : Addr) (xs : List V) : Prop := if k = true then SqT K H a xs else SqL K H a xs
def ItK (k : Bool) (h : Heap) (it a : Addr) (i : Nat) : Prop := if k = true then h.IsTupleIter it a i else h.IsListIter it a i
def IsK (k : Bool) (h : Heap) (a : Addr) (items : Array Value) : Prop := if k = true then h.IsTuple a items else h.IsList a items
def obK (k : Bool) (a : Addr) : Obj := if k = true then { cls := .type "tuple_iterator", data := .fields #[.ref a, .int 0 0] } else { cls := .type "list_iterator", data := .fields #[.ref a, .int 0 0] }
theorem itK_at {k : Bool} {h h' : Heap} {it a : Addr} {i : Nat} (x : ItK k h it a i) (q : ∀ o, h.get? it = some o → h'.get? it = some o) : ItK k h' it a i := by
  cases k with
  | true => exact Heap.IsTupleIter.at (show h.IsTupleIter it a i from x) q
  | false => exact Heap.IsListIter.at (show h.IsListIter it a i from x) q
theorem itK_obj {k : Bool} {h : Heap} {it a : Addr} {i : Nat} (x : ItK k h it a i) : ∃ o, h.get? it = some o ∧ ∀ v, o.data ≠ .cell v := by
  cases k with
  | true =>
    obtain ⟨o, e, c, d⟩ := (show h.IsTupleIter it a i from x)
    exact ⟨o, e, fun v q => by rw [d] at q; cases q⟩
  | false =>
    obtain ⟨o, e, c, d⟩ := (show h.IsListIter it a i from x)
    exact ⟨o, e, fun v q => by rw [d] at q; cases q⟩
theorem drawsK {prog : Program} {w : World} {A : Around} (hh : A.handled = none) (k : Bool) (it a : Addr) (hne : a ≠ it) (items : Array Value) :
    Draws prog w A it [it, a] items.size (fun i v => items[i]? = some v) (fun i h => ItK k h it a i ∧ IsK k h a items) := by
  cases k with
  | true => exact Draws.tuple hh it a hne items
  | false => exact Draws.list hh it a hne items
theorem beginsK (k : Bool) (a : Addr) (items : Array Value) : Begins (.ref a) (obK k a) fun h => IsK k h a items := by
  cases k with
  | true => exact begins_tuple a items
  | false => exact begins_list a items
theorem itK_new {k : Bool} {h : Heap} {it a : Addr} (e : h.get? it = some (obK k a)) : ItK k h it a 0 := by
  cases k with
  | true => exact ⟨_, e, rfl, rfl⟩
  | false => exact ⟨_, e, rfl, rfl⟩
theorem sqK_of {X : Cx} {pins : List (Addr × Obj)} {σ : L2.St} {H : Hp} {s : Shared} {k : Bool} {a : Addr} {xs : List V} (I : Inv X pins σ H s) (h : SqK k X.K H a xs) : ∃ its : List Value, Vals xs its ∧ IsK k s.heap a its.toArray ∧ a < s.heap.objs.size := by
  cases k with
  | true =>
    obtain ⟨its, rv, p, _⟩ := I.tuple (show SqT X.K H a xs from h)
    exact ⟨its, rv, p, p.lt⟩
  | false =>
    obtain ⟨its, rv, p, _⟩ := I.list (show SqL X.K H a xs from h)
    exact ⟨its, rv, p.isList, p.lt⟩
/-- the items of xs at a, each in a new pair with its number -/
def IteK (k : Bool) (K : PySem.W.Frag) (a : Addr) (xs : List V) : It :=
  ⟨fun i H => SqK k K H a xs ∧ i < xs.length, fun i H v H' => ∃ T x, v = .ref T ∧ H T = none ∧ H' = upd H T (.tup [.int (i : Nat), x]) ∧ xs[i]? = some x, fun i H => SqK k K H a xs ∧ i = xs.length⟩
theorem turn_enumK {P : Program} {w : World} {K : PySem.W.Frag} {elts : List Expr} {kk : Nat} {tpos : Pos} (k : Bool) (a e it : Addr) (xs : List V) :
    Turn P w K (.Tuple elts kk tpos) (IteK k K a xs) [e, it] e (fun i h => (∃ old, IsEnum h e it (0 + ((i : Nat) : Int)) old) ∧ ItK k h it a i ∧ e ≠ it ∧ a ≠ it ∧ e ≠ a) where
  mem := by simp
  obj := fun i h st b hb => by
    obtain ⟨⟨old, he⟩, hi, _⟩ := st
    have e' : b = e ∨ b = it := by simpa using hb
    rcases e' with z | z
    · rw [z]; exact ⟨_, he, fun v q => nomatch q⟩
    · rw [z]; exact itK_obj hi
  keep := fun i h h' st q => let ⟨⟨old, he⟩, hi, hne⟩ := st; ⟨⟨old, q e (by simp) _ he⟩, itK_at hi fun o z => q it (by simp) o z, hne⟩
  item := by
    intro X hP hw hK hc i pins s σ H E I hf st hg
    subst hP hw hK
    obtain ⟨⟨old, he⟩, hit, hei, hai, hea⟩ := st
    obtain ⟨hq, hlt⟩ := hg
    obtain ⟨its, rv, p, la⟩ := sqK_of I hq
    have hl := rv.length
    have WT := WalksT.enumFrom (prog := X.prog) (w := X.w) (A := X.A) 0 (drawsK (prog := X.prog) (w := X.w) (A := X.A.in1) (I.ok.hd hc) k it a hai its.toArray) e hei (by simp [hei, hea]) (by simp)
    have hn : i < its.toArray.size := by rw [List.size_toArray]; omega
    refine WT.item i s _ E hn ⟨⟨old, he⟩, hit, p⟩ fun T vals h' tk ⟨t, x, hx, ev⟩ hT hTup hM hk => ?_
    refine ⟨_, rfl, WT.go elts kk tpos i T _ _ E hM fun h'' hS sb => ?_⟩
    subst ev
    obtain ⟨y, hy, ry⟩ : ∃ y, xs[i]? = some y ∧ RelV y x := by
      have q : its[i]? = some x := by simpa using hx
      have h1 : i < xs.length := hlt
      refine ⟨xs[i], by simp [h1], ?_⟩
      obtain ⟨u, hu, ru⟩ := rv.get (show xs[i]? = some xs[i] by simp [h1])
      rw [q] at hu; cases hu
      exact ru
    have nT := WT.apart i T _ hM
    have nTe : T ≠ e := fun z => nT (by simp [z])
    have nTi : T ≠ it := fun z => nT (by simp [z])
    obtain ⟨oT, eT, cT, m, dT⟩ := hTup
    have hT2 : h''.get? T = some oT := sb T oT nT eT
    have hTs : s.heap.objs.size ≤ T := hT
    have kk2 : ∀ b ob, b ∉ [e, it] → s.heap.get? b = some ob → h''.get? b = some ob := fun b ob hb q => sb b ob hb (hk b ob hb q)
    have new : ObjOk X.prog X.w (upd H T (.tup [.int (i : Nat), y])) h'' T (.tup [.int (i : Nat), y]) :=
      ⟨by show 2 ≤ sizeLine; decide, [.int (0 + (i : Int)) t, x], .cons ⟨t, by rw [Int.zero_add]⟩ (.cons ry .nil), ⟨oT, hT2, cT, m, dT⟩⟩
    have I1 : Inv X pins σ (upd H T (.tup [.int (i : Nat), y])) { s with heap := h'', toks := tk } := I.turnedNew (ch := [e, it]) kk2 hf hTs new
    obtain ⟨⟨old', he'⟩, hit', _⟩ := hS
    refine ⟨.ref T, _, I1, rfl, ⟨T, y, rfl, I.hok.fresh hTs, rfl, hy⟩, ⟨⟨old', he'⟩, hit', hei, hai, hea⟩, fun b hb => ?_⟩
    have hbT : b ≠ T := fun z => nT (z ▸ hb)
    rw [upd_ne hbT]
    exact (hf b hb).1
  done := by
    intro X hP hw hK hc i pins s σ H E I hf st hg
    subst hP hw hK
    obtain ⟨⟨old, he⟩, hit, hei, hai, hea⟩ := st
    obtain ⟨hq, hn⟩ := hg
    obtain ⟨its, rv, p, la⟩ := sqK_of I hq
    have hl := rv.length
    have WT := WalksT.enumFrom (prog := X.prog) (w := X.w) (A := X.A) 0 (drawsK (prog := X.prog) (w := X.w) (A := X.A.in1) (I.ok.hd hc) k it a hai its.toArray) e hei (by simp [hei, hea]) (by simp)
    have ei : i = its.toArray.size := by rw [List.size_toArray]; omega
    subst ei
    exact WT.done s _ E ⟨⟨old, he⟩, hit, p⟩ fun h' tk hk => ⟨rfl, I.turnedL (t' := tk) (ch := [e, it]) hk hf⟩
  self := fun A i s Q E st h => let ⟨⟨_, he⟩, _⟩ := st; wpAny_pyIter_enum he h
set_option maxHeartbeats 2000000 in
theorem meets_enum1 {v : Value} {o : Obj} {H : Heap → Prop} (B : Begins v o H) :
    Meets (Builtin.«enumerate.__new__» ⟨[.type "enumerate", v], []⟩) (fun _ R s => H s.heap ∧
      R (.ok (.ret (.ref (s.heap.push o).objs.size))) { s with heap := (s.heap.push o).push { cls := .type "enumerate", data := .fields #[.none, .bool false, .ref s.heap.objs.size, rawInt 0, .none, .none] } }) :=
  .of_wp fun prog w A R s h => by
    obtain ⟨hp, g, d, tk, os⟩ := s; obtain ⟨h1, h⟩ := h
    have hsub := sub_enumerate
    have q1 : ∀ {A' : Around} {E : Value → Shared → Prop} {Q : Value → Shared → Prop}, Q (.ref hp.objs.size) ⟨hp.push o, g, d, tk, os⟩ → wpAny (model prog w) A' (pyIter v) Q E ⟨hp, g, d, tk, os⟩ :=
      fun q => B.iter prog w _ _ ⟨hp, g, d, tk, os⟩ _ h1 q
    wp_walk using q1
    refine wpAny_stack_any fun st => wpAny_pure ?_
    split
    · rename_i c _ _ _ _ _
      cases (c == Value.type "enumerate")
      · wp_walk using q1
        exact ⟨_, rfl, h⟩
      · wp_walk using q1
        exact ⟨_, rfl, h⟩
    · wp_walk using q1
      exact ⟨_, rfl, h⟩
theorem enum_begins1 {prog : Program} {w : World} {A : Around} {E : Value → Shared → Prop} {s : Shared} {v : Value} {o : Obj} {H : Heap → Prop} {Q : Value → Shared → Prop} (B : Begins v o H) (h1 : H s.heap)
    (h : ∀ h', IsEnum h' (s.heap.objs.size + 1) s.heap.objs.size 0 .none → h'.get? s.heap.objs.size = some o → (∀ b o, s.heap.get? b = some o → h'.get? b = some o) → Q (.ref (s.heap.objs.size + 1)) { s with heap := h' }) :
    wpAny (model prog w) A (call (.type "enumerate") [v]) Q E s := by
  refine callType_new F.called_enumerate (by decide) (F.typeCall_enumerate_1 _) (F.newCall_enumerate_1 _) (fun obj => F.args_object_init_2 obj _) F.entry_enumerate_new
    (meets_enum1 B) ⟨h1, ?_⟩
  have hz : (s.heap.push o).objs.size = s.heap.objs.size + 1 := Heap.size_push ..
  show _ ∧ _
  rw [hz]
  have he : IsEnum ((s.heap.push o).push { cls := .type "enumerate", data := .fields #[.none, .bool false, .ref s.heap.objs.size, rawInt 0, .none, .none] }) (s.heap.objs.size + 1) s.heap.objs.size 0 .none := by
    have := Heap.get?_push_size (s.heap.push o) (o := { cls := .type "enumerate", data := .fields #[.none, .bool false, .ref s.heap.objs.size, rawInt 0, .none, .none] }) rfl
    rw [hz] at this; exact this
  exact ⟨⟨_, he, rfl⟩, h _ he (Heap.get?_push_of_some _ (Heap.get?_push_size _ B.free)) fun b o x => Heap.get?_push_of_some _ (Heap.get?_push_of_some _ x)⟩
def iEnumK (K : PySem.W.Frag) (ta : TA) : TI := fun σ H R => ta σ H fun vs H1 => ∃ k a xs, vs = [.ref a] ∧ SqK k K H1 a xs ∧ R (IteK k K a xs) H1
theorem pi_enumK {X : Cx} {e : Expr} {ta : TA} {p pos tpos : Pos} {elts : List Expr} {kk : Nat} (hg : Gl X "enumerate") (hm : X.mg "enumerate" = none) (ha : PA X [e] ta) (hs : starEach [e] X.env = [(false, eval e X.env)] := by rfl) :
    PI X (.Tuple elts kk tpos) (.Call (.Name "enumerate" p) [e] [] pos) (iEnumK X.K ta) := by
  refine ⟨fun pins s σ H R I h => ?_⟩
  refine Call_ (ld_blt I hg hm boot_enumerate (PyProof.Rows.callWith_type1 (thn (ha.run pos pins s σ H _ I h) fun us s1 ⟨vs, H1, I1, r1, q1⟩ => ?_) hs rfl))
  obtain ⟨k, a, xs, ex, hq, q⟩ := q1
  subst ex
  cases r1 with
  | cons r rr =>
    cases rr
    cases r
    obtain ⟨its, rv, p', la⟩ := sqK_of I1 hq
    refine enum_begins1 (beginsK k a its.toArray) p' fun h' he hit hk => wpAny_pyIter_enum he ?_
    have I2 : Inv X pins σ H1 { s1 with heap := h' } := I1.kept (t' := s1.toks) hk
    have he0 : IsEnum h' (s1.heap.objs.size + 1) s1.heap.objs.size (0 + ((0 : Nat) : Int)) .none := he
    refine ⟨s1.heap.objs.size + 1, [s1.heap.objs.size + 1, s1.heap.objs.size], _, _, H1, rfl, I2, turn_enumK k a (s1.heap.objs.size + 1) s1.heap.objs.size xs, ⟨⟨.none, he0⟩, itK_new hit, Nat.succ_ne_self _, Nat.ne_of_lt la, Nat.ne_of_gt (Nat.lt_succ_of_lt la)⟩, fun b hb => ?_, q⟩
    have e' : b = s1.heap.objs.size + 1 ∨ b = s1.heap.objs.size := by simpa using hb
    have hle : s1.heap.objs.size ≤ b := by
      rcases e' with z | z
      · rw [z]; exact Nat.le_add_right _ _
      · rw [z]; exact Nat.le_refl _
    exact I1.fpOk hle (I1.hok.fresh hle)

/-! ### zip of two, each a list or a tuple -/
def ItzK (k l : Bool) (K : PySem.W.Frag) (a b : Addr) (xs ys : List V) : It :=
  ⟨fun i H => (SqK k K H a xs ∧ SqK l K H b ys) ∧ i < min xs.length ys.length, fun i H v H' => ∃ T x y, v = .ref T ∧ H T = none ∧ H' = upd H T (.tup [x, y]) ∧ xs[i]? = some x ∧ ys[i]? = some y, fun i H => (SqK k K H a xs ∧ SqK l K H b ys) ∧ i = min xs.length ys.length⟩
theorem turn_zipK {P : Program} {w : World} {K : PySem.W.Frag} {elts : List Expr} {kk : Nat} {tpos : Pos} (k l : Bool) (a b z TI TO i1 i2 : Addr) (xs ys : List V) (S : ZipSep2 z TI TO i1 i2 [i1, a] [i2, b]) (ha : a ≠ i1) (hb : b ≠ i2) :
    Turn P w K (.Tuple elts kk tpos) (ItzK k l K a b xs ys) [z, TI, TO, i1, i2] z (fun i h => IsZip h z TI TO .none ∧ IsTupOf2 h TI (.ref i1) (.ref i2) ∧ (∃ x y, IsTupOf2 h TO x y) ∧ ItK k h i1 a i ∧ ItK l h i2 b i) where
  mem := by simp
  obj := fun i h st c hc => by
    obtain ⟨hz, hTI, ⟨x, y, hTO⟩, h1, h2⟩ := st
    have e' : c = z ∨ c = TI ∨ c = TO ∨ c = i1 ∨ c = i2 := by simpa using hc
    rcases e' with q | q | q | q | q
    · rw [q]; exact ⟨_, hz, fun v q => nomatch q⟩
    · rw [q]; exact ⟨_, hTI, fun v q => nomatch q⟩
    · rw [q]; exact ⟨_, hTO, fun v q => nomatch q⟩
    · rw [q]; exact itK_obj h1
    · rw [q]; exact itK_obj h2
  keep := fun i h h' st q => by
    obtain ⟨hz, hTI, ⟨x, y, hTO⟩, h1, h2⟩ := st
    exact ⟨q z (by simp) _ hz, q TI (by simp) _ hTI, ⟨x, y, q TO (by simp) _ hTO⟩, itK_at h1 fun o e => q i1 (by simp) o e, itK_at h2 fun o e => q i2 (by simp) o e⟩
  item := by
    intro X hP hw hK hc i pins s σ H E I hf st hg
    subst hP hw hK
    obtain ⟨hz, hTI, hTO, h1, h2⟩ := st
    obtain ⟨⟨hq1, hq2⟩, hlt⟩ := hg
    obtain ⟨its, rv, p, la⟩ := sqK_of I hq1
    obtain ⟨its2, rv2, p2, lb⟩ := sqK_of I hq2
    have hl := rv.length
    have hl2 := rv2.length
    have WT := WalksT.zipD2 (prog := X.prog) (w := X.w) (A := X.A) S (drawsK (prog := X.prog) (w := X.w) (A := X.A.in1) (I.ok.hd hc) k i1 a ha its.toArray) (drawsK (prog := X.prog) (w := X.w) (A := X.A.in1) (I.ok.hd hc) l i2 b hb its2.toArray)
    have hn : i < min its.toArray.size its2.toArray.size := by rw [List.size_toArray, List.size_toArray]; omega
    refine WT.item i s _ E hn ⟨hz, hTI, hTO, ⟨h1, p⟩, ⟨h2, p2⟩⟩ fun T vals h' tk hpt hT hTup hM hk => ?_
    obtain ⟨x, y, hx, hy, ev⟩ := hpt
    refine ⟨_, rfl, WT.go elts kk tpos i T _ _ E hM fun h'' hS sb => ?_⟩
    subst ev
    obtain ⟨x', hx', rx⟩ : ∃ y, xs[i]? = some y ∧ RelV y x := by
      have q : its[i]? = some x := by simpa using hx
      have h1 : i < xs.length := by omega
      refine ⟨xs[i], by simp [h1], ?_⟩
      obtain ⟨u, hu, ru⟩ := rv.get (show xs[i]? = some xs[i] by simp [h1])
      rw [q] at hu; cases hu
      exact ru
    obtain ⟨y', hy', ry⟩ : ∃ z, ys[i]? = some z ∧ RelV z y := by
      have q : its2[i]? = some y := by simpa using hy
      have h1 : i < ys.length := by omega
      refine ⟨ys[i], by simp [h1], ?_⟩
      obtain ⟨u, hu, ru⟩ := rv2.get (show ys[i]? = some ys[i] by simp [h1])
      rw [q] at hu; cases hu
      exact ru
    have nT := WT.apart i T _ hM
    obtain ⟨oT, eT, cT, m, dT⟩ := hTup
    have hT2 : h''.get? T = some oT := sb T oT nT eT
    have sub : ∀ c, c ∉ [z, TI, TO, i1, i2] → c ∉ [z, TO, i1, i2] := fun c hc q => hc (by
      have e' : c = z ∨ c = TO ∨ c = i1 ∨ c = i2 := by simpa using q
      rcases e' with q | q | q | q <;> simp [q])
    have kk2 : ∀ c ob, c ∉ [z, TI, TO, i1, i2] → s.heap.get? c = some ob → h''.get? c = some ob := fun c ob hb q => sb c ob (sub c hb) (hk c ob (sub c hb) q)
    have new : ObjOk X.prog X.w (upd H T (.tup [x', y'])) h'' T (.tup [x', y']) :=
      ⟨by show 2 ≤ sizeLine; decide, [x, y], .cons rx (.cons ry .nil), ⟨oT, hT2, cT, m, dT⟩⟩
    have I1 : Inv X pins σ (upd H T (.tup [x', y'])) { s with heap := h'', toks := tk } := I.turnedNew (ch := [z, TI, TO, i1, i2]) kk2 hf hT new
    obtain ⟨hz', hTI', hTO', ⟨h1', _⟩, ⟨h2', _⟩⟩ := hS
    refine ⟨.ref T, _, I1, rfl, ⟨T, x', y', rfl, I.hok.fresh hT, rfl, hx', hy'⟩, ⟨hz', hTI', hTO', h1', h2'⟩, fun c hcm => ?_⟩
    have hlt : c < s.heap.objs.size := by
      have e' : c = z ∨ c = TI ∨ c = TO ∨ c = i1 ∨ c = i2 := by simpa using hcm
      obtain ⟨_, _, hTO⟩ := hTO
      rcases e' with q | q | q | q | q
      · rw [q]; exact Heap.lt_size hz
      · rw [q]; exact Heap.lt_size hTI
      · rw [q]; exact Heap.lt_size hTO
      · rw [q]; obtain ⟨_, e1, _⟩ := itK_obj h1; exact Heap.lt_size e1
      · rw [q]; obtain ⟨_, e1, _⟩ := itK_obj h2; exact Heap.lt_size e1
    rw [upd_ne (Nat.ne_of_lt (Nat.lt_of_lt_of_le hlt hT))]
    exact (hf c hcm).1
  done := by
    intro X hP hw hK hc i pins s σ H E I hf st hg
    subst hP hw hK
    obtain ⟨hz, hTI, hTO, h1, h2⟩ := st
    obtain ⟨⟨hq1, hq2⟩, hn⟩ := hg
    obtain ⟨its, rv, p, la⟩ := sqK_of I hq1
    obtain ⟨its2, rv2, p2, lb⟩ := sqK_of I hq2
    have hl := rv.length
    have hl2 := rv2.length
    have WT := WalksT.zipD2 (prog := X.prog) (w := X.w) (A := X.A) S (drawsK (prog := X.prog) (w := X.w) (A := X.A.in1) (I.ok.hd hc) k i1 a ha its.toArray) (drawsK (prog := X.prog) (w := X.w) (A := X.A.in1) (I.ok.hd hc) l i2 b hb its2.toArray)
    have ei : i = min its.toArray.size its2.toArray.size := by rw [List.size_toArray, List.size_toArray]; omega
    subst ei
    have sub : ∀ c, c ∉ [z, TI, TO, i1, i2] → c ∉ [z, TO, i1, i2] := fun c hc q => hc (by
      have e' : c = z ∨ c = TO ∨ c = i1 ∨ c = i2 := by simpa using q
      rcases e' with q | q | q | q <;> simp [q])
    exact WT.done s _ E ⟨hz, hTI, hTO, ⟨h1, p⟩, ⟨h2, p2⟩⟩ fun h' tk hk => ⟨rfl, I.turnedL (t' := tk) (ch := [z, TI, TO, i1, i2]) (fun c ob hb q => hk c ob (sub c hb) q) hf⟩
  self := fun A i s Q E st h => wpAny_pyIter_zip st.1 h
def iZipK (K : PySem.W.Frag) (ta : TA) : TI := fun σ H R => ta σ H fun vs H1 => ∃ k l a b xs ys, vs = [.ref a, .ref b] ∧ SqK k K H1 a xs ∧ SqK l K H1 b ys ∧ R (ItzK k l K a b xs ys) H1
theorem pi_zipK {X : Cx} {e e2 : Expr} {ta : TA} {p pos tpos : Pos} {elts : List Expr} {kk : Nat} (hg : Gl X "zip") (hm : X.mg "zip" = none) (ha : PA X [e, e2] ta)
    (hs : starEach [e, e2] X.env = (false, eval e X.env) :: starEach [e2] X.env := by rfl) (hpl : (backTo pos (starEach [e2] X.env)).any (·.1) = false := by rfl) :
    PI X (.Tuple elts kk tpos) (.Call (.Name "zip" p) [e, e2] [] pos) (iZipK X.K ta) := by
  refine ⟨fun pins s σ H R I h => ?_⟩
  refine Call_ (ld_blt I hg hm PyProof.Rows.boot_zip (PyProof.Rows.callWith_type1 (thn (ha.run pos pins s σ H _ I h) fun us s1 ⟨vs, H1, I1, r1, q1⟩ => ?_) hs hpl))
  obtain ⟨k, l, a, b, xs, ys, ex, hqx, hqy, q⟩ := q1
  subst ex
  cases r1 with
  | cons r rr =>
    cases rr with
    | cons r' rr =>
      cases rr
      cases r
      cases r'
      obtain ⟨its, rv, p1, la⟩ := sqK_of I1 hqx
      obtain ⟨its2, rv2, p2, lb⟩ := sqK_of I1 hqy
      refine zip_begins2 (beginsK k a its.toArray) (beginsK l b its2.toArray) p1 p2 fun h' hz hTI hTO h1 h2 hsz hk => wpAny_pyIter_zip hz ?_
      have I2 : Inv X pins σ H1 { s1 with heap := h' } := I1.kept (t' := s1.toks) hk
      refine ⟨s1.heap.objs.size + 4, [s1.heap.objs.size + 4, s1.heap.objs.size + 2, s1.heap.objs.size + 3, s1.heap.objs.size, s1.heap.objs.size + 1], _, _, H1, rfl, I2, turn_zipK k l a b _ _ _ _ _ xs ys (zip_sep2 (fp1 := [a]) (fp2 := [b]) (by simpa using la) (by simpa using lb)) (Nat.ne_of_lt la) (Nat.ne_of_lt (Nat.lt_succ_of_lt lb)), ⟨hz, hTI, ⟨_, _, hTO⟩, itK_new h1, itK_new h2⟩, fun c hcm => ?_, q⟩
      have e' : c = s1.heap.objs.size + 4 ∨ c = s1.heap.objs.size + 2 ∨ c = s1.heap.objs.size + 3 ∨ c = s1.heap.objs.size ∨ c = s1.heap.objs.size + 1 := by simpa using hcm
      have hle : s1.heap.objs.size ≤ c := by
        rcases e' with z | z | z | z | z
        · rw [z]; exact Nat.le_add_right _ _
        · rw [z]; exact Nat.le_add_right _ _
        · rw [z]; exact Nat.le_add_right _ _
        · rw [z]; exact Nat.le_refl _
        · rw [z]; exact Nat.le_add_right _ _
      exact I1.fpOk hle (I1.hok.fresh hle)
end DL
/-! DL8: targets, what is walked, loops, comprehensions. -/
namespace DL
open PySem PySem.Spec PyProof.Rows L2
/-! ### targets -/
abbrev Tz := DL.D → FEnv → Option FEnv
def tgName (i : Nat) : Tz := fun d δ => setE δ i (.val d)
def tgAll : List Tz → List DL.D → FEnv → Option FEnv
  | [], [], δ => some δ
  | t :: ts, d :: ds, δ => (t d δ).bind fun δ1 => tgAll ts ds δ1
  | _, _, _ => none
def tgTup (ts : List Tz) : Tz := fun d δ => match d with
  | .tup ds => tgAll ts ds δ
  | _ => none
/-- a target's reading; it touches the slots at vs alone -/
def Tv (G : Ctx) (vs : List Nat) (t : Tz) (g : TG) : Prop :=
  ∀ (d : DL.D) (v : V) (δ δ' : FEnv) (Hb : Hp) (O : Hid) (H : Hp) (σ : L2.St) (Q : L2.St → Hp → Prop), St G Hb O H σ δ → At G (Ob O σ δ) H d v → t d δ = some δ' →
    (∀ σ', St G Hb O H σ' δ' → Stp σ δ H σ' δ' H → (∀ j, j ∉ vs → σ'[j]? = σ[j]?) → σ'.length = σ.length → Q σ' H) → g v σ H Q
def TvA (G : Ctx) (vs : List Nat) (ts : List Tz) (g : TGs) : Prop :=
  ∀ (ds : List DL.D) (us : List V) (δ δ' : FEnv) (Hb : Hp) (O : Hid) (H : Hp) (σ : L2.St) (Q : L2.St → Hp → Prop), St G Hb O H σ δ → Ats G (Ob O σ δ) H ds us → tgAll ts ds δ = some δ' →
    (∀ σ', St G Hb O H σ' δ' → Stp σ δ H σ' δ' H → (∀ j, j ∉ vs → σ'[j]? = σ[j]?) → σ'.length = σ.length → Q σ' H) → g us σ H Q
section
variable {G : Ctx} {vs : List Nat}
theorem tv_name {i : Nat} (hi : i ∈ vs) : Tv G vs (tgName i) (gName i) := by
  intro d v δ δ' Hb O H σ Q S h e q
  obtain ⟨hl, rfl, hp⟩ := setE_some e
  obtain ⟨S', st⟩ := S.setVal hl hp h
  exact q _ S' st (fun j hj => by
    have ne : i ≠ j := fun z => hj (by rw [← z]; exact hi)
    rw [List.getElem?_set_ne ne]) (by rw [List.length_set])
theorem tva_nil : TvA G vs [] gNil := by
  intro ds us δ δ' Hb O H σ Q S h e q
  match ds, h, e with
  | [], h, e =>
    cases Option.some.inj e
    unfold Ats at h
    exact ⟨h, q σ S Stp.refl (fun _ _ => rfl) rfl⟩
theorem tva_cons {t : Tz} {ts : List Tz} {g : TG} {gs : TGs} (h1 : Tv G vs t g) (h2 : TvA G vs ts gs) : TvA G vs (t :: ts) (gCons g gs) := by
  intro ds us δ δ' Hb O H σ Q S h e q
  match ds, h, e with
  | d :: ds, h, e =>
    unfold Ats at h
    obtain ⟨v, ws, rfl, a1, a2⟩ := h
    obtain ⟨δ1, e1, e2⟩ := Option.bind_eq_some_iff.mp e
    refine ⟨v, ws, rfl, h1 d v δ δ1 Hb O H σ _ S a1 e1 fun σ1 S1 st1 f1 l1 => ?_⟩
    exact h2 ds ws δ1 δ' Hb O H σ1 Q S1 (a2.mv (S.mv st1)) e2 fun σ2 S2 st2 f2 l2 => q σ2 S2 (st1.trans st2) (fun j hj => (f2 j hj).trans (f1 j hj)) (l2.trans l1)
theorem tv_tup {ts : List Tz} {gs : TGs} {n : Nat} (hn : ts.length = n) (h : TvA G vs ts gs) : Tv G vs (tgTup ts) (gTup G.K n gs) := by
  intro d v δ δ' Hb O H σ Q S a e q
  cases d with
  | tup ds =>
    obtain ⟨p, us, rfl, _, hT, _, hs⟩ := at0_tup (At.at0 a)
    refine ⟨p, us, rfl, hT, ?_, h ds us δ δ' Hb O H σ Q S hs e q⟩
    rw [hs.length, ← hn]
    have : ∀ (ts : List Tz) (ds : List DL.D) (δ δ' : FEnv), tgAll ts ds δ = some δ' → ds.length = ts.length := by
      intro ts
      induction ts with
      | nil =>
        intro ds δ δ' e
        cases ds with
        | nil => rfl
        | cons d ds => cases e
      | cons t ts ih =>
        intro ds δ δ' e
        cases ds with
        | nil => cases e
        | cons d ds =>
          obtain ⟨δ1, _, e2⟩ := Option.bind_eq_some_iff.mp e
          rw [List.length_cons, List.length_cons, ih ds δ1 δ' e2]
    exact this ts ds δ δ' e
  | _ => exact absurd (show (none : Option FEnv) = some δ' from e) (fun z => nomatch z)
end

/-! ### what is walked -/
inductive ResI where
  | ok (ds : List DL.D) (δ : FEnv) | err (c : Nat) (d : DL.D) (δ : FEnv) | stuck
abbrev Iz := FEnv → ResI
/-- what an iterator grants: its items, one after the other -/
def Yl (G : Ctx) (O1 : Hid) (J : It) (H1 : Hp) (ds : List DL.D) : Prop :=
  ds.length ≤ sizeLine ∧ ∀ (i : Nat) (O : Hid) (H : Hp), Mv O1 H1 O H → (∀ q, O q → H q ≠ none) →
    (∀ d, ds[i]? = some d → J.go i H ∧ ∀ x H', J.yld i H x H' → Grow H H' ∧ At G O H' d x) ∧ (i = ds.length → J.stop i H)
def PostI (G : Ctx) (W : WX) (Hb : Hp) (O : Hid) (H : Hp) (σ : L2.St) (δ : FEnv) (R : It → Hp → Prop) : ResI → Prop
  | .ok ds δ' => ∀ J H', Stp σ δ H σ δ' H' → St G Hb O H' σ δ' → Yl G (Ob O σ δ') J H' ds → R J H'
  | .err c d δ' => ∀ dx v H', Stp σ δ H σ δ' H' → St G Hb O H' σ δ' → At G (Ob O σ δ') H' d v → H' dx = some (.xd [("value", v)]) → W (.ref (G.cls c)) (some dx) σ H'
  | .stuck => False
def Ev' (G : Ctx) (W : WX) (it : Iz) : TI := fun σ H R => ∃ Hb O δ, St G Hb O H σ δ ∧ PostI G W Hb O H σ δ R (it δ)
theorem PI.mono {X : Cx} {tg e : Expr} {t t' : TI} (h : PI X tg e t) (k : ∀ σ H R, t' σ H R → t σ H R) : PI X tg e t' := ⟨fun pins s σ H R I q => h.run pins s σ H R I (k σ H R q)⟩
theorem PI.orr {X : Cx} {tg e : Expr} {t t' : TI} (a : PI X tg e t) (b : PI X tg e t') : PI X tg e (fun σ H R => t σ H R ∨ t' σ H R) := ⟨fun pins s σ H R I q => q.elim (a.run pins s σ H R I) (b.run pins s σ H R I)⟩
def Res.bindI (x : Res) (k : Rz → FEnv → ResI) : ResI := match x with
  | .ok r δ => k r δ
  | .err c d δ => .err c d δ
  | .stuck => .stuck
def ResA.bindI (x : ResA) (k : List Rz → FEnv → ResI) : ResI := match x with
  | .ok r δ => k r δ
  | .err c d δ => .err c d δ
  | .stuck => .stuck
def gaveI (x : Option (DL.D × FEnv)) (k : DL.D → FEnv → ResI) : ResI := match x with
  | some y => k y.1 y.2
  | none => .stuck
def gaveIs (x : Option (List DL.D × FEnv)) (k : List DL.D → FEnv → ResI) : ResI := match x with
  | some y => k y.1 y.2
  | none => .stuck
def seqI (d : DL.D) (k : List DL.D → ResI) : ResI := match seqD d with
  | some ds => k ds
  | none => .stuck
/-- a list or a tuple -/
def iVal (m : Mz) : Iz := fun δ => (m δ).bindI fun r δ1 => gaveI (give δ1 r) fun d δ2 => seqI d fun ds => .ok ds δ2
section
variable {G : Ctx} {W : WX}
theorem PostI.after {Hb : Hp} {O : Hid} {H H' : Hp} {σ : L2.St} {δ δ' : FEnv} {R : It → Hp → Prop} {x : ResI} (st : Stp σ δ H σ δ' H') (h : PostI G W Hb O H σ δ R x) : PostI G W Hb O H' σ δ' R x := by
  cases x with
  | ok r δ2 => exact fun v H2 st2 => h v H2 (st.trans st2)
  | err c d δ2 => exact fun dx v H2 st2 => h dx v H2 (st.trans st2)
  | stuck => exact h
theorem PostI.bind {Hb : Hp} {O : Hid} {σ : L2.St} {δ : FEnv} {x : Res} {k : Rz → FEnv → ResI} {H : Hp} {R : It → Hp → Prop} {P : VK}
    (h : PostI G W Hb O H σ δ R (x.bindI k))
    (hk : ∀ r δ' v H', Stp σ δ H σ δ' H' → St G Hb O H' σ δ' → RAt G Hb O H' σ δ' v r → PostI G W Hb O H' σ δ' R (k r δ') → P v H') : Post G W Hb O H σ δ P x := by
  cases x with
  | stuck => exact h
  | err c d δ' => exact h
  | ok r δ' => exact fun v H' st S' hr _ => hk r δ' v H' st S' hr (PostI.after st h)
theorem PostI.bindA {Hb : Hp} {O : Hid} {σ : L2.St} {δ : FEnv} {x : ResA} {k : List Rz → FEnv → ResI} {H : Hp} {R : It → Hp → Prop} {P : List V → Hp → Prop}
    (h : PostI G W Hb O H σ δ R (x.bindI k))
    (hk : ∀ r δ' v H', x = .ok r δ' → Stp σ δ H σ δ' H' → St G Hb O H' σ δ' → RAts G Hb O H' σ δ' v r → PostI G W Hb O H' σ δ' R (k r δ') → P v H') : PostA G W Hb O H σ δ P x := by
  cases x with
  | stuck => exact h
  | err c d δ' => exact h
  | ok r δ' => exact fun v H' st S' hr => hk r δ' v H' rfl st S' hr (PostI.after st h)
theorem PostI.gave {Hb : Hp} {O : Hid} {H : Hp} {σ : L2.St} {δ0 : FEnv} {R : It → Hp → Prop} {x : Option (DL.D × FEnv)} {k : DL.D → FEnv → ResI} (h : PostI G W Hb O H σ δ0 R (gaveI x k)) : ∃ d δ', x = some (d, δ') ∧ PostI G W Hb O H σ δ0 R (k d δ') := by
  cases x with
  | none => exact h.elim
  | some y => exact ⟨y.1, y.2, rfl, h⟩
theorem PostI.gaves {Hb : Hp} {O : Hid} {H : Hp} {σ : L2.St} {δ0 : FEnv} {R : It → Hp → Prop} {x : Option (List DL.D × FEnv)} {k : List DL.D → FEnv → ResI} (h : PostI G W Hb O H σ δ0 R (gaveIs x k)) : ∃ d δ', x = some (d, δ') ∧ PostI G W Hb O H σ δ0 R (k d δ') := by
  cases x with
  | none => exact h.elim
  | some y => exact ⟨y.1, y.2, rfl, h⟩
theorem PostI.seq {Hb : Hp} {O : Hid} {H : Hp} {σ : L2.St} {δ0 : FEnv} {R : It → Hp → Prop} {d : DL.D} {k : List DL.D → ResI} (h : PostI G W Hb O H σ δ0 R (seqI d k)) : ∃ ds, seqD d = some ds ∧ PostI G W Hb O H σ δ0 R (k ds) := by
  unfold seqI at h
  cases e : seqD d with
  | none => rw [e] at h; exact h.elim
  | some ds => rw [e] at h; exact ⟨ds, rfl, h⟩
/-- a readable sequence stands while its cell isn't hidden -/
theorem seq_at {O : Hid} {H : Hp} {d : DL.D} {ds : List DL.D} {v : V} (h : At G O H d v) (e : seqD d = some ds) : ∃ a vs k, v = .ref a ∧ vs.length ≤ sizeLine ∧ Ats G O H ds vs ∧ ∀ (O' : Hid) (H' : Hp), Mv O H O' H' → SqK k G.K H' a vs := by
  cases d with
  | tup es =>
    cases Option.some.inj e
    unfold At at h
    obtain ⟨a, vs, rfl, h1, hl, hs⟩ := h
    refine ⟨a, vs, true, rfl, hl, hs, fun O' H' m => ?_⟩
    rcases h1 with ⟨n, h1⟩ | h1
    · exact .inl (m.rd ntbl_tup n h1).2
    · exact .inr h1
  | lst es =>
    cases Option.some.inj e
    unfold At at h
    obtain ⟨a, vs, rfl, n, h1, hl, hs⟩ := h
    exact ⟨a, vs, false, rfl, hl, hs, fun O' H' m => .inl (.inl (m.keep _ _ h1 ntbl_lst n))⟩
  | scr ns =>
    cases Option.some.inj e
    unfold At at h
    obtain ⟨a, rfl, h1, hl⟩ := h
    exact ⟨a, _, false, rfl, by rw [List.length_map, sizeLine_eq]; omega, Ats.of_ints ns, fun O' H' m => h1.elim (fun z => .inl (m.rd ntbl_lst z.1 z.2).2) .inr⟩
  | _ => exact absurd (show (none : Option (List DL.D)) = some ds from e) (fun z => nomatch z)
def iLT (K : PySem.W.Frag) (tl : TE) : TI := fun σ H R => iList K tl σ H R ∨ iTup K tl σ H R
theorem yl_list {O : Hid} {H : Hp} {d : DL.D} {ds : List DL.D} {v : V} (h : At G O H d v) (e : seqD d = some ds) : ∃ a, v = .ref a ∧ ((∃ xs, SqL G.K H a xs) ∧ Yl G O (Itl G.K a) H ds ∨ (∃ xs, SqT G.K H a xs) ∧ Yl G O (Itt G.K a) H ds) := by
  obtain ⟨a, vs, k, rfl, hl, hs, hk⟩ := seq_at h e
  refine ⟨a, rfl, ?_⟩
  cases k with
  | false =>
    refine .inl ⟨⟨vs, hk O H (Mv.refl O H)⟩, by rw [← hs.length]; exact hl, fun i O' H' m ht => ⟨fun d' hd => ?_, fun hi => ?_⟩⟩
    · obtain ⟨x, hx, ha⟩ := hs.get hd
      have q : SqL G.K H' a vs := hk O' H' m
      refine ⟨⟨vs, x, q, hx⟩, fun x' H2 y => ?_⟩
      obtain ⟨rfl, f⟩ := y
      have := f vs q
      rw [hx] at this
      cases this
      exact ⟨Grow.refl, ha.mv m⟩
    · exact ⟨vs, hk O' H' m, by rw [hs.length, hi]; exact Nat.le_refl _⟩
  | true =>
    refine .inr ⟨⟨vs, hk O H (Mv.refl O H)⟩, by rw [← hs.length]; exact hl, fun i O' H' m ht => ⟨fun d' hd => ?_, fun hi => ?_⟩⟩
    · obtain ⟨x, hx, ha⟩ := hs.get hd
      have q : SqT G.K H' a vs := hk O' H' m
      refine ⟨⟨vs, x, q, hx⟩, fun x' H2 y => ?_⟩
      obtain ⟨rfl, f⟩ := y
      have := f vs q
      rw [hx] at this
      cases this
      exact ⟨Grow.refl, ha.mv m⟩
    · exact ⟨vs, hk O' H' m, by rw [hs.length, hi]; exact Nat.le_refl _⟩
theorem iv_val {m : Mz} (σ : L2.St) (H : Hp) (R : It → Hp → Prop) (h : Ev' G W (iVal m) σ H R) : iLT G.K (Ev G W m) σ H R := by
  obtain ⟨Hb, O, δ, S, h⟩ := h
  have h : PostI G W Hb O H σ δ R ((m δ).bindI fun r δ1 => gaveI (give δ1 r) fun d δ2 => seqI d fun ds => .ok ds δ2) := h
  cases e : m δ with
  | stuck => rw [e] at h; exact h.elim
  | err c d δ' =>
    rw [e] at h
    refine .inl ⟨Hb, O, δ, S, ?_⟩
    rw [e]; exact h
  | ok r δ1 =>
    rw [e] at h
    have h : PostI G W Hb O H σ δ R (gaveI (give δ1 r) fun d δ2 => seqI d fun ds => .ok ds δ2) := h
    obtain ⟨d, δ2, e2, h⟩ := PostI.gave h
    obtain ⟨ds, e3, h⟩ := PostI.seq h
    have go : ∀ (P : V → Hp → Prop), (∀ v H', Stp σ δ H σ δ2 H' → St G Hb O H' σ δ2 → At G (Ob O σ δ2) H' d v → P v H') → Ev G W m σ H P := fun P k => by
      refine ⟨Hb, O, δ, S, ?_⟩
      rw [e]
      intro v H' st S' hr _
      obtain ⟨S2, st2, a⟩ := S'.give hr.w e2
      exact k v H' (st.trans st2) S2 a
    have fin : ∀ v H', Stp σ δ H σ δ2 H' → St G Hb O H' σ δ2 → At G (Ob O σ δ2) H' d v → ∃ a, v = .ref a ∧ ((∃ xs, SqL G.K H' a xs) ∧ R (Itl G.K a) H' ∨ (∃ xs, SqT G.K H' a xs) ∧ R (Itt G.K a) H') := fun v H' st S' a => by
      obtain ⟨p, ev, q⟩ := yl_list a e3
      refine ⟨p, ev, ?_⟩
      rcases q with ⟨q1, q2⟩ | ⟨q1, q2⟩
      · exact .inl ⟨q1, h _ H' st S' q2⟩
      · exact .inr ⟨q1, h _ H' st S' q2⟩
    -- which of both: by the data
    cases d with
    | tup es =>
      refine .inr (go _ fun v H' st S' a => ?_)
      unfold At at a
      obtain ⟨p, vs, rfl, h1, hl, hs⟩ := a
      have he : es = ds := Option.some.inj e3
      subst he
      have kT : ∀ (O' : Hid) (H2 : Hp), Mv (Ob O σ δ2) H' O' H2 → SqT G.K H2 p vs := fun O' H2 m => by
        rcases h1 with ⟨n, h1⟩ | h1
        · exact .inl (m.rd ntbl_tup n h1).2
        · exact .inr h1
      have q : Yl G (Ob O σ δ2) (Itt G.K p) H' es := by
        refine ⟨by rw [← hs.length]; exact hl, fun i O' H2 m ht => ⟨fun d' hd => ?_, fun hi => ?_⟩⟩
        · obtain ⟨x, hx, ha⟩ := hs.get hd
          refine ⟨⟨vs, x, kT _ _ m, hx⟩, fun x' H3 y => ?_⟩
          obtain ⟨rfl, f⟩ := y
          have := f vs (kT _ _ m)
          rw [hx] at this
          cases this
          exact ⟨Grow.refl, ha.mv m⟩
        · exact ⟨vs, kT _ _ m, by rw [hs.length, hi]; exact Nat.le_refl _⟩
      exact ⟨p, rfl, ⟨vs, kT _ _ (Mv.refl _ _)⟩, h _ H' st S' q⟩
    | lst es =>
      refine .inl (go _ fun v H' st S' a => ?_)
      unfold At at a
      obtain ⟨p, vs, rfl, n, h1, hl, hs⟩ := a
      have he : es = ds := Option.some.inj e3
      subst he
      have q : Yl G (Ob O σ δ2) (Itl G.K p) H' es := by
        refine ⟨by rw [← hs.length]; exact hl, fun i O' H2 m ht => ⟨fun d' hd => ?_, fun hi => ?_⟩⟩
        all_goals have qT : SqL G.K H2 p vs := .inl (.inl (m.keep _ _ h1 ntbl_lst n))
        · obtain ⟨x, hx, ha⟩ := hs.get hd
          refine ⟨⟨vs, x, qT, hx⟩, fun x' H3 y => ?_⟩
          obtain ⟨rfl, f⟩ := y
          have := f vs qT
          rw [hx] at this
          cases this
          exact ⟨Grow.refl, ha.mv m⟩
        · exact ⟨vs, qT, by rw [hs.length, hi]; exact Nat.le_refl _⟩
      exact ⟨p, rfl, ⟨vs, .inl (.inl h1)⟩, h _ H' st S' q⟩
    | scr ns =>
      refine .inl (go _ fun v H' st S' a => ?_)
      unfold At at a
      obtain ⟨p, rfl, h1, hl⟩ := a
      have he : ns.map D.int = ds := Option.some.inj e3
      subst he
      have hs : Ats G (Ob O σ δ2) H' (ns.map D.int) (ns.map V.int) := Ats.of_ints ns
      have q : Yl G (Ob O σ δ2) (Itl G.K p) H' (ns.map D.int) := by
        refine ⟨by rw [List.length_map, sizeLine_eq]; omega, fun i O' H2 m ht => ⟨fun d' hd => ?_, fun hi => ?_⟩⟩
        all_goals have qT : SqL G.K H2 p (ns.map V.int) := h1.elim (fun z => .inl (m.rd ntbl_lst z.1 z.2).2) .inr
        · obtain ⟨x, hx, ha⟩ := hs.get hd
          refine ⟨⟨_, x, qT, hx⟩, fun x' H3 y => ?_⟩
          obtain ⟨rfl, f⟩ := y
          have := f _ qT
          rw [hx] at this
          cases this
          exact ⟨Grow.refl, ha.mv m⟩
        · exact ⟨_, qT, by rw [hs.length, hi]; exact Nat.le_refl _⟩
      exact ⟨p, rfl, ⟨_, h1.elim (fun z => .inl z.2) .inr⟩, h _ H' st S' q⟩
    | _ => exact absurd (show (none : Option (List DL.D)) = some ds from e3) (fun z => nomatch z)
/-! ### ranges -/
def rangeD (lo : Int) (n : Nat) : List DL.D := (List.range n).map fun (i : Nat) => D.int (lo + (i : Int))
def one62 (i : Int) : Bool := decide (-(2 ^ 62) ≤ i) && decide (i < 2 ^ 62)
def rangeR (lo hi : Int) (δ : FEnv) : ResI := if one62 lo = true ∧ one62 hi = true ∧ sz (hi - lo).toNat = true then .ok (rangeD lo (hi - lo).toNat) δ else .stuck
def int1I (rs : List Rz) (k : Int → ResI) : ResI := match rs with
  | [.val (.int j)] => k j
  | _ => .stuck
def int2I (rs : List Rz) (k : Int → Int → ResI) : ResI := match rs with
  | [.val (.int i), .val (.int j)] => k i j
  | _ => .stuck
def one1I (ds : List DL.D) (k : DL.D → ResI) : ResI := match ds with
  | [d] => k d
  | _ => .stuck
def one2I (ds : List DL.D) (k : DL.D → DL.D → ResI) : ResI := match ds with
  | [d, e] => k d e
  | _ => .stuck
theorem int1I_of {P : ResI → Prop} (hP : ¬ P .stuck) {rs : List Rz} {k : Int → ResI} (h : P (int1I rs k)) : ∃ j, rs = [.val (.int j)] ∧ P (k j) := by
  unfold int1I at h
  split at h
  · exact ⟨_, rfl, h⟩
  · exact absurd h hP
theorem int2I_of {P : ResI → Prop} (hP : ¬ P .stuck) {rs : List Rz} {k : Int → Int → ResI} (h : P (int2I rs k)) : ∃ i j, rs = [.val (.int i), .val (.int j)] ∧ P (k i j) := by
  unfold int2I at h
  split at h
  · exact ⟨_, _, rfl, h⟩
  · exact absurd h hP
theorem one1I_of {P : ResI → Prop} (hP : ¬ P .stuck) {rs : List DL.D} {k : DL.D → ResI} (h : P (one1I rs k)) : ∃ j, rs = [j] ∧ P (k j) := by
  unfold one1I at h
  split at h
  · exact ⟨_, rfl, h⟩
  · exact absurd h hP
theorem one2I_of {P : ResI → Prop} (hP : ¬ P .stuck) {rs : List DL.D} {k : DL.D → DL.D → ResI} (h : P (one2I rs k)) : ∃ i j, rs = [i, j] ∧ P (k i j) := by
  unfold one2I at h
  split at h
  · exact ⟨_, _, rfl, h⟩
  · exact absurd h hP
def iRange1 (m : Mz) : Iz := fun δ => (mArgs [m] δ).bindI fun rs δ1 => int1I rs fun j => rangeR 0 j δ1
def iRange2 (m n : Mz) : Iz := fun δ => (mArgs [m, n] δ).bindI fun rs δ1 => int2I rs fun i j => rangeR i j δ1
theorem one62_iff {i : Int} (h : one62 i = true) : -(2 ^ 62) ≤ i ∧ i < 2 ^ 62 := by
  unfold one62 at h
  rw [Bool.and_eq_true] at h
  exact ⟨of_decide_eq_true h.1, of_decide_eq_true h.2⟩
theorem yl_range {O : Hid} {H : Hp} {lo : Int} {n : Nat} (hn : n ≤ sizeLine) : Yl G O (Itr lo n) H (rangeD lo n) := by
  refine ⟨by unfold rangeD; rw [List.length_map, List.length_range]; exact hn, fun i O' H' m ht => ⟨fun d hd => ?_, fun hi => ?_⟩⟩
  · unfold rangeD at hd
    rw [List.getElem?_map] at hd
    obtain ⟨j, e1, e2⟩ := Option.map_eq_some_iff.mp hd
    have hj := List.getElem?_eq_some_iff.mp e1
    obtain ⟨hj1, hj2⟩ := hj
    rw [List.length_range] at hj1
    rw [List.getElem_range] at hj2
    subst hj2
    subst e2
    refine ⟨hj1, fun x H2 y => ?_⟩
    obtain ⟨rfl, rfl⟩ := y
    exact ⟨Grow.refl, at_int⟩
  · unfold rangeD at hi
    rw [List.length_map, List.length_range] at hi
    show n ≤ i
    omega
theorem PostI.rangeR {Hb : Hp} {O : Hid} {H : Hp} {σ : L2.St} {δ δ0 : FEnv} {R : It → Hp → Prop} {lo hi : Int} (h : PostI G W Hb O H σ δ0 R (rangeR lo hi δ)) :
    (-(2 ^ 62) ≤ lo ∧ lo < 2 ^ 62 ∧ -(2 ^ 62) ≤ hi ∧ hi < 2 ^ 62) ∧ (hi - lo).toNat ≤ sizeLine ∧ PostI G W Hb O H σ δ0 R (.ok (rangeD lo (hi - lo).toNat) δ) := by
  unfold DL.rangeR at h
  by_cases c : one62 lo = true ∧ one62 hi = true ∧ sz (hi - lo).toNat = true
  · rw [if_pos c] at h
    obtain ⟨c1, c2, c3⟩ := c
    exact ⟨⟨(one62_iff c1).1, (one62_iff c1).2, (one62_iff c2).1, (one62_iff c2).2⟩, sz_line c3, h⟩
  · rw [if_neg c] at h; exact h.elim
theorem rats_one {Hb : Hp} {O : Hid} {H : Hp} {σ : L2.St} {δ : FEnv} {vs : List V} {r : Rz} (h : RAts G Hb O H σ δ vs [r]) : ∃ v, vs = [v] ∧ RAt G Hb O H σ δ v r := by
  cases vs with
  | nil => exact h.elim
  | cons v ws =>
    cases ws with
    | nil => exact ⟨v, rfl, h.1⟩
    | cons _ _ => exact h.2.elim
theorem rats_two {Hb : Hp} {O : Hid} {H : Hp} {σ : L2.St} {δ : FEnv} {vs : List V} {r r' : Rz} (h : RAts G Hb O H σ δ vs [r, r']) : ∃ v w, vs = [v, w] ∧ RAt G Hb O H σ δ v r ∧ RAt G Hb O H σ δ w r' := by
  cases vs with
  | nil => exact h.elim
  | cons v ws =>
    obtain ⟨w, e, h2⟩ := rats_one h.2
    subst e
    exact ⟨v, w, rfl, h.1, h2⟩
theorem iv_range1 {m : Mz} (σ : L2.St) (H : Hp) (R : It → Hp → Prop) (h : Ev' G W (iRange1 m) σ H R) : iRng1 (EvA G W [m]) σ H R := by
  obtain ⟨Hb, O, δ, S, h⟩ := h
  refine ⟨Hb, O, δ, S, PostI.bindA h fun rs δ1 vs H1 ex st1 S1 r1 h1 => ?_⟩
  obtain ⟨j, rfl, h1⟩ := int1I_of (P := PostI G W Hb O H1 σ δ1 R) (fun z => z) h1
  obtain ⟨v, rfl, rv⟩ := rats_one r1
  have rv : At G (Ob O σ δ1) H1 (.int j) v := rv
  unfold At at rv
  subst rv
  obtain ⟨hb, hs, h2⟩ := PostI.rangeR h1
  rw [Int.sub_zero] at hs h2
  exact ⟨j, rfl, hb.2.2.1, hb.2.2.2, h2 _ H1 Stp.refl S1 (yl_range hs)⟩
theorem iv_range2 {m n : Mz} (σ : L2.St) (H : Hp) (R : It → Hp → Prop) (h : Ev' G W (iRange2 m n) σ H R) : iRng2 (EvA G W [m, n]) σ H R := by
  obtain ⟨Hb, O, δ, S, h⟩ := h
  refine ⟨Hb, O, δ, S, PostI.bindA h fun rs δ1 vs H1 ex st1 S1 r1 h1 => ?_⟩
  obtain ⟨i, j, rfl, h1⟩ := int2I_of (P := PostI G W Hb O H1 σ δ1 R) (fun z => z) h1
  obtain ⟨v, w, rfl, rv, rw'⟩ := rats_two r1
  have rv : At G (Ob O σ δ1) H1 (.int i) v := rv
  have rw' : At G (Ob O σ δ1) H1 (.int j) w := rw'
  unfold At at rv rw'
  subst rv rw'
  obtain ⟨hb, hs, h2⟩ := PostI.rangeR h1
  exact ⟨i, j, rfl, hb, h2 _ H1 Stp.refl S1 (yl_range hs)⟩
/-! ### enumerate, zip -/
def pairD (x y : DL.D) : DL.D := .tup [x, y]
def enumD (ds : List DL.D) : List DL.D := ds.zipIdx.map fun p => .tup [.int (p.2 : Nat), p.1]
def zipD (xs ys : List DL.D) : List DL.D := (xs.zip ys).map fun p => .tup [p.1, p.2]
def iEnum1 (m : Mz) : Iz := fun δ => (mArgs [m] δ).bindI fun rs δ1 => gaveIs (giveAll rs δ1) fun ds δ2 => one1I ds fun d => seqI d fun ds => .ok (enumD ds) δ2
def iZip2 (m n : Mz) : Iz := fun δ => (mArgs [m, n] δ).bindI fun rs δ1 => gaveIs (giveAll rs δ1) fun ds δ2 => one2I ds fun d e => seqI d fun xs => seqI e fun ys => .ok (zipD xs ys) δ2
theorem ats_one {O : Hid} {H : Hp} {d : DL.D} {vs : List V} (h : Ats G O H [d] vs) : ∃ v, vs = [v] ∧ At G O H d v := by
  unfold Ats at h
  obtain ⟨v, ws, rfl, h1, h2⟩ := h
  unfold Ats at h2
  subst h2
  exact ⟨v, rfl, h1⟩
theorem ats_two {O : Hid} {H : Hp} {d e : DL.D} {vs : List V} (h : Ats G O H [d, e] vs) : ∃ v w, vs = [v, w] ∧ At G O H d v ∧ At G O H e w := by
  unfold Ats at h
  obtain ⟨v, ws, rfl, h1, h2⟩ := h
  obtain ⟨w, rfl, h3⟩ := ats_one h2
  exact ⟨v, w, rfl, h1, h3⟩
theorem iv_enum {m : Mz} (σ : L2.St) (H : Hp) (R : It → Hp → Prop) (h : Ev' G W (iEnum1 m) σ H R) : iEnumK G.K (EvA G W [m]) σ H R := by
  obtain ⟨Hb, O, δ, S, h⟩ := h
  refine ⟨Hb, O, δ, S, PostI.bindA h fun rs δ1 vs H1 ex st1 S1 r1 h1 => ?_⟩
  obtain ⟨ds, δ2, e2, h2⟩ := PostI.gaves h1
  obtain ⟨S2, st2, a2⟩ := S1.giveAll (r1.wats (nf_args ex)) e2
  obtain ⟨d, rfl, h2⟩ := one1I_of (P := PostI G W Hb O H1 σ δ1 R) (fun z => z) h2
  · skip
    obtain ⟨v, rfl, av⟩ := ats_one a2
    obtain ⟨es, e3, h3⟩ := PostI.seq h2
    obtain ⟨a, xs, k, rfl, hl, hs, hk⟩ := seq_at av e3
    refine ⟨k, a, xs, rfl, hk _ H1 (Mv.refl _ _), h3 _ H1 st2 S2 ?_⟩
    have hlen : (enumD es).length = es.length := by unfold enumD; rw [List.length_map, List.length_zipIdx]
    refine ⟨by rw [hlen, ← hs.length]; exact hl, fun i O' H' m ht => ⟨fun d' hd => ?_, fun hi => ⟨hk _ _ m, by rw [hs.length, ← hlen]; exact hi⟩⟩⟩
    unfold enumD at hd
    rw [List.getElem?_map] at hd
    obtain ⟨p, e1, rfl⟩ := Option.map_eq_some_iff.mp hd
    rw [List.getElem?_zipIdx] at e1
    obtain ⟨y, e4, e5⟩ := Option.map_eq_some_iff.mp e1
    cases e5
    obtain ⟨x, hx, hax⟩ := hs.get e4
    refine ⟨⟨hk _ _ m, (List.getElem?_eq_some_iff.mp hx).1⟩, fun v H2 yy => ?_⟩
    obtain ⟨T, x', rfl, nT, rfl, hx'⟩ := yy
    rw [hx] at hx'
    cases hx'
    refine ⟨Grow.new nT, at_new ht nT (by show 2 ≤ sizeLine; decide) (Ats.cons ?_ (Ats.one (hax.mv m)))⟩
    have : ((0 + i : Nat) : Int) = (i : Int) := by rw [Nat.zero_add]
    rw [this]
    exact at_int
theorem iv_zip {m n : Mz} (σ : L2.St) (H : Hp) (R : It → Hp → Prop) (h : Ev' G W (iZip2 m n) σ H R) : iZipK G.K (EvA G W [m, n]) σ H R := by
  obtain ⟨Hb, O, δ, S, h⟩ := h
  refine ⟨Hb, O, δ, S, PostI.bindA h fun rs δ1 vs H1 ex st1 S1 r1 h1 => ?_⟩
  obtain ⟨ds, δ2, e2, h2⟩ := PostI.gaves h1
  obtain ⟨S2, st2, a2⟩ := S1.giveAll (r1.wats (nf_args ex)) e2
  obtain ⟨d, e, rfl, h2⟩ := one2I_of (P := PostI G W Hb O H1 σ δ1 R) (fun z => z) h2
  · skip
    obtain ⟨v, w, rfl, av, aw⟩ := ats_two a2
    obtain ⟨es, e3, h3⟩ := PostI.seq h2
    obtain ⟨fs, e4, h4⟩ := PostI.seq h3
    obtain ⟨a, xs, k, rfl, hl, hs, hk⟩ := seq_at av e3
    obtain ⟨b, ys, l, rfl, hl', hs', hk'⟩ := seq_at aw e4
    refine ⟨k, l, a, b, xs, ys, rfl, hk _ H1 (Mv.refl _ _), hk' _ H1 (Mv.refl _ _), h4 _ H1 st2 S2 ?_⟩
    have hlen : (zipD es fs).length = min es.length fs.length := by unfold zipD; rw [List.length_map, List.length_zip]
    refine ⟨by rw [hlen, ← hs.length]; exact Nat.le_trans (Nat.min_le_left _ _) hl, fun i O' H' m ht => ⟨fun d' hd => ?_, fun hi => ⟨⟨hk _ _ m, hk' _ _ m⟩, by rw [hs.length, hs'.length, ← hlen]; exact hi⟩⟩⟩
    unfold zipD at hd
    rw [List.getElem?_map] at hd
    obtain ⟨p, e1, rfl⟩ := Option.map_eq_some_iff.mp hd
    rw [List.getElem?_zip_eq_some] at e1
    obtain ⟨x, hx, hax⟩ := hs.get e1.1
    obtain ⟨y, hy, hay⟩ := hs'.get e1.2
    have b1 := (List.getElem?_eq_some_iff.mp hx).1
    have b2 := (List.getElem?_eq_some_iff.mp hy).1
    refine ⟨⟨⟨hk _ _ m, hk' _ _ m⟩, by omega⟩, fun v H2 yy => ?_⟩
    obtain ⟨T, x', y', rfl, nT, rfl, hx', hy'⟩ := yy
    rw [hx] at hx'
    rw [hy] at hy'
    cases hx'
    cases hy'
    exact ⟨Grow.new nT, at_new ht nT (by show 2 ≤ sizeLine; decide) (Ats.cons (hax.mv m) (Ats.one (hay.mv m)))⟩

/-! ### the loop -/
/-- a turn's end: on to the next turn, or out -/
def Out.loop (x : Out) (k : FEnv → Out) : Out := match x with
  | .nx δ => k δ
  | .ct δ => k δ
  | .bk δ => .nx δ
  | .rt r δ => .rt r δ
  | .er c d δ => .er c d δ
  | .stuck => .stuck
def optS (x : Option FEnv) (k : FEnv → Out) : Out := match x with
  | some δ => k δ
  | none => .stuck
def forRun (t : Tz) (body : Sz) : List DL.D → FEnv → Out
  | [], δ => .nx δ
  | d :: ds, δ => optS (t d δ) fun δ1 => (body δ1).loop fun δ2 => forRun t body ds δ2
def ResI.bindS (x : ResI) (k : List DL.D → FEnv → Out) : Out := match x with
  | .ok r δ => k r δ
  | .err c d δ => .er c d δ
  | .stuck => .stuck
def sFor (it : Iz) (t : Tz) (body : Sz) : Sz := fun δ => (it δ).bindS fun ds δ1 => forRun t body ds δ1
theorem sv_for {it : Iz} {t : Tz} {g : TG} {vs : List Nat} {body : Sz} (ht : Tv G vs t g) (D : Ends) (σ : L2.St) (H : Hp) (h : Sv G W (sFor it t body) D σ H) : tFor (Ev' G W it) g (Sv G W body) D σ H := by
  obtain ⟨Hb, O, δ, S, h⟩ := h
  have h : PostS G W Hb O H σ δ D ((it δ).bindS fun ds δ1 => forRun t body ds δ1) := h
  refine ⟨Hb, O, δ, S, ?_⟩
  cases e : it δ with
  | stuck => rw [e] at h; exact h
  | err c d δ' => rw [e] at h; exact fun dx v H' st S' a e => h dx v σ H' st S' a e
  | ok ds δ1 =>
    rw [e] at h
    have h : PostS G W Hb O H σ δ D (forRun t body ds δ1) := h
    intro J H1 st1 S1 yl
    have h := PostS.after st1 h
    refine ⟨fun i m σi Hi => m = ds.length - i ∧ i ≤ ds.length ∧ ∃ δi, Stp σ δ1 H1 σi δi Hi ∧ St G Hb O Hi σi δi ∧ PostS G W Hb O Hi σi δi D (forRun t body (ds.drop i) δi),
      ⟨ds.length, rfl, Nat.zero_le _, δ1, Stp.refl, S1, h⟩, ?_⟩
    rintro i m σi Hi ⟨rfl, hi, δi, sti, Si, hh⟩
    obtain ⟨y1, y2⟩ := yl.2 i (Ob O σi δi) Hi (S1.mv sti) Si.tracked
    by_cases hlt : i < ds.length
    · have hd : ds[i]? = some ds[i] := by simp [hlt]
      obtain ⟨go, yld⟩ := y1 _ hd
      refine .inr ⟨go, fun σ' H' => ds.length - (i + 1) = ds.length - (i + 1) ∧ i + 1 ≤ ds.length ∧ ∃ δi, Stp σ δ1 H1 σ' δi H' ∧ St G Hb O H' σ' δi ∧ PostS G W Hb O H' σ' δi D (forRun t body (ds.drop (i + 1)) δi), fun σ' H' q => ⟨ds.length - (i + 1), by omega, q⟩, fun x H' y => ?_⟩
      obtain ⟨gr, ax⟩ := yld x H' y
      have S2 := Si.grow gr
      rw [List.drop_eq_getElem_cons hlt] at hh
      unfold forRun at hh
      cases e1 : t ds[i] δi with
      | none => rw [e1] at hh; exact hh.elim
      | some δ2 =>
        rw [e1] at hh
        have hh : PostS G W Hb O Hi σi δi D ((body δ2).loop fun δ2 => forRun t body (ds.drop (i + 1)) δ2) := hh
        refine ht _ x δi δ2 Hb O H' σi _ S2 ax e1 fun σ2 S3 st3 _ _ => ?_
        have stx : Stp σi δi Hi σ2 δ2 H' := (gr.stp).trans st3
        refine ⟨Hb, O, δ2, S3, ?_⟩
        have hh := PostS.after stx hh
        cases e2 : body δ2 with
        | nx δ3 =>
          rw [e2] at hh
          exact fun σ' H4 st4 S4 => ⟨rfl, by omega, δ3, (sti.trans stx).trans st4, S4, PostS.after st4 hh⟩
        | ct δ3 =>
          rw [e2] at hh
          exact fun σ' H4 st4 S4 => ⟨rfl, by omega, δ3, (sti.trans stx).trans st4, S4, PostS.after st4 hh⟩
        | bk δ3 => rw [e2] at hh; exact hh
        | rt r δ3 => rw [e2] at hh; exact hh
        | er c d δ3 => rw [e2] at hh; exact hh
        | stuck => rw [e2] at hh; exact hh
    · have ei : i = ds.length := by omega
      refine .inl ⟨y2 ei, ?_⟩
      rw [ei, List.drop_length] at hh
      exact hh σi Hi Stp.refl Si
end
end DL
/-! DL9: comprehensions. -/
namespace DL
open PySem PySem.Spec PyProof.Rows L2
/-! ### slots forgotten, and given back -/
def wipeE (δ : FEnv) : List Nat → FEnv
  | [] => δ
  | v :: vs => (wipeE δ vs).set v none
def noOwn (δ : FEnv) (vs : List Nat) : Bool := vs.all fun i => match δ[i]? with
  | some (some (.own _ _)) => false
  | _ => true
def backE (δ0 δ : FEnv) : List Nat → FEnv
  | [] => δ
  | v :: vs => (backE δ0 δ vs).set v (δ0[v]?.getD none)
theorem wipeE_len (δ : FEnv) : ∀ vs, (wipeE δ vs).length = δ.length
  | [] => rfl
  | v :: vs => by unfold wipeE; rw [List.length_set, wipeE_len δ vs]
theorem wipeE_out {δ : FEnv} {i : Nat} : ∀ {vs : List Nat}, i ∉ vs → (wipeE δ vs)[i]? = δ[i]?
  | [], _ => rfl
  | v :: vs, h => by
    unfold wipeE
    rw [List.getElem?_set_ne (fun e => h (by rw [e]; exact List.mem_cons_self)), wipeE_out fun z => h (List.mem_cons_of_mem _ z)]
theorem wipeE_in {δ : FEnv} {i : Nat} {e : SE} : ∀ {vs : List Nat}, i ∈ vs → (wipeE δ vs)[i]? ≠ some (some e)
  | v :: vs, h => by
    unfold wipeE
    by_cases z : v = i
    · subst z
      intro q
      rw [List.getElem?_set] at q
      simp only [if_true] at q
      split at q <;> cases q
    · rw [List.getElem?_set_ne z]
      rcases List.mem_cons.mp h with h | h
      · exact absurd h.symm z
      · exact wipeE_in h
theorem backE_len (δ0 δ : FEnv) : ∀ vs, (backE δ0 δ vs).length = δ.length
  | [] => rfl
  | v :: vs => by unfold backE; rw [List.length_set, backE_len δ0 δ vs]
theorem backE_out {δ0 δ : FEnv} {i : Nat} : ∀ {vs : List Nat}, i ∉ vs → (backE δ0 δ vs)[i]? = δ[i]?
  | [], _ => rfl
  | v :: vs, h => by
    unfold backE
    rw [List.getElem?_set_ne (fun e => h (by rw [e]; exact List.mem_cons_self)), backE_out fun z => h (List.mem_cons_of_mem _ z)]
theorem backE_in {δ0 δ : FEnv} {i : Nat} {e : SE} : ∀ {vs : List Nat}, i ∈ vs → (backE δ0 δ vs)[i]? = some (some e) → δ0[i]? = some (some e)
  | v :: vs, h, q => by
    unfold backE at q
    by_cases z : v = i
    · subst z
      rw [List.getElem?_set] at q
      simp only [if_true] at q
      split at q
      · have q := Option.some.inj q
        cases e0 : δ0[v]? with
        | none => rw [e0] at q; cases q
        | some s => rw [e0] at q; exact congrArg some q
      · cases q
    · rw [List.getElem?_set_ne z] at q
      rcases List.mem_cons.mp h with h | h
      · exact absurd h.symm z
      · exact backE_in h q
theorem noOwn_at {δ : FEnv} {vs : List Nat} (h : noOwn δ vs = true) {i : Nat} (hi : i ∈ vs) (b : Bool) (ds : List DL.D) : δ[i]? ≠ some (some (.own b ds)) := fun e => by
  have := List.all_eq_true.mp h i hi
  rw [e] at this
  cases this
section
variable {G : Ctx} {W : WX} {Hb : Hp} {O : Hid} {H H1 H' : Hp} {σ σ' : L2.St} {δ δ0 δ1 δ' δw : FEnv}
theorem own_wipe {vs : List Nat} {p : Addr} (h : Own (wipe σ vs) (wipeE δ vs) p) : Own σ δ p := by
  obtain ⟨i, a, b, ds, c⟩ := h
  have hi : i ∉ vs := fun z => wipeE_in z c
  rw [wipe_out hi] at a
  rw [wipeE_out hi] at c
  exact ⟨i, a, b, ds, c⟩
theorem own_wipe' {vs : List Nat} {p : Addr} (n : noOwn δ vs = true) (h : Own σ δ p) : Own (wipe σ vs) (wipeE δ vs) p := by
  obtain ⟨i, a, b, ds, c⟩ := h
  have hi : i ∉ vs := fun z => noOwn_at n z b ds c
  exact ⟨i, by rw [wipe_out hi]; exact a, b, ds, by rw [wipeE_out hi]; exact c⟩
theorem St.wiped (S : St G Hb O H σ δ) {vs : List Nat} : St G Hb O H (wipe σ vs) (wipeE δ vs) := by
  have mv : Mv (Ob O σ δ) H (Ob O (L2.wipe σ vs) (wipeE δ vs)) H := ⟨fun _ _ h _ _ => h, fun b z => .inl (by
    rcases z with z | z
    · exact .inl z
    · exact .inr (own_wipe z))⟩
  refine ⟨by rw [wipe_length, wipeE_len]; exact S.len, S.tb, S.trb, S.hid, fun j d' e => ?_, fun j b es e => ?_, fun j k q a b => ?_⟩
  · have hj : j ∉ vs := fun z => wipeE_in z e
    rw [wipeE_out hj] at e
    obtain ⟨u, a, b⟩ := S.val j d' e
    exact ⟨u, by rw [wipe_out hj]; exact a, b.mv mv⟩
  · have hj : j ∉ vs := fun z => wipeE_in z e
    rw [wipeE_out hj] at e
    obtain ⟨p', vs', a1, a2, a3, a4, a5, a6⟩ := S.own j b es e
    exact ⟨p', vs', by rw [wipe_out hj]; exact a1, a2, a3, a4, a5, a6.mv mv⟩
  · have hj : j ∉ vs := fun z => by obtain ⟨_, _, _, c⟩ := a; exact wipeE_in z c
    have hk : k ∉ vs := fun z => by obtain ⟨_, _, _, c⟩ := b; exact wipeE_in z c
    obtain ⟨a1, b1, d1, c1⟩ := a
    obtain ⟨a2, b2, d2, c2⟩ := b
    rw [wipe_out hj] at a1
    rw [wipe_out hk] at a2
    rw [wipeE_out hj] at c1
    rw [wipeE_out hk] at c2
    exact S.inj j k q ⟨a1, b1, d1, c1⟩ ⟨a2, b2, d2, c2⟩
/-- behind the block: its slots are again what they were -/
theorem St.back {vs : List Nat} {O' : Hid} (hO : ∀ b, O' b → O b ∨ H1 b = none) (S1 : St G Hb O H1 σ δ1) (n : noOwn δ1 vs = true) (Sw : St G Hb O' H (wipe σ vs) δw) (st : Stp (wipe σ vs) (wipeE δ1 vs) H1 (wipe σ vs) δw H) :
    St G Hb O' H σ (backE δ1 δw vs) ∧ Stp σ δ1 H1 σ (backE δ1 δw vs) H ∧ ∀ q, Own σ (backE δ1 δw vs) q → Own (wipe σ vs) δw q := by
  have osub : ∀ j q, OwnAt σ (backE δ1 δw vs) j q → OwnAt (L2.wipe σ vs) δw j q := fun j q ⟨a, b, ds, c⟩ => by
    have hj : j ∉ vs := fun z => noOwn_at n z b ds (backE_in z c)
    rw [backE_out hj] at c
    exact ⟨by rw [wipe_out hj]; exact a, b, ds, c⟩
  have osub' : ∀ q, Own σ (backE δ1 δw vs) q → Own (L2.wipe σ vs) δw q := fun q ⟨j, z⟩ => ⟨j, osub j q z⟩
  have stp : Stp σ δ1 H1 σ (backE δ1 δw vs) H := ⟨fun b o e nt q => st.keep b o e nt fun z => q (own_wipe z), fun q z => by
    rcases st.own q (osub' q z) with k | k
    · exact .inl (own_wipe k)
    · exact .inr k, st.trk, fun i ⟨ds, hi⟩ => by
      have hv : i ∉ vs := fun z => noOwn_at n z true ds hi
      obtain ⟨⟨es, q⟩, _⟩ := st.par i ⟨ds, by rw [wipeE_out hv]; exact hi⟩
      exact ⟨⟨es, by rw [backE_out hv]; exact q⟩, rfl⟩⟩
  have mw : Mv (Ob O' (L2.wipe σ vs) δw) H (Ob O' σ (backE δ1 δw vs)) H := ⟨fun _ _ h _ _ => h, fun b z => .inl (by
    rcases z with z | z
    · exact .inl z
    · exact .inr (osub' b z))⟩
  have m1 : Mv (Ob O σ δ1) H1 (Ob O' σ (backE δ1 δw vs)) H := ⟨fun b o e nt q => stp.keep b o e nt fun z => q (.inr z), fun b z => by
    rcases z with z | z
    · rcases hO b z with k | k
      · exact .inl (.inl k)
      · exact .inr k
    · rcases stp.own b z with k | k
      · exact .inl (.inr k)
      · exact .inr k⟩
  refine ⟨⟨?_, Sw.tb, Sw.trb, Sw.hid, fun j d' e => ?_, fun j b es e => ?_, fun j k q a b => Sw.inj j k q (osub j q a) (osub k q b)⟩, stp, osub'⟩
  · rw [backE_len, ← Sw.len, wipe_length]
  · by_cases hj : j ∈ vs
    · obtain ⟨u, a, b⟩ := S1.val j d' (backE_in hj e)
      exact ⟨u, a, b.mv m1⟩
    · rw [backE_out hj] at e
      obtain ⟨u, a, b⟩ := Sw.val j d' e
      rw [wipe_out hj] at a
      exact ⟨u, a, b.mv mw⟩
  · have hj : j ∉ vs := fun z => noOwn_at n z b es (backE_in z e)
    rw [backE_out hj] at e
    obtain ⟨p', vs', a1, a2, a3, a4, a5, a6⟩ := Sw.own j b es e
    rw [wipe_out hj] at a1
    exact ⟨p', vs', a1, a2, a3, a4, a5, a6.mv mw⟩
theorem St.unhide {p : Addr} (S : St G Hb (Oa O p) H σ δ) : St G Hb O H σ δ := by
  have mv : Mv (Ob (Oa O p) σ δ) H (Ob O σ δ) H := ⟨fun _ _ h _ _ => h, fun b z => .inl (obOa z)⟩
  exact ⟨S.len, S.tb, S.trb, fun q h => S.hid q (.inl h), fun i d h => let ⟨v, e, q⟩ := S.val i d h; ⟨v, e, q.mv mv⟩,
    fun i b ds h => let ⟨r, vs, e, hp, hl, hb, ho, q⟩ := S.own i b ds h; ⟨r, vs, e, hp, hl, hb, fun z => ho (.inl z), q.mv mv⟩, S.inj⟩
/-- the hidden list at p takes another content -/
theorem updHid_mv {p : Addr} {xs : List V} : Mv (Ob (Oa O p) σ δ) H (Ob (Oa O p) σ δ) (upd H p (.lst xs)) :=
  ⟨fun b o e _ n => by rw [upd_ne (fun z => n (.inl (.inr z)))]; exact e, fun b z => .inl z⟩
theorem tabs_updL {T : List NdefX.NTab} {p : Addr} {xs ys : List V} (h : NdefX.TabsN T H) (hp : H p = some (.lst ys)) : NdefX.TabsN T (upd H p (.lst xs)) := fun q hq => by
  obtain ⟨ps, h1, h2, h3⟩ := h q hq
  have ne : ∀ b (o : HO), H b = some o → (∀ zs, o ≠ .lst zs) → b ≠ p := fun b o e n z => by
    rw [z, hp] at e
    exact n ys (Option.some.inj e).symm
  refine ⟨ps, by rw [upd_ne (ne _ _ h1 fun zs z => by cases z)]; exact h1, h2, fun pos cv hc => ?_⟩
  obtain ⟨c, e1, e2⟩ := h3 pos cv hc
  exact ⟨c, e1, by rw [upd_ne (ne _ _ e2 fun zs z => by unfold LamX.CodeO at z; cases z)]; exact e2⟩
theorem St.updHid {p : Addr} {xs ys : List V} (S : St G Hb (Oa O p) H σ δ) (hp : H p = some (.lst ys)) : St G Hb (Oa O p) (upd H p (.lst xs)) σ δ := by
  refine ⟨S.len, tabs_updL S.tb hp, fun b h => ?_, fun q h => ?_, fun i d h => let ⟨v, e, q⟩ := S.val i d h; ⟨v, e, q.mv updHid_mv⟩,
    fun i b ds h => let ⟨r, vs, e, hr, hl, hb, ho, q⟩ := S.own i b ds h; ⟨r, vs, e, by rw [upd_ne (fun z => ho (.inr z))]; exact hr, hl, hb, ho, q.mv updHid_mv⟩, S.inj⟩
  · by_cases z : b = p
    · subst z; rw [upd_same] at h; cases h
    · rw [upd_ne z] at h; exact S.trb b h
  · by_cases z : q = p
    · subst z; exact LD.l upd_same
    · exact (S.hid q h).kp fun o e _ => by rw [upd_ne z]; exact e
theorem Stp.updNew {p : Addr} {xs : List V} {H0 : Hp} (st : Stp σ δ H0 σ' δ' H) (hn : H0 p = none) : Stp σ δ H0 σ' δ' (upd H p (.lst xs)) :=
  ⟨fun b o e n q => by rw [upd_ne (ne_of_none e hn)]; exact st.keep b o e n q, st.own, fun b h => by
    by_cases z : b = p
    · subst z; exact hn
    · rw [upd_ne z] at h; exact st.trk b h, st.par⟩
theorem Stp.wiped {vs : List Nat} {H0 : Hp} (st : Stp σ δ H0 σ' δ' H) (hp : ∀ i, IsPar δ i → i ∉ vs) : Stp σ δ H0 (wipe σ' vs) (wipeE δ' vs) H :=
  ⟨st.keep, fun p z => st.own p (own_wipe z), st.trk, fun i hi => by
    obtain ⟨⟨ds, q⟩, e⟩ := st.par i hi
    have hv := hp i hi
    exact ⟨⟨ds, by rw [wipeE_out hv]; exact q⟩, by rw [wipe_out hv]; exact e⟩⟩
theorem wipe_in {i : Nat} : ∀ {vs : List Nat}, i ∈ vs → (wipe σ vs)[i]? = if i < σ.length then some none else none
  | v :: vs, h => by
    unfold wipe
    by_cases z : v = i
    · subst z
      rw [List.getElem?_set]
      simp [wipe_length]
    · rw [List.getElem?_set_ne z]
      rcases List.mem_cons.mp h with h | h
      · exact absurd h.symm z
      · exact wipe_in h
theorem wipe_eq {vs : List Nat} (hl : σ'.length = (wipe σ vs).length) (h : ∀ j, j ∉ vs → σ'[j]? = (wipe σ vs)[j]?) : wipe σ' vs = wipe σ vs := by
  apply List.ext_getElem?
  intro j
  by_cases z : j ∈ vs
  · rw [wipe_in z, wipe_in z, hl, wipe_length]
  · rw [wipe_out z, h j z]
end

/-! ### the comprehension -/
def condR (x : Res) (k : Bool → FEnv → ResI) : ResI := match x with
  | .ok (.val (.bl b)) δ' => k b δ'
  | _ => .stuck
def condC (c : Option Mz) (δ : FEnv) (k : Bool → FEnv → ResI) : ResI := match c with
  | none => k true δ
  | some m => condR (m δ) k
def optI (x : Option FEnv) (k : FEnv → ResI) : ResI := match x with
  | some δ => k δ
  | none => .stuck
def eltI (x : Res) (k : DL.D → FEnv → ResI) : ResI := match x with
  | .ok r δ => gaveI (give δ r) k
  | _ => .stuck
def compRun (t : Tz) (c : Option Mz) (e : Mz) (vs : List Nat) : List DL.D → List DL.D → FEnv → ResI
  | [], acc, δ => .ok acc δ
  | d :: ds, acc, δ => optI (t d δ) fun δ1 => condC c δ1 fun b δ2 => if b = true then eltI (e δ2) fun y δ3 => compRun t c e vs ds (acc ++ [y]) (wipeE δ3 vs) else compRun t c e vs ds acc (wipeE δ2 vs)
def ResI.bind (x : ResI) (k : List DL.D → FEnv → Res) : Res := match x with
  | .ok r δ => k r δ
  | .err c d δ => .err c d δ
  | .stuck => .stuck
/-- what is no error -/
def ResI.calm (x : ResI) : ResI := match x with
  | .ok r δ => .ok r δ
  | _ => .stuck
def mComp (it : Iz) (t : Tz) (c : Option Mz) (e : Mz) (vs : List Nat) : Mz := fun δ => (it δ).bind fun ds δ1 => if noOwn δ1 vs = true then (compRun t c e vs ds [] (wipeE δ1 vs)).calm.bind fun acc δw => .ok (.fr acc) (backE δ1 δw vs) else .stuck
def EvC (G : Ctx) : Option Mz → TT
  | none => tYes
  | some m => EvT G W0 m
theorem ev_comp {G : Ctx} {W : WX} {it : Iz} {t : Tz} {g : TG} {c : Option Mz} {e : Mz} {vs : List Nat} (ht : Tv G vs t g) (σ : L2.St) (H : Hp) (Q : VK) (h : Ev G W (mComp it t c e vs) σ H Q) :
    tLc (Ev' G W it) g (EvC G c) (Ev G W0 e) vs σ H Q := by
  obtain ⟨Hb, O, δ, S, h⟩ := h
  have h : Post G W Hb O H σ δ Q ((it δ).bind fun ds δ1 => if noOwn δ1 vs = true then (compRun t c e vs ds [] (wipeE δ1 vs)).calm.bind fun acc δw => .ok (.fr acc) (backE δ1 δw vs) else .stuck) := h
  refine ⟨Hb, O, δ, S, ?_⟩
  cases ei : it δ with
  | stuck => rw [ei] at h; exact h
  | err c d δ' => rw [ei] at h; exact h
  | ok ds δ1 =>
    rw [ei] at h
    intro J H1 st1 S1 yl D hD
    obtain ⟨hno, h⟩ := Post.ite (show Post G W Hb O H σ δ Q (if noOwn δ1 vs = true then (compRun t c e vs ds [] (wipeE δ1 vs)).calm.bind fun acc δw => .ok (.fr acc) (backE δ1 δw vs) else .stuck) from h)
    have hpv : ∀ i, IsPar (wipeE δ1 vs) i → i ∉ vs := fun i ⟨es, q⟩ z => wipeE_in z q
    have S1w := (S1.wiped (vs := vs)).hide (Grow.new hD) hD upd_same (xs := [])
    have hDH : H D = none := st1.trk D hD
    refine ⟨fun i m Hi => m = ds.length - i ∧ i ≤ ds.length ∧ ∃ δi accD accV, Stp (wipe σ vs) (wipeE δ1 vs) H1 (wipe σ vs) δi Hi ∧ St G Hb (Oa O D) Hi (wipe σ vs) δi ∧ Hi D = some (.lst accV) ∧ accV.length ≤ i ∧ Ats G (Ob (Oa O D) (wipe σ vs) δi) Hi accD accV ∧
      Post G W Hb O H σ δ Q ((compRun t c e vs (ds.drop i) accD δi).calm.bind fun acc δw => .ok (.fr acc) (backE δ1 δw vs)),
      ⟨ds.length, rfl, Nat.zero_le _, _, [], [], (Grow.new hD).stp, S1w, upd_same, Nat.le_refl _, Ats.nil, h⟩, ?_⟩
    rintro i m Hi ⟨rfl, hi, δi, accD, accV, sti, Si, hacc, hal, hats, hh⟩
    have mvi : Mv (Ob O σ δ1) H1 (Ob (Oa O D) (wipe σ vs) δi) Hi := ⟨fun b o e nt q => sti.keep b o e nt fun z => q (.inr (own_wipe z)), fun b z => by
      rcases z with (z | z) | z
      · exact .inl (.inl z)
      · subst z; exact .inr hD
      · rcases sti.own b z with k | k
        · exact .inl (.inr (own_wipe k))
        · exact .inr k⟩
    obtain ⟨y1, y2⟩ := yl.2 i _ Hi mvi Si.tracked
    by_cases hlt : i < ds.length
    · have hd : ds[i]? = some ds[i] := by simp [hlt]
      obtain ⟨go, yld⟩ := y1 _ hd
      refine .inr ⟨go, _, fun H' q => ⟨ds.length - (i + 1), by omega, q⟩, fun x H' y => ?_⟩
      obtain ⟨gr, ax⟩ := yld x H' y
      have S2 := Si.grow gr
      rw [List.drop_eq_getElem_cons hlt] at hh
      unfold compRun at hh
      cases e1 : t ds[i] δi with
      | none => rw [e1] at hh; exact hh.elim
      | some δ2 =>
        rw [e1] at hh
        have hh : Post G W Hb O H σ δ Q ((condC c δ2 fun b δ2 => if b = true then eltI (e δ2) fun y δ3 => compRun t c e vs (ds.drop (i + 1)) (accD ++ [y]) (wipeE δ3 vs) else compRun t c e vs (ds.drop (i + 1)) accD (wipeE δ2 vs)).calm.bind fun acc δw => .ok (.fr acc) (backE δ1 δw vs)) := hh
        refine ht _ x δi δ2 Hb (Oa O D) H' (wipe σ vs) _ S2 ax e1 fun σ2 S3 st3 fr3 l3 => ?_
        have ew : wipe σ2 vs = wipe σ vs := wipe_eq l3 fr3
        refine ⟨ew, ?_⟩
        have stx : Stp (wipe σ vs) δi Hi σ2 δ2 H' := (gr.stp).trans st3
        -- the rest of the turn, behind the test
        have key : ∀ (b : Bool) (δ3 : FEnv) (H3 : Hp), Stp σ2 δ2 H' σ2 δ3 H3 → St G Hb (Oa O D) H3 σ2 δ3 →
            Post G W Hb O H σ δ Q ((if b = true then eltI (e δ3) fun y δ3 => compRun t c e vs (ds.drop (i + 1)) (accD ++ [y]) (wipeE δ3 vs) else compRun t c e vs (ds.drop (i + 1)) accD (wipeE δ3 vs)).calm.bind fun acc δw => .ok (.fr acc) (backE δ1 δw vs)) →
            (if b = true then Ev G W0 e σ2 H3 fun y H4 => ∃ acc, H4 D = some (.lst acc) ∧ acc.length < sizeLine ∧ (ds.length - (i + 1) = ds.length - (i + 1) ∧ i + 1 ≤ ds.length ∧ ∃ δi accD accV, Stp (wipe σ vs) (wipeE δ1 vs) H1 (wipe σ vs) δi (upd H4 D (.lst (acc ++ [y]))) ∧ St G Hb (Oa O D) (upd H4 D (.lst (acc ++ [y]))) (wipe σ vs) δi ∧ (upd H4 D (.lst (acc ++ [y]))) D = some (.lst accV) ∧ accV.length ≤ i + 1 ∧ Ats G (Ob (Oa O D) (wipe σ vs) δi) (upd H4 D (.lst (acc ++ [y]))) accD accV ∧
              Post G W Hb O H σ δ Q ((compRun t c e vs (ds.drop (i + 1)) accD δi).calm.bind fun acc δw => .ok (.fr acc) (backE δ1 δw vs)))
            else (ds.length - (i + 1) = ds.length - (i + 1) ∧ i + 1 ≤ ds.length ∧ ∃ δi accD accV, Stp (wipe σ vs) (wipeE δ1 vs) H1 (wipe σ vs) δi H3 ∧ St G Hb (Oa O D) H3 (wipe σ vs) δi ∧ H3 D = some (.lst accV) ∧ accV.length ≤ i + 1 ∧ Ats G (Ob (Oa O D) (wipe σ vs) δi) H3 accD accV ∧
              Post G W Hb O H σ δ Q ((compRun t c e vs (ds.drop (i + 1)) accD δi).calm.bind fun acc δw => .ok (.fr acc) (backE δ1 δw vs)))) := by
          intro b δ3 H3 st4 S4 hh
          have stA : Stp (wipe σ vs) δi Hi σ2 δ3 H3 := stx.trans st4
          have nOwn : ∀ (σ' : L2.St) (δ' : FEnv) (Hx : Hp), St G Hb (Oa O D) Hx σ' δ' → ¬ Own σ' δ' D := fun σ' δ' Hx Sx ⟨j, z⟩ => by
            obtain ⟨z1, b, es, z2⟩ := z
            obtain ⟨p, vs', q1, _, _, _, q5, _⟩ := Sx.own j b es z2
            rw [z1] at q1; cases q1
            exact q5 (.inr rfl)
          have hD3 : H3 D = some (.lst accV) := stA.keep D _ hacc ntbl_lst (nOwn _ _ _ Si)
          have mvA : Mv (Ob (Oa O D) (wipe σ vs) δi) Hi (Ob (Oa O D) σ2 δ3) H3 := Si.mv stA
          cases b with
          | true =>
            rw [if_pos rfl] at hh ⊢
            refine ⟨Hb, Oa O D, δ3, S4, ?_⟩
            cases e5 : e δ3 with
            | stuck => rw [e5] at hh; exact hh.elim
            | err c d δ' => rw [e5] at hh; exact hh.elim
            | ok r δ4 =>
              rw [e5] at hh
              intro v H4 st5 S5 hr _
              have hh : Post G W Hb O H σ δ Q ((gaveI (give δ4 r) fun y δ3 => compRun t c e vs (ds.drop (i + 1)) (accD ++ [y]) (wipeE δ3 vs)).calm.bind fun acc δw => .ok (.fr acc) (backE δ1 δw vs)) := hh
              cases e6 : give δ4 r with
              | none => rw [e6] at hh; exact hh.elim
              | some yy =>
                obtain ⟨yd, δ5⟩ := yy
                rw [e6] at hh
                have hh : Post G W Hb O H σ δ Q ((compRun t c e vs (ds.drop (i + 1)) (accD ++ [yd]) (wipeE δ5 vs)).calm.bind fun acc δw => .ok (.fr acc) (backE δ1 δw vs)) := hh
                obtain ⟨S6, st6, a6⟩ := S5.give hr.w e6
                have stB : Stp (wipe σ vs) δi Hi σ2 δ5 H4 := (stA.trans st5).trans st6
                have hD4 : H4 D = some (.lst accV) := stB.keep D _ hacc ntbl_lst (nOwn _ _ _ Si)
                have mvB : Mv (Ob (Oa O D) (wipe σ vs) δi) Hi (Ob (Oa O D) σ2 δ5) H4 := Si.mv stB
                have S7 := (S6.wiped (vs := vs))
                rw [ew] at S7
                have stC := (sti.trans stB).wiped hpv
                rw [ew] at stC
                have mvC : Mv (Ob (Oa O D) σ2 δ5) H4 (Ob (Oa O D) (wipe σ vs) (wipeE δ5 vs)) H4 := ⟨fun _ _ h _ _ => h, fun b z => .inl (by
                  rcases z with z | z
                  · exact .inl z
                  · rw [← ew] at z; exact .inr (own_wipe z))⟩
                refine ⟨accV, hD4, Nat.lt_of_le_of_lt hal (Nat.lt_of_lt_of_le hlt yl.1), rfl, hlt, wipeE δ5 vs, accD ++ [yd], accV ++ [v], stC.updNew hD, S7.updHid hD4, upd_same, ?_, ?_, hh⟩
                · rw [List.length_append]; show accV.length + 1 ≤ i + 1; omega
                · exact (((hats.mv mvB).append (Ats.one a6)).mv mvC).mv updHid_mv
          | false =>
            rw [if_neg Bool.false_ne_true] at hh ⊢
            have S7 := (S4.wiped (vs := vs))
            rw [ew] at S7
            have stC := (sti.trans stA).wiped hpv
            rw [ew] at stC
            have mvC : Mv (Ob (Oa O D) σ2 δ3) H3 (Ob (Oa O D) (wipe σ vs) (wipeE δ3 vs)) H3 := ⟨fun _ _ h _ _ => h, fun b z => .inl (by
              rcases z with z | z
              · exact .inl z
              · rw [← ew] at z; exact .inr (own_wipe z))⟩
            exact ⟨rfl, hlt, wipeE δ3 vs, accD, accV, stC, S7, hD3, Nat.le_succ_of_le hal, (hats.mv mvA).mv mvC, hh⟩
        cases c with
        | none => exact key true δ2 H' Stp.refl S3 hh
        | some m =>
          refine ⟨Hb, Oa O D, δ2, S3, ?_⟩
          have hh : Post G W Hb O H σ δ Q ((condR (m δ2) fun b δ2 => if b = true then eltI (e δ2) fun y δ3 => compRun t (some m) e vs (ds.drop (i + 1)) (accD ++ [y]) (wipeE δ3 vs) else compRun t (some m) e vs (ds.drop (i + 1)) accD (wipeE δ2 vs)).calm.bind fun acc δw => .ok (.fr acc) (backE δ1 δw vs)) := hh
          cases e5 : m δ2 with
          | stuck => rw [e5] at hh; exact hh.elim
          | err c d δ' => rw [e5] at hh; exact hh.elim
          | ok r δ3 =>
            rw [e5] at hh
            intro v H3 st4 S4 hr _
            cases r with
            | bor j => exact hh.elim
            | fr es => exact hh.elim
            | val dv =>
              cases dv with
              | bl b =>
                have hr : At G (Ob (Oa O D) σ2 δ3) H3 (.bl b) v := hr
                unfold At at hr
                exact ⟨b, hr, key b δ3 H3 st4 S4 hh⟩
              | _ => exact hh.elim
    · have ei2 : i = ds.length := by omega
      refine .inl ⟨y2 ei2, ?_⟩
      rw [ei2, List.drop_length] at hh
      have hh : Post G W Hb O H σ δ Q (.ok (.fr accD) (backE δ1 δi vs)) := hh
      have nO : ¬ Ob O σ δ1 D := S1.nob hD
      obtain ⟨Sa, sta, _⟩ := St.back (fun b z => .inl z) S1 hno Si.unhide sti
      obtain ⟨Sb, stb, ob⟩ := St.back (O' := Oa O D) (fun b z => by
        rcases z with z | z
        · exact .inl z
        · subst z; exact .inr hD) S1 hno Si sti
      refine hh (.ref D) Hi (st1.trans sta) Sa ⟨D, accV, rfl, hacc, ?_, S1.trb D hD, fun z => ?_, ?_, Sb⟩ fun p e => by cases e; exact hDH
      · exact Nat.le_trans hal (Nat.le_trans (Nat.le_of_eq ei2) yl.1)
      · rcases z with z | z
        · exact nO (.inl z)
        · obtain ⟨j, z1, b, es, z2⟩ := ob D z
          obtain ⟨p, vs', q1, _, _, _, q5, _⟩ := Si.own j b es z2
          rw [z1] at q1; cases q1
          exact q5 (.inr rfl)
      · exact hats.mv ⟨fun _ _ h _ _ => h, fun b z => .inl (by
          rcases z with z | z
          · exact .inl z
          · exact .inr (ob b z))⟩
end DL
/-! DLA: what a def promises by data, and its calls. -/
namespace DL
open PySem PySem.Spec PyProof.Rows L2
inductive FRes where
  | ok (r : Rz) (ps : List D) | err (c : Nat) (d : D) (ps : List D) | stuck
abbrev FSem := List D → FRes
def OP (O : Hid) (P : Option Addr) : Hid := fun q => O q ∨ P = some q
structure FPost (G : Ctx) (P : Option Addr) (H H' : Hp) : Prop where
  keep : ∀ b o, H b = some o → NTbl o → P ≠ some b → H' b = some o
  trk : ∀ b, H' b = none → H b = none
  tb : NdefX.TabsN G.T H'
def ParAt (P : Option Addr) (H : Hp) (us : List V) : Prop := match P with
  | some p => H p = some (.lst us) ∧ us.length ≤ sizeLine
  | none => us = []
def ArgF (G : Ctx) (O : Hid) (P : Option Addr) (H : Hp) (pf : Bool) (ds : List D) (vs : List V) : Prop :=
  if pf = true then ∃ p us uds vs' ds', P = some p ∧ vs = .ref p :: vs' ∧ ds = .lst uds :: ds' ∧ H p = some (.lst us) ∧ us.length ≤ sizeLine ∧ ¬ O p ∧ Ats G (OP O P) H uds us ∧ Ats G (OP O P) H ds' vs'
  else P = none ∧ Ats G O H ds vs
def RF (G : Ctx) (O : Hid) (H H' : Hp) (v : V) (ps : List D) (us : List V) : Rz → Prop
  | .val d => At G O H' d v ∧ Ats G O H' ps us
  | .fr ds => ∃ q ws, v = .ref q ∧ H q = none ∧ H' q = some (.lst ws) ∧ ws.length ≤ sizeLine ∧ Ats G (Oa O q) H' ds ws ∧ Ats G (Oa O q) H' ps us
  | .bor _ => False
def PostF (G : Ctx) (O : Hid) (P : Option Addr) (H : Hp) (Q : VK) (E : XK) : FRes → Prop
  | .ok r ps => ∀ v H' us, FPost G P H H' → ParAt P H' us → RF G (OP O P) H H' v ps us r → Q v H'
  | .err c d ps => ∀ dx v H' us, FPost G P H H' → ParAt P H' us → At G (OP O P) H' d v → Ats G (OP O P) H' ps us → H' dx = some (.xd [("value", v)]) → E (.ref (G.cls c)) (some dx) H'
  | .stuck => False
/-- the promise of a def whose meaning is f: it may change the list in its first place if pf -/
def spOf (G : Ctx) (n : Nat) (pf : Bool) (f : FSem) : Sp := fun vs H Q E => vs.length = n ∧ ∃ (O : Hid) (P : Option Addr) (ds : List D), NdefX.TabsN G.T H ∧ (∀ q, O q → LD H q) ∧
  ArgF G O P H pf ds vs ∧ PostF G O P H Q E (f ds)

/-! ### the body's meaning -/
def envOf (pf : Bool) (n : Nat) (ds : List D) : FEnv := (match pf, ds with
  | true, .lst uds :: ds => some (.own true uds) :: ds.map fun d => some (.val d)
  | _, ds => ds.map fun d => some (.val d)) ++ List.replicate (n - ds.length) none
def parS : Option (Option SE) → Option (List D)
  | some (some (.own true ds)) => some ds
  | _ => none
def parOf (pf : Bool) (δ : FEnv) : Option (List D) := if pf = true then parS δ[0]? else some []
def finS (δ : FEnv) (i : Nat) : Option (Option SE) → Option Rz
  | some (some (.own false ds)) => some (.fr ds)
  | some (some (.val d)) => some (.val d)
  | _ => none
def finR (δ : FEnv) : Rz → Option Rz
  | .val d => some (.val d)
  | .fr ds => some (.fr ds)
  | .bor i => finS δ i δ[i]?
def okF (r : Option Rz) (ps : Option (List D)) : FRes := match r, ps with
  | some r, some ps => .ok r ps
  | _, _ => .stuck
def errF (c : Nat) (d : D) (ps : Option (List D)) : FRes := match ps with
  | some ps => .err c d ps
  | none => .stuck
def Out.fin (pf : Bool) : Out → FRes
  | .nx δ => okF (some (.val .non)) (parOf pf δ)
  | .rt r δ => okF (finR δ r) (parOf pf δ)
  | .er c d δ => errF c d (parOf pf δ)
  | _ => .stuck
def runDef (m : Sz) (pf : Bool) (n : Nat) : FSem := fun ds => (m (envOf pf n ds)).fin pf
section
variable {G : Ctx} {O : Hid} {P : Option Addr} {H H' : Hp}
theorem start_get {N : List Str} {vs : List V} {i : Nat} {v : V} (h : vs[i]? = some v) : (L2.start N vs)[i]? = some (some v) := by
  unfold L2.start
  have hi := (List.getElem?_eq_some_iff.mp h).1
  rw [List.getElem?_append_left (by rw [List.length_map]; exact hi), List.getElem?_map, h]
  rfl
theorem env_val {ds : List D} {k i : Nat} {e : SE} (h : (ds.map (fun d => some (SE.val d)) ++ List.replicate k none)[i]? = some (some e)) : ∃ d, ds[i]? = some d ∧ e = .val d := by
  by_cases hi : i < ds.length
  · rw [List.getElem?_append_left (by rw [List.length_map]; exact hi), List.getElem?_map] at h
    cases e1 : ds[i]? with
    | none => rw [e1] at h; cases h
    | some d => rw [e1] at h; cases h; exact ⟨d, rfl, rfl⟩
  · rw [List.getElem?_append_right (by rw [List.length_map]; omega), List.getElem?_replicate] at h
    split at h <;> cases h
/-- the state at a def's entry -/
theorem st_start {N : List Str} {pf : Bool} {ds : List D} {vs : List V} (hl : vs.length ≤ N.length) (tb : NdefX.TabsN G.T H) (hid : ∀ q, O q → LD H q) (ha : ArgF G O P H pf ds vs) :
    St G (fun b => if P = some b then none else H b) O H (L2.start N vs) (envOf pf N.length ds) ∧ (∀ q, Own (L2.start N vs) (envOf pf N.length ds) q ↔ P = some q) ∧ (∀ p, P = some p → pf = true ∧ IsPar (envOf pf N.length ds) 0 ∧ (L2.start N vs)[0]? = some (some (.ref p))) := by
  have sl : (L2.start N vs).length = N.length := by
    unfold L2.start
    rw [List.length_append, List.length_map, List.length_replicate]; omega
  cases pf with
  | false =>
    obtain ⟨rfl, hs⟩ := (show P = none ∧ Ats G O H ds vs from ha)
    have ee : envOf false N.length ds = ds.map (fun d => some (SE.val d)) ++ List.replicate (N.length - ds.length) none := rfl
    have noown : ∀ i b es, (envOf false N.length ds)[i]? ≠ some (some (SE.own b es)) := fun i b es z => by
      rw [ee] at z
      obtain ⟨d, _, q⟩ := env_val z
      cases q
    have no : ∀ q, ¬ Own (L2.start N vs) (envOf false N.length ds) q := fun q ⟨i, _, b, es, z⟩ => noown i b es z
    refine ⟨⟨?_, tb, fun b h => by simpa using h, hid, fun i d e => ?_, fun i b es e => absurd e (noown i b es), fun i j q z => absurd ⟨i, z⟩ (no q)⟩, fun q => ⟨fun z => absurd z (no q), fun z => by cases z⟩, fun p e => by cases e⟩
    · rw [sl, ee, List.length_append, List.length_map, List.length_replicate, ← hs.length]; omega
    · rw [ee] at e
      obtain ⟨d', e1, e2⟩ := env_val e
      cases e2
      obtain ⟨v, q1, q2⟩ := hs.get e1
      refine ⟨v, start_get q1, q2.mv ⟨fun _ _ h _ _ => h, fun b z => ?_⟩⟩
      rcases z with z | z
      · exact .inl z
      · exact absurd z (no b)
  | true =>
    obtain ⟨p, us, uds, vs', ds', rfl, rfl, rfl, hp, hul, hO, hu, hs⟩ := ha
    have ee : envOf true N.length (.lst uds :: ds') = some (SE.own true uds) :: (ds'.map (fun d => some (SE.val d)) ++ List.replicate (N.length - (ds'.length + 1)) none) := rfl
    have g0 : (envOf true N.length (.lst uds :: ds'))[0]? = some (some (SE.own true uds)) := rfl
    have s0 : (L2.start N (V.ref p :: vs'))[0]? = some (some (V.ref p)) := rfl
    have gs : ∀ i e, (envOf true N.length (.lst uds :: ds'))[i + 1]? = some (some e) → ∃ d, ds'[i]? = some d ∧ e = .val d := fun i e z => by
      rw [ee, List.getElem?_cons_succ] at z
      exact env_val z
    have own0 : ∀ i q, OwnAt (L2.start N (V.ref p :: vs')) (envOf true N.length (.lst uds :: ds')) i q → i = 0 ∧ q = p := fun i q ⟨a, b, es, c⟩ => by
      cases i with
      | zero => rw [s0] at a; cases a; exact ⟨rfl, rfl⟩
      | succ i =>
        obtain ⟨d, _, z⟩ := gs i _ c
        cases z
    have ow : ∀ q, Own (L2.start N (V.ref p :: vs')) (envOf true N.length (.lst uds :: ds')) q ↔ some p = some q := fun q => ⟨fun ⟨i, z⟩ => by rw [(own0 i q z).2], fun z => by cases z; exact ⟨0, s0, true, uds, g0⟩⟩
    have mv : Mv (OP O (some p)) H (Ob O (L2.start N (V.ref p :: vs')) (envOf true N.length (.lst uds :: ds'))) H := ⟨fun _ _ h _ _ => h, fun b z => .inl (by
      rcases z with z | z
      · exact .inl z
      · exact .inr ((ow b).mp z))⟩
    refine ⟨⟨?_, tb, fun b h => ?_, hid, fun i d e => ?_, fun i b es e => ?_, fun i j q z z' => by rw [(own0 i q z).1, (own0 j q z').1]⟩, ow, fun q e => ⟨rfl, ⟨uds, g0⟩, by cases e; exact s0⟩⟩
    · rw [sl, ee, List.length_cons, List.length_append, List.length_map, List.length_replicate]
      have := hs.length
      rw [List.length_cons] at hl
      omega
    · by_cases z : some p = some b
      · simp only [if_pos z]
      · simp only [if_neg z]; exact h
    · cases i with
      | zero => rw [g0] at e; cases e
      | succ i =>
        obtain ⟨d', e1, e2⟩ := gs i _ e
        cases e2
        obtain ⟨v, q1, q2⟩ := hs.get e1
        exact ⟨v, start_get (show (V.ref p :: vs')[i + 1]? = some v from q1), q2.mv mv⟩
    · cases i with
      | zero =>
        rw [g0] at e; cases e
        exact ⟨p, us, s0, hp, hul, by simp, hO, hu.mv mv⟩
      | succ i =>
        obtain ⟨d', e1, e2⟩ := gs i _ e
        cases e2
theorem okF_some {r : Option Rz} {ps : Option (List D)} {Pr : FRes → Prop} (hP : ¬ Pr .stuck) (h : Pr (okF r ps)) : ∃ r' ps', r = some r' ∧ ps = some ps' ∧ Pr (.ok r' ps') := by
  cases r with
  | none => exact absurd h hP
  | some r =>
    cases ps with
    | none => exact absurd h hP
    | some ps => exact ⟨r, ps, rfl, rfl, h⟩
/-- THE RULE of a def: its body's reading grants the promise -/
theorem body_ok {N : List Str} {pf : Bool} {m : Sz} {n : Nat} {vs : List V} {Q : VK} {E : XK} (hn : n ≤ N.length) (h : spOf G n pf (runDef m pf N.length) vs H Q E) :
    Sv G (fun cls d _ H => E cls d H) m { nx := fun _ H' => Q .non H', rt := Q } (L2.start N vs) H := by
  obtain ⟨hlen, O, P, ds, tb, hid, ha, h⟩ := h
  obtain ⟨S, ow, pr⟩ := st_start (N := N) (by omega) tb hid ha
  refine ⟨_, O, _, S, ?_⟩
  have h : PostF G O P H Q E ((m (envOf pf N.length ds)).fin pf) := h
  have pfP : pf = true → ∃ p, P = some p := fun z => by
    unfold ArgF at ha
    rw [if_pos z] at ha
    obtain ⟨p, _, _, _, _, e, _⟩ := ha
    exact ⟨p, e⟩
  have pfN : pf = false → P = none := fun z => by
    unfold ArgF at ha
    rw [if_neg (by rw [z]; exact Bool.false_ne_true)] at ha
    exact ha.1
  have fp : ∀ {σ' δ' H'}, Stp (L2.start N vs) (envOf pf N.length ds) H σ' δ' H' → St G (fun b => if P = some b then none else H b) O H' σ' δ' → FPost G P H H' := fun {σ' δ' H'} st S' =>
    ⟨fun b o e nt q => st.keep b o e nt fun z => q ((ow b).mp z), st.trk, S'.tb⟩
  -- the list that was lent, at the end
  have pe : ∀ {σ' δ' H' ps}, Stp (L2.start N vs) (envOf pf N.length ds) H σ' δ' H' → parOf pf δ' = some ps → (∀ p, P = some p → Own σ' δ' p) ∧ ∀ {Hb' : Hp} {O' : Hid}, St G Hb' O' H' σ' δ' → ∃ us, ParAt P H' us ∧ Ats G (Ob O' σ' δ') H' ps us := fun {σ' δ' H' ps} st e => by
    cases hpf : pf with
    | false =>
      have := pfN hpf
      subst this
      rw [hpf] at e
      cases Option.some.inj e
      exact ⟨fun p z => (by cases z), fun _ => ⟨[], rfl, Ats.nil⟩⟩
    | true =>
      obtain ⟨p, hp⟩ := pfP hpf
      subst hp
      obtain ⟨_, h1, h2⟩ := pr p rfl
      obtain ⟨⟨es, q1⟩, q2⟩ := st.par 0 h1
      rw [hpf] at e
      unfold parOf at e
      rw [if_pos rfl, q1] at e
      cases Option.some.inj e
      refine ⟨fun q z => (by cases z; exact ⟨0, q2.trans h2, true, _, q1⟩), fun {Hb' O'} S' => ?_⟩
      obtain ⟨p', us, a1, a2, a3, _, _, a6⟩ := S'.own 0 true _ q1
      rw [q2, h2] at a1
      cases a1
      exact ⟨us, ⟨a2, a3⟩, a6⟩
  have sub : ∀ {σ' δ' H'} {O' : Hid}, (∀ p, P = some p → Own σ' δ' p) → Mv (Ob O' σ' δ') H' (OP O' P) H' := fun {σ' δ' H' O'} k => ⟨fun _ _ h _ _ => h, fun b z => .inl (by
    rcases z with z | z
    · exact .inl z
    · exact .inr (k b z))⟩
  have sub2 : ∀ {σ' δ' H'} {q : Addr}, (∀ p, P = some p → Own σ' δ' p) → Mv (Ob (Oa O q) σ' δ') H' (Oa (OP O P) q) H' := fun {σ' δ' H' q} k => ⟨fun _ _ h _ _ => h, fun b z => .inl (by
    rcases z with (z | z) | z
    · exact .inl (.inl z)
    · exact .inr (k b z)
    · exact .inl (.inr z))⟩
  cases em : m (envOf pf N.length ds) with
  | stuck => rw [em] at h; exact h
  | bk δ' => rw [em] at h; exact h.elim
  | ct δ' => rw [em] at h; exact h.elim
  | nx δ' =>
    rw [em] at h
    obtain ⟨r', ps, e1, e2, h⟩ := okF_some (Pr := PostF G O P H Q E) (fun z => z) h
    cases e1
    intro σ' H' st S'
    obtain ⟨k1, k2⟩ := pe st e2
    obtain ⟨us, k3, k4⟩ := k2 S'
    exact h .non H' us (fp st S') k3 ⟨at_non, k4.mv (sub k1)⟩
  | er c d δ' =>
    rw [em] at h
    have h : PostF G O P H Q E (errF c d (parOf pf δ')) := h
    cases e2 : parOf pf δ' with
    | none => rw [e2] at h; exact h.elim
    | some ps =>
      rw [e2] at h
      intro dx v σ' H' st S' a hx
      obtain ⟨k1, k2⟩ := pe st e2
      obtain ⟨us, k3, k4⟩ := k2 S'
      exact h dx v H' us (fp st S') k3 (a.mv (sub k1)) (k4.mv (sub k1)) hx
  | rt r δ' =>
    rw [em] at h
    obtain ⟨r', ps, e1, e2, h⟩ := okF_some (Pr := PostF G O P H Q E) (fun z => z) h
    intro v σ' H' st S' hr
    obtain ⟨k1, k2⟩ := pe st e2
    obtain ⟨us, k3, k4⟩ := k2 S'
    have newq : ∀ q, (if P = some q then none else H q) = none → (∀ p, P = some p → q ≠ p) → H q = none := fun q e n => by
      by_cases z : P = some q
      · exact absurd rfl (n q z)
      · rw [if_neg z] at e; exact e
    cases r with
    | val d =>
      cases Option.some.inj e1
      exact h v H' us (fp st S') k3 ⟨At.mv (sub k1) hr, k4.mv (sub k1)⟩
    | fr es =>
      cases Option.some.inj e1
      obtain ⟨q, ws, rfl, hq, hl, hb, hn, hs, Sq⟩ := hr
      obtain ⟨us', k3', k4'⟩ := k2 Sq
      exact h _ H' us' (fp st S') k3' ⟨q, ws, rfl, newq q hb (fun p e z => hn (.inr (z ▸ k1 p e))), hq, hl, hs.mv (sub2 k1), k4'.mv (sub2 k1)⟩
    | bor i =>
      obtain ⟨h1, b, es, h2⟩ := hr
      have e1 : finS δ' i δ'[i]? = some r' := e1
      rw [h2] at e1
      cases b with
      | true => cases e1
      | false =>
        cases Option.some.inj e1
        obtain ⟨q, ws, a1, a2, a3, a4, a5, a6⟩ := S'.own i false es h2
        rw [h1] at a1
        cases a1
        have hne : ∀ p, P = some p → q ≠ p := fun p e z => by
          obtain ⟨_, p1, p2⟩ := pr p e
          obtain ⟨⟨es', q1⟩, q2⟩ := st.par 0 p1
          have := S'.inj i 0 p ⟨by rw [← z]; exact h1, false, es, h2⟩ ⟨q2.trans p2, true, es', q1⟩
          subst this
          rw [h2] at q1
          cases q1
        have mo : Mv (Ob O σ' δ') H' (Oa (OP O P) q) H' := ⟨fun _ _ h _ _ => h, fun b z => .inl (by
          rcases z with (z | z) | z
          · exact .inl z
          · exact .inr (k1 b z)
          · subst z; exact .inr ⟨i, h1, false, es, h2⟩)⟩
        exact h _ H' us (fp st S') k3 ⟨q, ws, rfl, newq q a4 hne, a2, a3, a6.mv mo, k4.mv mo⟩
end
end DL
/-! DLB: calls of defs. -/
namespace DL
open PySem PySem.Spec PyProof.Rows L2
mutual
/-- no list, dict, object within -/
def noL : D → Bool
  | .tup ds => noLs ds
  | .non => true | .bl _ => true | .int _ => true | .str _ => true
  | _ => false
def noLs : List D → Bool
  | [] => true
  | d :: ds => noL d && noLs ds
end
/-- what the callee may not see -/
def Hl (O : Hid) (σ : L2.St) (δ : FEnv) (vs : List V) : Hid := fun q => Ob O σ δ q ∧ V.ref q ∉ vs
section
variable {G : Ctx} {W : WX} {Hb : Hp} {O O2 : Hid} {H H1 H' : Hp} {σ : L2.St} {δ δ0 δ1 δ' : FEnv} {Q : VK} {r : Rz} {v : V} {p : Addr}
theorem at0_lend {d : D} (h : At0 G O H d v) (k : ∀ q, v = .ref q → (∃ xs, H q = some (.lst xs)) → ¬ O2 q) (s : ∀ q, O2 q → O q) : At G O2 H d v := by
  have m : Mv O H O2 H := ⟨fun _ _ h _ _ => h, fun b z => .inl (s b z)⟩
  cases d with
  | lst ds =>
    obtain ⟨a, vs, e, h1, hl, h2⟩ := (show ∃ a vs, v = .ref a ∧ H a = some (.lst vs) ∧ vs.length ≤ sizeLine ∧ Ats G O H ds vs from h)
    unfold At
    exact ⟨a, vs, e, k a e ⟨vs, h1⟩, h1, hl, h2.mv m⟩
  | _ => exact At.mv m h
theorem mem_views : ∀ {vs : List V} {rs : List Rz} {ds : List D}, RAts G Hb O H σ δ vs rs → views δ rs = some ds → (∀ v r d, v ∈ vs → RAt G Hb O H σ δ v r → r ∈ rs → view δ r = some d → At G O2 H d v) → Ats G O2 H ds vs
  | [], [], _, _, e, _ => by cases Option.some.inj e; exact Ats.nil
  | [], _ :: _, _, h, _, _ => h.elim
  | _ :: _, [], _, h, _, _ => h.elim
  | v :: vs, r :: rs, ds, h, e, k => by
    unfold views at e
    obtain ⟨d, e1, e⟩ := Option.bind_eq_some_iff.mp e
    obtain ⟨ds', e2, e⟩ := Option.map_eq_some_iff.mp e
    cases e
    exact Ats.cons (k v r d List.mem_cons_self h.1 List.mem_cons_self e1) (mem_views h.2 e2 fun v' r' d' hv hr hm hd => k v' r' d' (List.mem_cons_of_mem _ hv) hr (List.mem_cons_of_mem _ hm) hd)
/-- the state after others have worked: what is not hidden by O2 .. -/
theorem St.lentO {i : Nat} {b : Bool} {uds ps : List D} {us : List V} (S : St G Hb O H σ δ) (hi : δ[i]? = some (some (.own b uds))) (hp : σ[i]? = some (some (.ref p))) (keep : ∀ b o, H b = some o → NTbl o → b ≠ p → H' b = some o) (trk : ∀ b, H' b = none → H b = none) (tb : NdefX.TabsN G.T H')
    (hp' : H' p = some (.lst us)) (hul : us.length ≤ sizeLine) (h1 : ∀ q, O2 q → O q ∨ H q = none) (h2 : ∀ q, O2 q → LD H' q) (hs : Ats G (Ob O2 σ (δ.set i (some (.own b ps)))) H' ps us) :
    St G Hb O2 H' σ (δ.set i (some (.own b ps))) ∧ Mv (Ob O σ δ) H (Ob O2 σ (δ.set i (some (.own b ps)))) H' ∧ (∀ q, Own σ (δ.set i (some (.own b ps))) q ↔ Own σ δ q) := by
  have il : i < δ.length := (List.getElem?_eq_some_iff.mp hi).1
  have gi : (δ.set i (some (.own b ps)))[i]? = some (some (.own b ps)) := by rw [List.getElem?_set_self il]
  have gn : ∀ j, j ≠ i → (δ.set i (some (.own b ps)))[j]? = δ[j]? := fun j hj => by rw [List.getElem?_set_ne (Ne.symm hj)]
  have oa : ∀ j q, OwnAt σ (δ.set i (some (.own b ps))) j q ↔ OwnAt σ δ j q := fun j q => by
    by_cases hj : j = i
    · subst hj
      exact ⟨fun ⟨x, _⟩ => ⟨x, _, _, hi⟩, fun ⟨x, _⟩ => ⟨x, _, _, gi⟩⟩
    · unfold OwnAt; rw [gn j hj]
  have ow : ∀ q, Own σ (δ.set i (some (.own b ps))) q ↔ Own σ δ q := fun q => ⟨fun ⟨j, z⟩ => ⟨j, (oa j q).mp z⟩, fun ⟨j, z⟩ => ⟨j, (oa j q).mpr z⟩⟩
  have pown : Own σ δ p := ⟨i, hp, b, uds, hi⟩
  obtain ⟨p', vs', a1, a2, a3, a4, a5, a6⟩ := S.own i b uds hi
  rw [hp] at a1; cases a1
  have mv : Mv (Ob O σ δ) H (Ob O2 σ (δ.set i (some (.own b ps)))) H' := ⟨fun b' o e n z => keep b' o e n fun q => z (by rw [q]; exact .inr pown), fun b' z => by
    rcases z with z | z
    · rcases h1 b' z with q | q
      · exact .inl (.inl q)
      · exact .inr q
    · exact .inl (.inr ((ow b').mp z))⟩
  refine ⟨⟨by rw [List.length_set]; exact S.len, tb, fun b' e => S.trb b' (trk b' e), h2, fun j d e => ?_, fun j b' es e => ?_, fun j k q z z' => S.inj j k q ((oa j q).mp z) ((oa k q).mp z')⟩, mv, ow⟩
  · have hj : j ≠ i := fun z => by subst z; rw [gi] at e; cases e
    rw [gn j hj] at e
    obtain ⟨v, q1, q2⟩ := S.val j d e
    exact ⟨v, q1, q2.mv mv⟩
  · by_cases hj : j = i
    · subst hj
      rw [gi] at e; cases e
      refine ⟨p, us, hp, hp', hul, a4, fun z => ?_, hs⟩
      rcases h1 p z with q | q
      · exact a5 q
      · rw [a2] at q; cases q
    · rw [gn j hj] at e
      obtain ⟨q, ws, q1, q2, q3, q4, q5, q6⟩ := S.own j b' es e
      have qp : q ≠ p := fun z => hj (S.inj j i q ⟨q1, _, _, e⟩ ⟨by rw [z]; exact hp, _, _, hi⟩)
      refine ⟨q, ws, q1, keep q _ q2 ntbl_lst qp, q3, q4, fun z => ?_, q6.mv mv⟩
      rcases h1 q z with y | y
      · exact q5 y
      · rw [q2] at y; cases y
theorem St.keptO (S : St G Hb O H σ δ) (keep : ∀ b o, H b = some o → NTbl o → H' b = some o) (trk : ∀ b, H' b = none → H b = none) (tb : NdefX.TabsN G.T H')
    (h1 : ∀ q, O2 q → O q ∨ H q = none) (h2 : ∀ q, O2 q → LD H' q) : St G Hb O2 H' σ δ ∧ Mv (Ob O σ δ) H (Ob O2 σ δ) H' := by
  have mv : Mv (Ob O σ δ) H (Ob O2 σ δ) H' := ⟨fun b' o e n _ => keep b' o e n, fun b' z => by
    rcases z with z | z
    · rcases h1 b' z with q | q
      · exact .inl (.inl q)
      · exact .inr q
    · exact .inl (.inr z)⟩
  refine ⟨⟨S.len, tb, fun b' e => S.trb b' (trk b' e), h2, fun j d e => ?_, fun j b' es e => ?_, S.inj⟩, mv⟩
  · obtain ⟨v, q1, q2⟩ := S.val j d e
    exact ⟨v, q1, q2.mv mv⟩
  · obtain ⟨q, ws, q1, q2, q3, q4, q5, q6⟩ := S.own j b' es e
    refine ⟨q, ws, q1, keep q _ q2 ntbl_lst, q3, q4, fun z => ?_, q6.mv mv⟩
    rcases h1 q z with y | y
    · exact q5 y
    · rw [q2] at y; cases y
mutual
theorem At.noL : ∀ {d : D} {v : V}, DL.noL d = true → At G O H d v → (∀ q, O2 q → H q = none ∨ LD H q) → At G O2 H d v
  | .non, _, _, h, _ => h
  | .bl _, _, _, h, _ => h
  | .int _, _, _, h, _ => h
  | .str _, _, _, h, _ => h
  | .tup ds, v, n, h, k => by
    unfold At at h ⊢
    obtain ⟨a, vs, e, h1, hl, h2⟩ := h
    refine ⟨a, vs, e, ?_, hl, Ats.noL n h2 k⟩
    rcases h1 with ⟨m, h1⟩ | h1
    · refine .inl ⟨fun z => ?_, h1⟩
      rcases k a z with q | ⟨xs, q, l⟩
      · rcases h1 with h1 | ⟨o, h1⟩ <;> rw [q] at h1 <;> cases h1
      · rcases h1 with h1 | ⟨o, h1⟩ <;> rw [q] at h1 <;> cases h1 <;> exact l
    · exact .inr h1
  | .lst _, _, n, _, _ => by cases n
  | .scr _, _, n, _, _ => by cases n
  | .dct _, _, n, _, _ => by cases n
  | .ins _ _, _, n, _, _ => by cases n
theorem Ats.noL : ∀ {ds : List D} {vs : List V}, noLs ds = true → Ats G O H ds vs → (∀ q, O2 q → H q = none ∨ LD H q) → Ats G O2 H ds vs
  | [], _, _, h, _ => h
  | d :: ds, vs, n, h, k => by
    unfold Ats at h ⊢
    obtain ⟨v, ws, e, h1, h2⟩ := h
    have n' : (DL.noL d && noLs ds) = true := n
    rw [Bool.and_eq_true] at n'
    exact ⟨v, ws, e, At.noL n'.1 h1 k, Ats.noL n'.2 h2 k⟩
end
end
end DL
/-! DLC: calls of defs. -/
namespace DL
open PySem PySem.Spec PyProof.Rows L2
def okL (lend : Bool) (d : D) : Bool := !lend || noL d
def okLs (lend : Bool) (ds : List D) : Bool := !lend || noLs ds
def callRes (lend : Bool) : Rz → Option Rz
  | .val d => if okL lend d = true then some (.val d) else none
  | .fr ds => if okLs lend ds = true then some (.fr ds) else none
  | .bor _ => none
def callEnd (lend : Bool) (up : List D → FEnv) : FRes → Res
  | .ok r ps => if okLs lend ps = true then got (callRes lend r) (up ps) else .stuck
  | .err c d ps => if okLs lend ps = true then (if okL lend d = true then .err c d (up ps) else .stuck) else .stuck
  | .stuck => .stuck
def isV : Rz → Bool
  | .val _ => true
  | _ => false
def notB (i : Nat) : Rz → Bool
  | .bor j => i != j
  | _ => true
def lentS (s : Option (Option SE)) (k : Bool → List D → Res) : Res := match s with
  | some (some (.own b ds)) => k b ds
  | _ => .stuck
def callP (f : FSem) (δ : FEnv) : List Rz → Res
  | .bor i :: rs => lentS δ[i]? fun b uds => if rs.all (notB i) = true then viewsB δ rs fun ds => callEnd (!rs.all isV) (fun ps => δ.set i (some (.own b ps))) (f (.lst uds :: ds)) else .stuck
  | _ => .stuck
def callV (pf : Bool) (f : FSem) (rs : List Rz) (δ : FEnv) : Res := if pf = true then callP f δ rs else viewsB δ rs fun ds => callEnd (!rs.all isV) (fun _ => δ) (f ds)
def mCall (pf : Bool) (f : FSem) (ms : List Mz) : Mz := fun δ => (mArgs ms δ).bind fun rs δ1 => callV pf f rs δ1
def Lent : List V → List Rz → Addr → Prop
  | v :: vs, r :: rs, q => (v = .ref q ∧ isV r = false) ∨ Lent vs rs q
  | _, _, _ => False
theorem lent_none : ∀ {vs : List V} {rs : List Rz} {q : Addr}, rs.all isV = true → ¬ Lent vs rs q
  | [], _, _, _, h => by cases h
  | _ :: _, [], _, _, h => by cases h
  | v :: vs, r :: rs, q, e, h => by
    rw [List.all_cons, Bool.and_eq_true] at e
    rcases h with ⟨_, h⟩ | h
    · rw [e.1] at h; cases h
    · exact lent_none e.2 h
section
variable {G : Ctx} {W : WX} {Hb : Hp} {O O2 Oc : Hid} {H H1 H' : Hp} {σ : L2.St} {δ δ0 δ1 δ' : FEnv} {Q : VK} {r : Rz} {v : V} {p : Addr} {P : Option Addr}
/-- what the caller's frame makes of a call's end -/
theorem call_end {lend : Bool} {up : List D → FEnv} {x : FRes} (S : St G Hb O H σ δ) (pn : ∀ p, P = some p → ∃ xs, H p = some (.lst xs))
    (fin : ∀ ps us H' O2, FPost G P H H' → ParAt P H' us → (∀ q, O2 q → O q ∨ H q = none) → (∀ q, O2 q → LD H' q) → Ats G (Ob O2 σ (up ps)) H' ps us → St G Hb O2 H' σ (up ps))
    (ow : ∀ ps q, Own σ (up ps) q ↔ Own σ δ q) (stp : ∀ ps us H', FPost G P H H' → ParAt P H' us → Stp σ δ H σ (up ps) H')
    (hid : lend = false → ∀ q, Ob O σ δ q → OP Oc P q)
    (h : Post G W Hb O H σ δ Q (callEnd lend up x)) : PostF G Oc P H Q (WE W σ) x := by
  have lst' : ∀ {us H'} q, FPost G P H H' → ParAt P H' us → LD H q → LD H' q := fun {us H'} q F hp l => by
    by_cases z : P = some q
    · subst z; exact LD.l hp.1
    · exact l.kp fun o e nt => F.keep q _ e nt z
  -- hidden sets: O, or O and a new list
  have cond : ∀ {ps us H'} (O2 : Hid), FPost G P H H' → ParAt P H' us → (∀ q, O2 q → LD H' q) → ∀ q, Ob O2 σ (up ps) q → H' q = none ∨ LD H' q := fun {ps us H'} O2 F hp k q z => by
    rcases z with z | z
    · exact .inr (k q z)
    · exact .inr (lst' q F hp (S.ob_lst (.inr ((ow ps q).mp z))))
  have mvv : ∀ {ps H'} (O2 Oz : Hid), lend = false → (∀ q, O2 q → O q ∨ Oz q) → (∀ q, OP Oc P q → Oz q) → Mv Oz H' (Ob O2 σ (up ps)) H' := fun {ps H'} O2 Oz hl k k2 => ⟨fun _ _ h _ _ => h, fun b z => .inl (by
    rcases z with z | z
    · rcases k b z with y | y
      · exact k2 b (hid hl b (.inl y))
      · exact y
    · exact k2 b (hid hl b (.inr ((ow ps b).mp z))))⟩
  have atT : ∀ {ps us H' d v} (O2 Oz : Hid), FPost G P H H' → ParAt P H' us → (∀ q, O2 q → LD H' q) → (∀ q, O2 q → O q ∨ Oz q) → (∀ q, OP Oc P q → Oz q) → okL lend d = true → At G Oz H' d v → At G (Ob O2 σ (up ps)) H' d v := fun {ps us H' d v} O2 Oz F hp k k1 k2 ok a => by
    cases lend with
    | false => exact a.mv (mvv O2 Oz rfl k1 k2)
    | true => exact At.noL ok a (cond O2 F hp k)
  have atsT : ∀ {ps us H' ds vs} (O2 Oz : Hid), FPost G P H H' → ParAt P H' us → (∀ q, O2 q → LD H' q) → (∀ q, O2 q → O q ∨ Oz q) → (∀ q, OP Oc P q → Oz q) → okLs lend ds = true → Ats G Oz H' ds vs → Ats G (Ob O2 σ (up ps)) H' ds vs := fun {ps us H' ds vs} O2 Oz F hp k k1 k2 ok a => by
    cases lend with
    | false => exact a.mv (mvv O2 Oz rfl k1 k2)
    | true => exact Ats.noL ok a (cond O2 F hp k)
  have hO : ∀ {us H'}, FPost G P H H' → ParAt P H' us → ∀ q, O q → LD H' q := fun {us H'} F hp q z => lst' q F hp (S.hid q z)
  cases x with
  | stuck => exact h
  | err c d ps =>
    intro dx v H' us F hp a as hx
    obtain ⟨k1, h⟩ := Post.ite (x := if okL lend d = true then .err c d (up ps) else .stuck) h
    obtain ⟨k2, h⟩ := Post.ite h
    have S' := fin ps us H' O F hp (fun _ z => .inl z) (hO F hp) (atsT O (OP Oc P) F hp (hO F hp) (fun _ z => .inl z) (fun _ z => z) k1 as)
    exact h dx v H' (stp ps us H' F hp) S' (atT O (OP Oc P) F hp (hO F hp) (fun _ z => .inl z) (fun _ z => z) k2 a) hx
  | ok r ps =>
    intro v H' us F hp hr
    obtain ⟨k1, h⟩ := Post.ite (x := got (callRes lend r) (up ps)) h
    obtain ⟨r', e1, h⟩ := Post.got h
    cases r with
    | bor i => exact hr.elim
    | val d =>
      obtain ⟨a, as⟩ := hr
      have e1 : (if okL lend d = true then some (Rz.val d) else none) = some r' := e1
      split at e1
      · rename_i k2
        cases e1
        have S' := fin ps us H' O F hp (fun _ z => .inl z) (hO F hp) (atsT O (OP Oc P) F hp (hO F hp) (fun _ z => .inl z) (fun _ z => z) k1 as)
        exact h v H' (stp ps us H' F hp) S' (atT O (OP Oc P) F hp (hO F hp) (fun _ z => .inl z) (fun _ z => z) k2 a) True.intro
      · cases e1
    | fr ds =>
      obtain ⟨q, ws, rfl, hq, hq', hl, a, as⟩ := hr
      have e1 : (if okLs lend ds = true then some (Rz.fr ds) else none) = some r' := e1
      split at e1
      · rename_i k2
        cases e1
        have hOa : ∀ b, Oa O q b → LD H' b := fun b z => by
          rcases z with z | z
          · exact hO F hp b z
          · subst z; exact LD.l hq'
        have k3 : ∀ b, Oa O q b → O b ∨ Oa (OP Oc P) q b := fun b z => by
          rcases z with z | z
          · exact .inl z
          · exact .inr (.inr z)
        have hOn : ∀ b, Oa O q b → O b ∨ H b = none := fun b z => by
          rcases z with z | z
          · exact .inl z
          · subst z; exact .inr hq
        have Sq := fin ps us H' (Oa O q) F hp hOn hOa (atsT (Oa O q) (Oa (OP Oc P) q) F hp hOa k3 (fun _ z => .inl z) k1 as)
        have S' := Sq.unhide
        refine h _ H' (stp ps us H' F hp) S' ⟨q, ws, rfl, hq', hl, S.trb q hq, fun z => ?_, atsT (Oa O q) (Oa (OP Oc P) q) F hp hOa k3 (fun _ z => .inl z) k2 a, Sq⟩ fun p e => by cases e; exact hq
        rcases z with z | z
        · obtain ⟨xs, e, _⟩ := S.hid q z
          rw [hq] at e; cases e
        · obtain ⟨xs, e⟩ := S.own_lst ((ow ps q).mp z)
          rw [hq] at e; cases e
      · cases e1
/-- what the callee may not see -/
def Hc (O : Hid) (σ : L2.St) (δ : FEnv) (vs : List V) (rs : List Rz) : Hid := fun q => Ob O σ δ q ∧ ¬ Lent vs rs q
theorem arg_see {d : D} (S : St G Hb O H σ δ) (hr : RAt G Hb O H σ δ v r) (hn : ∀ ds, r ≠ .fr ds) (e : view δ r = some d) (s : ∀ q, O2 q → Ob O σ δ q) (k : isV r = false → ∀ q, v = .ref q → ¬ O2 q) : At G O2 H d v := by
  cases r with
  | fr ds => exact absurd rfl (hn ds)
  | val x => cases Option.some.inj e; exact At.mv ⟨fun _ _ h _ _ => h, fun b z => .inl (s b z)⟩ hr
  | bor i => exact at0_lend (S.view hr e) (fun q e2 _ => k rfl q e2) s
theorem args_see (S : St G Hb O H σ δ) : ∀ {vs : List V} {rs : List Rz} {ds : List D}, RAts G Hb O H σ δ vs rs → Nf rs → views δ rs = some ds → (∀ q, O2 q → Ob O σ δ q) → (∀ q, O2 q → ¬ Lent vs rs q) → Ats G O2 H ds vs
  | [], [], _, _, _, e, _, _ => by cases Option.some.inj e; exact Ats.nil
  | [], _ :: _, _, h, _, _, _, _ => h.elim
  | _ :: _, [], _, h, _, _, _, _ => h.elim
  | v :: vs, r :: rs, ds, h, n, e, s, k => by
    unfold views at e
    obtain ⟨d, e1, e⟩ := Option.bind_eq_some_iff.mp e
    obtain ⟨ds', e2, e⟩ := Option.map_eq_some_iff.mp e
    cases e
    exact Ats.cons (arg_see S h.1 (n r List.mem_cons_self) e1 s fun e3 q e4 z => k q z (.inl ⟨e4, e3⟩)) (args_see S h.2 (fun r' h' => n r' (List.mem_cons_of_mem _ h')) e2 s fun q z y => k q z (.inr y))
theorem Post.lentS {s : Option (Option SE)} {k : Bool → List D → Res} (h : Post G W Hb O H σ δ0 Q (lentS s k)) : ∃ b ds, s = some (some (.own b ds)) ∧ Post G W Hb O H σ δ0 Q (k b ds) := by
  match s, h with
  | some (some (.own b ds)), h => exact ⟨b, ds, rfl, h⟩
  | some (some (.val _)), h => exact h.elim
  | some none, h => exact h.elim
  | none, h => exact h.elim
theorem lent_all {i : Nat} (S : St G Hb O H σ δ) (hp : OwnAt σ δ i p) : ∀ {vs : List V} {rs : List Rz}, RAts G Hb O H σ δ vs rs → Nf rs → rs.all (notB i) = true → ¬ Lent vs rs p
  | [], _, _, _, _ => fun z => by cases z
  | _ :: _, [], h, _, _ => h.elim
  | v :: vs, r :: rs, h, n, e => fun z => by
    rw [List.all_cons, Bool.and_eq_true] at e
    rcases z with ⟨e1, e2⟩ | z
    · cases r with
      | val d => cases e2
      | fr ds => exact n _ List.mem_cons_self ds rfl
      | bor j =>
        obtain ⟨q1, b, es, q2⟩ := (show σ[j]? = some (some v) ∧ ∃ b ds, δ[j]? = some (some (SE.own b ds)) from h.1)
        have : i = j := S.inj i j p hp ⟨by rw [q1, e1], b, es, q2⟩
        subst this
        have e3 : (i != i) = true := e.1
        simp at e3
    · exact lent_all S hp h.2 (fun r' h' => n r' (List.mem_cons_of_mem _ h')) e.2 z
/-- a call's arguments grant what the def asks -/
theorem call_core {pf : Bool} {f : FSem} {rs : List Rz} {vs : List V} (S : St G Hb O H σ δ) (hr : RAts G Hb O H σ δ vs rs) (n : Nf rs) (h : Post G W Hb O H σ δ Q (callV pf f rs δ)) : spOf G vs.length pf f vs H Q (WE W σ) := by
  cases pf with
  | false =>
    obtain ⟨ds, e, h⟩ := Post.viewsB (show Post G W Hb O H σ δ Q (viewsB δ rs fun ds => callEnd (!rs.all isV) (fun _ => δ) (f ds)) from h)
    refine ⟨rfl, Hc O σ δ vs rs, none, ds, S.tb, fun q z => S.ob_lst z.1, ⟨rfl, args_see S hr n e (fun _ z => z.1) (fun _ z => z.2)⟩, ?_⟩
    have kp : ∀ {H'}, FPost G none H H' → ∀ b o, H b = some o → NTbl o → H' b = some o := fun F b o e nt => F.keep b o e nt (by simp)
    refine call_end S (fun p z => by cases z) (fun ps us H' O2 F _ h1 h2 _ => (S.keptO (kp F) F.trk F.tb h1 h2).1) (fun _ _ => Iff.rfl) (fun ps us H' F _ => ⟨fun b o e nt _ => kp F b o e nt, fun p z => .inl z, F.trk, fun i z => ⟨z, rfl⟩⟩) (fun z q y => .inl ⟨y, lent_none (by simpa using z)⟩) h
  | true =>
    have h : Post G W Hb O H σ δ Q (callP f δ rs) := h
    match rs, vs, hr, n, h with
    | [], _, _, _, h => exact h.elim
    | .val _ :: _, _, _, _, h => exact h.elim
    | .fr _ :: _, _, _, _, h => exact h.elim
    | .bor i :: rs, [], hr, _, _ => exact hr.elim
    | .bor i :: rs, v :: vs, hr, n, h =>
      obtain ⟨b, uds, e1, h⟩ := Post.lentS h
      obtain ⟨e2, h⟩ := Post.ite h
      obtain ⟨ds, e3, h⟩ := Post.viewsB h
      obtain ⟨p, us0, q1, q2, q3, q4, q5, q6⟩ := S.own i b uds e1
      have hv : σ[i]? = some (some v) := hr.1.1
      rw [hv] at q1
      have q1 : v = .ref p := by simpa using q1
      subst q1
      have hpo : OwnAt σ δ i p := ⟨hv, b, uds, e1⟩
      have n' : Nf rs := fun r' h' => n r' (List.mem_cons_of_mem _ h')
      have nl : ¬ Lent vs rs p := lent_all S hpo hr.2 n' e2
      have sub : ∀ q, OP (fun q => (Ob O σ δ q ∧ ¬ Lent vs rs q) ∧ q ≠ p) (some p) q → Ob O σ δ q := fun q z => by
        rcases z with z | z
        · exact z.1.1
        · cases z; exact .inr ⟨i, hpo⟩
      refine ⟨rfl, fun q => (Ob O σ δ q ∧ ¬ Lent vs rs q) ∧ q ≠ p, some p, .lst uds :: ds, S.tb, fun q z => S.ob_lst z.1.1, ?_, ?_⟩
      · refine ⟨p, us0, uds, vs, ds, rfl, rfl, rfl, q2, q3, fun z => z.2 rfl, q6.mv ⟨fun _ _ h _ _ => h, fun b z => .inl (sub b z)⟩, args_see S hr.2 n' e3 sub fun q z => ?_⟩
        rcases z with z | z
        · exact z.1.2
        · cases z; exact nl
      · have kp : ∀ {H'}, FPost G (some p) H H' → ∀ b o, H b = some o → NTbl o → b ≠ p → H' b = some o := fun F b o e nt z => F.keep b o e nt (by simpa using Ne.symm z)
        have key : ∀ ps us H' O2, FPost G (some p) H H' → ParAt (some p) H' us → (∀ q, O2 q → O q ∨ H q = none) → (∀ q, O2 q → LD H' q) → Ats G (Ob O2 σ (δ.set i (some (.own b ps)))) H' ps us → St G Hb O2 H' σ (δ.set i (some (.own b ps))) := fun ps us H' O2 F hp h1 h2 hs => (S.lentO e1 hv (kp F) F.trk F.tb hp.1 hp.2 h1 h2 hs).1
        have il : i < δ.length := (List.getElem?_eq_some_iff.mp e1).1
        have gn : ∀ ps j, j ≠ i → (δ.set i (some (.own b ps)))[j]? = δ[j]? := fun ps j hj => by rw [List.getElem?_set_ne (Ne.symm hj)]
        have gi : ∀ ps, (δ.set i (some (.own b ps)))[i]? = some (some (.own b ps)) := fun ps => by rw [List.getElem?_set_self il]
        have oa : ∀ ps j q, OwnAt σ (δ.set i (some (.own b ps))) j q ↔ OwnAt σ δ j q := fun ps j q => by
          by_cases hj : j = i
          · subst hj
            exact ⟨fun ⟨x, _⟩ => ⟨x, _, _, e1⟩, fun ⟨x, _⟩ => ⟨x, _, _, gi ps⟩⟩
          · unfold OwnAt; rw [gn ps j hj]
        have ow : ∀ ps q, Own σ (δ.set i (some (.own b ps))) q ↔ Own σ δ q := fun ps q => ⟨fun ⟨j, z⟩ => ⟨j, (oa ps j q).mp z⟩, fun ⟨j, z⟩ => ⟨j, (oa ps j q).mpr z⟩⟩
        refine call_end S (fun p' z => by cases z; exact ⟨us0, q2⟩) key ow (fun ps us H' F _ => ⟨fun b' o e nt z => kp F b' o e nt fun y => z (by rw [y]; exact ⟨i, hpo⟩), fun p' z => .inl ((ow ps p').mp z), F.trk, fun j z => ?_⟩) (fun z q y => ?_) h
        · refine ⟨?_, rfl⟩
          by_cases hj : j = i
          · subst hj
            obtain ⟨es, z⟩ := z
            rw [e1] at z
            have : b = true := by simpa using (SE.own.inj (Option.some.inj (Option.some.inj z))).1
            subst this
            exact ⟨ps, gi ps⟩
          · obtain ⟨es, z⟩ := z
            exact ⟨es, by rw [gn ps j hj]; exact z⟩
        · by_cases w : q = p
          · subst w; exact .inr rfl
          · exact .inl ⟨⟨y, lent_none (by simpa using z)⟩, w⟩
theorem mArgs_len : ∀ {ms : List Mz} {δ δ' : FEnv} {rs : List Rz}, mArgs ms δ = .ok rs δ' → rs.length = ms.length
  | [], δ, δ', rs, e => by
    unfold mArgs at e
    cases e; rfl
  | m :: ms, δ, δ', rs, e => by
    unfold mArgs at e
    cases e1 : m δ with
    | stuck => rw [e1] at e; cases e
    | err _ _ _ => rw [e1] at e; cases e
    | ok r δ1 =>
      rw [e1] at e
      have e : ((mArgs ms δ1).bindA fun rs δ2 => ResA.cons δ2 (norm δ2 r) rs) = .ok rs δ' := e
      cases e2 : mArgs ms δ1 with
      | stuck => rw [e2] at e; cases e
      | err _ _ _ => rw [e2] at e; cases e
      | ok rs' δ2 =>
        rw [e2] at e
        have e : ResA.cons δ2 (norm δ2 r) rs' = .ok rs δ' := e
        cases e3 : norm δ2 r with
        | none => rw [e3] at e; cases e
        | some r' =>
          rw [e3] at e
          cases e
          rw [List.length_cons, List.length_cons, mArgs_len e2]
theorem RAts.length : ∀ {vs : List V} {rs : List Rz}, RAts G Hb O H σ δ vs rs → vs.length = rs.length
  | [], [], _ => rfl
  | _ :: _, _ :: _, h => by rw [List.length_cons, List.length_cons, RAts.length h.2]
  | [], _ :: _, h => h.elim
  | _ :: _, [], h => h.elim
/-- f(..) -/
theorem ev_call {pf : Bool} {f : FSem} {ms : List Mz} {n : Nat} (hn : ms.length = n) (σ : L2.St) (H : Hp) (Q : VK) (h : Ev G W (mCall pf f ms) σ H Q) : tCallS (spOf G n pf f) (WE W) (EvA G W ms) σ H Q := by
  obtain ⟨Hb, O, δ, S, h⟩ := h
  refine ⟨Hb, O, δ, S, PostA.of h fun rs δ1 vs H1 ex st1 S1 r1 h1 => ?_⟩
  have e : vs.length = n := by rw [r1.length, mArgs_len ex, hn]
  subst e
  exact call_core S1 r1 (nf_args ex) h1
end
end DL
/-! DLD: what a def promises; isinstance, membership, identity, stores, append. -/
namespace DL
open PySem PySem.Spec PyProof.Rows L2
abbrev WB (E : XK) : WX := fun cls d _ H => E cls d H
theorem fn_okD {P : Program} {w : World} {K : PySem.W.Frag} {mg : Str → Option Value} {base : Heap} {G : Ctx} {x qual : Str} {st : Stmt} {f : Addr} {fd : FuncData} {N ps : List Str} {k n : Nat} {m : Sz} {pf : Bool}
    (F : Fun K x qual st f fd) (S : FnScope N ps (defScope st)) (hn : n = ps.length) (hl : n ≤ N.length)
    (hbody : ∀ (cdv : Value) (A : Around) (outer : List Env) (s : Shared) (H : Hp) (E : XK), Room k (A.deeper (envOfC qual (defScope st) s.heap.objs.size f cdv)) →
      PSs (cxOf (L2.CX P w) P w K mg base N qual (defScope st) f cdv A outer s H E) (defBody st) (Sv G (WB E) m)) :
    FnOk P w K mg base (L2.CX P w) (k + 1) f fd ps (spOf G n pf (runDef m pf N.length)) :=
  F.okX S (fun vs H Q E h => by rw [← hn]; exact h.1) fun cdv A outer s H vs Q E hr h => ⟨_, hbody cdv A outer s H E hr, body_ok hl h⟩
section
variable {G : Ctx} {O : Hid} {H : Hp} {d : D} {v : V}
/-! ### isinstance -/
theorem tyx_rd {K : PySem.W.Frag} {a : Addr} {xs : List V} (h : Rd H a (.tup xs)) : TyX K H (.ref a) (.type "tuple") := by
  rcases h with h | ⟨o, h⟩
  · exact .base (.tup h)
  · exact .fTuple h
theorem tyx_of {n : String} (h : At0 G O H d v) (e : tyN d = some n) : TyX G.K H v (.type n) := by
  cases d with
  | non => cases Option.some.inj e; have h : At G O H .non v := h; unfold At at h; subst h; exact .base .non
  | bl b => cases Option.some.inj e; have h : At G O H (.bl b) v := h; unfold At at h; subst h; exact .base (.bl b)
  | int i => cases Option.some.inj e; have h : At G O H (.int i) v := h; unfold At at h; subst h; exact .base (.int i)
  | str x => cases Option.some.inj e; have h : At G O H (.str x) v := h; unfold At at h; subst h; exact .base (.str x)
  | tup ds =>
    cases Option.some.inj e
    have h : At G O H (.tup ds) v := h
    unfold At at h
    obtain ⟨a, vs, rfl, h1, _, _⟩ := h
    rcases h1 with ⟨_, h1⟩ | ⟨o, its, m, k1, k2, _⟩
    · exact tyx_rd h1
    · exact .kTuple k1 k2
  | lst ds =>
    cases Option.some.inj e
    obtain ⟨a, vs, rfl, h1, _, _⟩ := (show ∃ a vs, v = .ref a ∧ H a = some (.lst vs) ∧ vs.length ≤ sizeLine ∧ Ats G O H ds vs from h)
    exact .base (.lst h1)
  | scr ns =>
    cases Option.some.inj e
    have h : At G O H (.scr ns) v := h
    unfold At at h
    obtain ⟨a, rfl, h1, _⟩ := h
    rcases h1 with ⟨_, h1 | ⟨o, h1⟩⟩ | ⟨o, its, m, k1, k2, _⟩
    · exact .base (.lst h1)
    · exact .base (.frz h1)
    · exact .kList k1 k2
  | dct kvs =>
    cases Option.some.inj e
    have h : At G O H (.dct kvs) v := h
    unfold At at h
    obtain ⟨a, ws, rfl, _, h1, _, _⟩ := h
    exact .base (.dK h1)
  | ins C fs => cases e
theorem ev_isi {W : WX} {n : String} {a : Mz} (σ : L2.St) (H : Hp) (Q : VK) (h : Ev G W (mUn (dIsi n) a) σ H Q) : tCB (rIsi G.K) (tCons (Ev G W a) (tCons (tC (.ty n)) tNil)) σ H Q := by
  obtain ⟨Hb, O, δ, S, h⟩ := h
  refine ⟨Hb, O, δ, S, Post.bind h fun r δ1 v H1 st1 S1 r1 n1 h1 => ?_⟩
  obtain ⟨x, ex, h2⟩ := Post.viewB h1
  obtain ⟨r3, e3, h2⟩ := Post.got h2
  obtain ⟨t, e4, e5⟩ := Option.bind_eq_some_iff.mp e3
  obtain ⟨b, e6, rfl⟩ := Option.map_eq_some_iff.mp e5
  exact ⟨v, .ty n, .type t, .type n, b, rfl, .ty n, tyx_of (S1.view r1 ex) e4, kit_ty e6, h2 _ H1 Stp.refl S1 (show At _ _ _ _ _ from at_bl) True.intro⟩
/-! ### x in a sequence of plain values -/
def flatD : D → Option V
  | .non => some .non
  | .bl b => some (.bl b)
  | .int i => some (.int i)
  | .str x => some (.str x)
  | _ => none
def flatDs : List D → Option (List V)
  | [] => some []
  | d :: ds => (flatD d).bind fun v => (flatDs ds).map fun vs => v :: vs
theorem flat_at {d : D} {v u : V} (h : At G O H d v) (e : flatD d = some u) : v = u ∧ flatV u = true := by
  cases d with
  | non => cases Option.some.inj e; unfold At at h; exact ⟨h, rfl⟩
  | bl b => cases Option.some.inj e; unfold At at h; exact ⟨h, rfl⟩
  | int i => cases Option.some.inj e; unfold At at h; exact ⟨h, rfl⟩
  | str x => cases Option.some.inj e; unfold At at h; exact ⟨h, rfl⟩
  | _ => cases e
theorem flat_at0 {d : D} {v u : V} (h : At0 G O H d v) (e : flatD d = some u) : v = u ∧ flatV u = true := by
  cases d with
  | lst ds => cases e
  | _ => exact flat_at (G := G) (O := O) (H := H) h e
theorem flat_ats : ∀ {ds : List D} {vs us : List V}, Ats G O H ds vs → flatDs ds = some us → vs = us ∧ us.all flatV = true
  | [], vs, us, h, e => by
    cases Option.some.inj e
    unfold Ats at h
    exact ⟨h, rfl⟩
  | d :: ds, vs, us, h, e => by
    unfold Ats at h
    obtain ⟨v, ws, rfl, h1, h2⟩ := h
    obtain ⟨u, e1, e⟩ := Option.bind_eq_some_iff.mp e
    obtain ⟨us', e2, rfl⟩ := Option.map_eq_some_iff.mp e
    obtain ⟨rfl, f1⟩ := flat_at h1 e1
    obtain ⟨rfl, f2⟩ := flat_ats h2 e2
    exact ⟨rfl, by rw [List.all_cons, f1, f2]; rfl⟩
def dInB (x y : D) : Option Bool := (flatD x).bind fun v => (seqD y).bind fun ys => (flatDs ys).map fun us => inV v us
def dIn (neg : Bool) (x y : D) : Option Rz := (dInB x y).map fun b => .val (.bl (if neg then !b else b))
theorem seq_see {d : D} {ds : List D} {v : V} (h : At0 G O H d v) (e : seqD d = some ds) : ∃ p vs, v = .ref p ∧ (SqL G.K H p vs ∨ SqT G.K H p vs) ∧ Ats G O H ds vs := by
  cases d with
  | tup es =>
    cases Option.some.inj e
    obtain ⟨a, vs, rfl, h1, h2, hl, hs⟩ := at0_tup h
    exact ⟨a, vs, rfl, .inr h2, hs⟩
  | lst es =>
    cases Option.some.inj e
    obtain ⟨a, vs, rfl, h1, h2, hl, hs⟩ := at0_lst h
    exact ⟨a, vs, rfl, .inl h2, hs⟩
  | scr ns =>
    cases Option.some.inj e
    obtain ⟨a, rfl, h2, hl⟩ := at0_scr h
    exact ⟨a, _, rfl, .inl h2, Ats.of_ints ns⟩
  | _ => cases e
theorem od_in {neg : Bool} : OpD G (rIn G.K neg) (dIn neg) := by
  intro x y r e O H vx vy Q ht hx hy q
  obtain ⟨b, e1, rfl⟩ := Option.map_eq_some_iff.mp e
  obtain ⟨u, e2, e1⟩ := Option.bind_eq_some_iff.mp e1
  obtain ⟨ys, e3, e1⟩ := Option.bind_eq_some_iff.mp e1
  obtain ⟨us, e4, rfl⟩ := Option.map_eq_some_iff.mp e1
  obtain ⟨rfl, f1⟩ := flat_at0 hx e2
  obtain ⟨p, vs, rfl, hs, ha⟩ := seq_see hy e3
  obtain ⟨rfl, f2⟩ := flat_ats ha e4
  exact ⟨p, vs, rfl, hs, f1, f2, q _ H Grow.refl (nv at_bl)⟩
/-! ### is -/
def isNonD : D → Bool
  | .non => true
  | _ => false
def dIs (neg : Bool) : D → D → Option Rz
  | .bl a, .bl b => some (.val (.bl (if neg then !decide (a = b) else decide (a = b))))
  | x, .non => some (.val (.bl (if neg then !isNonD x else isNonD x)))
  | _, _ => none
def rIs : R2 := fun x y H Q => (∃ a b, x = .bl a ∧ y = .bl b ∧ Q (.bl (decide (a = b))) H) ∨ (y = .non ∧ Q (.bl (decide (x = .non))) H)
def rIsNot : R2 := fun x y H Q => (∃ a b, x = .bl a ∧ y = .bl b ∧ Q (.bl (!decide (a = b))) H) ∨ (y = .non ∧ Q (.bl (!decide (x = .non))) H)
theorem or_is {X : Cx} : OpR X (compareOp .Is) rIs := op_is_bl.orr op_isN
theorem or_isNot {X : Cx} : OpR X (compareOp .IsNot) rIsNot := op_isnot_bl.orr op_notN
theorem non_at {d : D} {v : V} (h : At0 G O H d v) : decide (v = .non) = isNonD d := by
  cases d with
  | non => have h : At G O H .non v := h; unfold At at h; subst h; rfl
  | bl b => have h : At G O H (.bl b) v := h; unfold At at h; subst h; rfl
  | int i => have h : At G O H (.int i) v := h; unfold At at h; subst h; rfl
  | str x => have h : At G O H (.str x) v := h; unfold At at h; subst h; rfl
  | tup ds => obtain ⟨a, vs, rfl, _⟩ := at0_tup h; rfl
  | lst ds => obtain ⟨a, vs, rfl, _⟩ := at0_lst h; rfl
  | scr ns => obtain ⟨a, rfl, _⟩ := at0_scr h; rfl
  | dct kvs => have h : At G O H (.dct kvs) v := h; unfold At at h; obtain ⟨a, ws, rfl, _⟩ := h; rfl
  | ins C fs => have h : At G O H (.ins C fs) v := h; unfold At at h; obtain ⟨a, dx, ws, rfl, _⟩ := h; rfl
theorem dIs_cases {neg : Bool} {x y : D} {r : Rz} (e : dIs neg x y = some r) : (∃ a b, x = .bl a ∧ y = .bl b ∧ r = .val (.bl (if neg then !decide (a = b) else decide (a = b)))) ∨ (y = .non ∧ r = .val (.bl (if neg then !isNonD x else isNonD x))) := by
  unfold dIs at e
  split at e
  · exact .inl ⟨_, _, rfl, rfl, (Option.some.inj e).symm⟩
  · exact .inr ⟨rfl, (Option.some.inj e).symm⟩
  · cases e
theorem od_is : OpD G rIs (dIs false) := by
  intro x y r e O H vx vy Q ht hx hy q
  rcases dIs_cases e with ⟨a, b, rfl, rfl, rfl⟩ | ⟨rfl, rfl⟩
  · have hx : At G O H (.bl a) vx := hx
    have hy : At G O H (.bl b) vy := hy
    unfold At at hx hy
    exact .inl ⟨a, b, hx, hy, q _ H Grow.refl (nv at_bl)⟩
  · have hy : At G O H .non vy := hy
    unfold At at hy
    refine .inr ⟨hy, ?_⟩
    rw [non_at hx]
    exact q _ H Grow.refl (nv at_bl)
theorem od_isNot : OpD G rIsNot (dIs true) := by
  intro x y r e O H vx vy Q ht hx hy q
  rcases dIs_cases e with ⟨a, b, rfl, rfl, rfl⟩ | ⟨rfl, rfl⟩
  · have hx : At G O H (.bl a) vx := hx
    have hy : At G O H (.bl b) vy := hy
    unfold At at hx hy
    exact .inl ⟨a, b, hx, hy, q _ H Grow.refl (nv at_bl)⟩
  · have hy : At G O H .non vy := hy
    unfold At at hy
    refine .inr ⟨hy, ?_⟩
    rw [non_at hx]
    exact q _ H Grow.refl (nv at_bl)
end
end DL
/-! DLE: stores, append, list(range), calls by name, two at once. -/
namespace DL
open PySem PySem.Spec PyProof.Rows L2
/-! ### f(k = v, ..): every parameter by name, in the def's order -/
section
variable {X : Cx} {CX : CXT} {k : Nat} {f : Addr} {fd : FuncData} {ps : List Str} {sp : Sp} {E : L2.St → XK} {x : Str} {p pos : Pos} {kws : List Keyword} {tk : TA}
theorem pe_callK0S (F : FnOk X.prog X.w X.K X.mg X.base CX k f fd ps sp) (hr : Room k X.A) (hg : Gl X x) (hm : X.mg x = some (.ref f)) (hk : PySem.W.keepIn X.K (.ref f) = true)
    (hb : ∀ (s : Shared) (ws : List Value), X.K.In s.heap → ws.length = ps.length → BindsTo s fd ⟨[], ps.zip ws⟩ (ps.zip ws)) (hx : ∀ σ, PassesAt CX X σ (E σ))
    (hkw : PK X kws tk) (hall : (backToKw pos (keywordEach kws X.env)).all (·.1.isSome) = true := by rfl) (hks : (backToKw pos (keywordEach kws X.env)).filterMap (·.1) = ps := by rfl)
    (hdb : (x == ("__debug__" : Str)) = false := by decide)
    (hpl : ((backTo pos (starEach [] X.env)).any (·.1) || (backToKw pos (keywordEach kws X.env)).any (·.1.isNone)) = false := by rfl) :
    PE X (.Call (.Name x p) [] kws pos) (tCallS sp E tk) := by
  refine ⟨fun pins s σ H Q I h => ?_⟩
  refine wpAny_Call_Name_kw (ld_glob I hg hm ?_ hdb)
  refine PySem.W.callWith_KW0 (h₀ := X.base) I.ok.mod.kin hk hall (thn (hkw.run pos pins s σ H _ I h) fun ws s2 ⟨zs, H2, I2, rz, q2⟩ => ⟨I2.kIn, ?_⟩) hpl
  rw [hks]
  have hl : ws.length = ps.length := by rw [← rz.length]; exact F.len _ _ _ _ q2
  refine wpAny_call (codeAny_mono (F.run X.A X.stack s2 H2 ⟨[], ps.zip ws⟩ ws zs Q (E σ) hr I2.env0 (hb s2 ws I2.kIn hl) rz q2) fun r s' hq => ?_)
  cases r with
  | error e => exact hx σ pins H2 s2 e s' I2 hq
  | ok fl =>
    cases fl with
    | ret u => exact I2.after hq
    | next => exact False.elim hq
    | brk => exact False.elim hq
    | cont => exact False.elim hq
end
section
variable {G : Ctx} {W : WX} {Hb : Hp} {O : Hid} {H H1 H' : Hp} {σ : L2.St} {δ δ0 δ1 δ' : FEnv} {Q : VK} {D : Ends} {r : Rz} {v : V} {p : Addr}
/-! ### a list is written -/
theorem own_set {i : Nat} {b : Bool} {uds ps : List DL.D} (hi : δ[i]? = some (some (.own b uds))) (q : Addr) : Own σ (δ.set i (some (.own b ps))) q ↔ Own σ δ q := by
  have il : i < δ.length := (List.getElem?_eq_some_iff.mp hi).1
  have gi : (δ.set i (some (.own b ps)))[i]? = some (some (.own b ps)) := by rw [List.getElem?_set_self il]
  have gn : ∀ j, j ≠ i → (δ.set i (some (.own b ps)))[j]? = δ[j]? := fun j hj => by rw [List.getElem?_set_ne (Ne.symm hj)]
  have oa : ∀ j q, OwnAt σ (δ.set i (some (.own b ps))) j q ↔ OwnAt σ δ j q := fun j q => by
    by_cases hj : j = i
    · subst hj
      exact ⟨fun ⟨x, _⟩ => ⟨x, _, _, hi⟩, fun ⟨x, _⟩ => ⟨x, _, _, gi⟩⟩
    · unfold OwnAt; rw [gn j hj]
  exact ⟨fun ⟨j, z⟩ => ⟨j, (oa j q).mp z⟩, fun ⟨j, z⟩ => ⟨j, (oa j q).mpr z⟩⟩
theorem St.write {i : Nat} {b : Bool} {uds ps : List DL.D} {us : List V} (S : St G Hb O H σ δ) (hi : δ[i]? = some (some (.own b uds))) (hp : σ[i]? = some (some (.ref p))) (hul : us.length ≤ sizeLine) (hs : Ats G (Ob O σ δ) H ps us) :
    St G Hb O (upd H p (.lst us)) σ (δ.set i (some (.own b ps))) ∧ Stp σ δ H σ (δ.set i (some (.own b ps))) (upd H p (.lst us)) := by
  have po : Own σ δ p := ⟨i, hp, b, uds, hi⟩
  obtain ⟨p', us0, q1, q2, q3, q4, q5, q6⟩ := S.own i b uds hi
  rw [hp] at q1; cases q1
  have il : i < δ.length := (List.getElem?_eq_some_iff.mp hi).1
  have gi : (δ.set i (some (.own b ps)))[i]? = some (some (.own b ps)) := by rw [List.getElem?_set_self il]
  have gn : ∀ j, j ≠ i → (δ.set i (some (.own b ps)))[j]? = δ[j]? := fun j hj => by rw [List.getElem?_set_ne (Ne.symm hj)]
  have trk : ∀ b, upd H p (.lst us) b = none → H b = none := fun b e => by
    by_cases z : b = p
    · subst z; rw [upd_same] at e; cases e
    · rw [upd_ne z] at e; exact e
  have hmv : Mv (Ob O σ δ) H (Ob O σ (δ.set i (some (.own b ps)))) (upd H p (.lst us)) := ⟨fun b' o e n z => by rw [upd_ne (fun y => z (by rw [y]; exact .inr po))]; exact e, fun b' z => .inl (by
    rcases z with z | z
    · exact .inl z
    · exact .inr ((own_set hi b').mp z))⟩
  have hid : ∀ q, O q → LD (upd H p (.lst us)) q := fun q z => by
    by_cases y : q = p
    · subst y; exact LD.l upd_same
    · exact (S.hid q z).kp fun o e _ => by rw [upd_ne y]; exact e
  have key := (S.lentO (O2 := O) (H' := upd H p (.lst us)) (us := us) (ps := ps) hi hp (fun b' o e nt z => by rw [upd_ne z]; exact e) trk (tabs_updL S.tb q2) upd_same hul (fun q z => .inl z) hid (hs.mv hmv)).1
  refine ⟨key, ⟨fun b' o e nt z => by rw [upd_ne (fun y => z (by rw [y]; exact po))]; exact e, fun p' z => .inl ((own_set hi p').mp z), trk, fun j z => ⟨?_, rfl⟩⟩⟩
  by_cases hj : j = i
  · subst hj
    obtain ⟨es, z⟩ := z
    rw [hi] at z
    have : b = true := by simpa using (SE.own.inj (Option.some.inj (Option.some.inj z))).1
    subst this
    exact ⟨ps, gi⟩
  · obtain ⟨es, z⟩ := z
    exact ⟨es, by rw [gn j hj]; exact z⟩
def ownX {α : Type} (st : α) (s : Option (Option SE)) (k : Bool → List DL.D → α) : α := match s with
  | some (some (.own b ds)) => k b ds
  | _ => st
theorem ownX_of {α : Type} {st : α} {P : α → Prop} {s : Option (Option SE)} {k : Bool → List DL.D → α} (n : ¬ P st) (h : P (ownX st s k)) : ∃ b ds, s = some (some (.own b ds)) ∧ P (k b ds) := by
  match s, h with
  | some (some (.own b ds)), h => exact ⟨b, ds, rfl, h⟩
  | some (some (.val _)), h => exact absurd h n
  | some none, h => exact absurd h n
  | none, h => exact absurd h n
def gvX {α : Type} (st : α) (s : Option (DL.D × FEnv)) (k : DL.D → FEnv → α) : α := match s with
  | some x => k x.1 x.2
  | none => st
theorem gvX_of {α : Type} {st : α} {P : α → Prop} {s : Option (DL.D × FEnv)} {k : DL.D → FEnv → α} (n : ¬ P st) (h : P (gvX st s k)) : ∃ d δ, s = some (d, δ) ∧ P (k d δ) := by
  cases s with
  | none => exact absurd h n
  | some x => exact ⟨x.1, x.2, rfl, h⟩
def intX {α : Type} (st : α) (r : Rz) (k : Int → α) : α := match r with
  | .val (.int i) => k i
  | _ => st
theorem intX_of {α : Type} {st : α} {P : α → Prop} {r : Rz} {k : Int → α} (n : ¬ P st) (h : P (intX st r k)) : ∃ i, r = .val (.int i) ∧ P (k i) := by
  cases r with
  | bor i => exact absurd h n
  | fr ds => exact absurd h n
  | val d =>
    cases d with
    | int i => exact ⟨i, rfl, h⟩
    | _ => exact absurd h n
def natX {α : Type} (st : α) (s : Option Nat) (k : Nat → α) : α := match s with
  | some x => k x
  | none => st
theorem natX_of {α : Type} {st : α} {P : α → Prop} {s : Option Nat} {k : Nat → α} (n : ¬ P st) (h : P (natX st s k)) : ∃ d, s = some d ∧ P (k d) := by
  cases s with
  | none => exact absurd h n
  | some x => exact ⟨x, rfl, h⟩
/-- held, then given away -/
def giveN (δ : FEnv) (r : Rz) : Option (DL.D × FEnv) := (norm δ r).bind fun r' => give δ r'
theorem St.giveN {d : DL.D} (S : St G Hb O H σ δ) (h : RAt G Hb O H σ δ v r) (a : Stp σ δ H σ δ1 H1) (S1 : St G Hb O H1 σ δ1) (e : giveN δ1 r = some (d, δ')) : St G Hb O H1 σ δ' ∧ Stp σ δ1 H1 σ δ' H1 ∧ At G (Ob O σ δ') H1 d v := by
  obtain ⟨r', e1, e2⟩ := Option.bind_eq_some_iff.mp e
  exact S1.give (S.norm h a S1 e1).w e2
/-- slot j [mi] = me -/
def sSetIx (j : Nat) (mi me : Mz) : Sz := fun δ => (me δ).bindS fun r δ1 => ownX .stuck δ1[j]? fun _ _ => (mi δ1).bindS fun ri δ2 => intX .stuck ri fun k => gvX .stuck (giveN δ2 r) fun d δ3 =>
  ownX .stuck δ3[j]? fun b ds => natX .stuck (ixN ds.length k) fun n => .nx (δ3.set j (some (.own b (ds.set n d))))
theorem sv_setIx {j : Nat} {mi me : Mz} (D : Ends) (σ : L2.St) (H : Hp) (h : Sv G W (sSetIx j mi me) D σ H) : tAsg (Ev G W me) (gSub (tVar j) (Ev G W mi) rSetL) D σ H := by
  obtain ⟨Hb, O, δ, S, h⟩ := h
  refine ⟨Hb, O, δ, S, PostS.bind h fun r δ1 v H1 st1 S1 r1 n1 h1 => ?_⟩
  obtain ⟨b, ds, e0, h1⟩ := ownX_of (st := Out.stuck) (P := PostS G W Hb O H1 σ δ1 D) (fun z => z) h1
  obtain ⟨p, us, a1, _⟩ := S1.own j b ds e0
  refine ⟨_, a1, Hb, O, δ1, S1, PostS.bind h1 fun ri δ2 vi H2 st2 S2 r2 n2 h2 => ?_⟩
  obtain ⟨k, rfl, h2⟩ := intX_of (st := Out.stuck) (P := PostS G W Hb O H2 σ δ2 D) (fun z => z) h2
  have h2 : PostS G W Hb O H2 σ δ2 D (gvX .stuck (giveN δ2 r) fun d δ3 => ownX .stuck δ3[j]? fun b ds => natX .stuck (ixN ds.length k) fun n => .nx (δ3.set j (some (.own b (ds.set n d))))) := h2
  obtain ⟨d, δ3, e3, h2⟩ := gvX_of (st := Out.stuck) (P := PostS G W Hb O H2 σ δ2 D) (fun z => z) h2
  obtain ⟨b', es, e4, h2⟩ := ownX_of (st := Out.stuck) (P := PostS G W Hb O H2 σ δ2 D) (fun z => z) h2
  obtain ⟨n, e5, h2⟩ := natX_of (st := Out.stuck) (P := PostS G W Hb O H2 σ δ2 D) (fun z => z) h2
  have r2 : At G (Ob O σ δ2) H2 (.int k) vi := r2
  unfold At at r2
  subst r2
  obtain ⟨S3, st3, a3⟩ := S1.giveN r1 st2 S2 e3
  obtain ⟨p', vs, b1, b2, b3, b4, b5, b6⟩ := S3.own j b' es e4
  rw [a1] at b1; cases b1
  obtain ⟨S4, st4⟩ := S3.write e4 a1 (us := vs.set n v) (ps := es.set n d) (by rw [List.length_set]; exact b3) (b6.set n a3)
  exact ⟨p, vs, k, n, rfl, rfl, b2, by rw [b6.length]; exact e5, h2 _ _ (st3.trans st4) S4⟩
/-- slot j .append(me) -/
def mApp (j : Nat) (me : Mz) : Mz := fun δ => ownX .stuck δ[j]? fun _ _ => (me δ).bind fun r δ1 => gvX .stuck (giveN δ1 r) fun d δ2 => ownX .stuck δ2[j]? fun b ds => if sz (ds.length + 1) = true then .ok (.val .non) (δ2.set j (some (.own b (ds ++ [d])))) else .stuck
theorem ev_app {j : Nat} {me : Mz} (σ : L2.St) (H : Hp) (Q : VK) (h : Ev G W (mApp j me) σ H Q) : tBM G.K "list" rAppend (tVar j) (tCons (Ev G W me) tNil) σ H Q := by
  obtain ⟨Hb, O, δ, S, h⟩ := h
  obtain ⟨b, ds, e0, h1⟩ := ownX_of (st := Res.stuck) (P := Post G W Hb O H σ δ Q) (fun z => z) h
  obtain ⟨p, us, a1, a2, _⟩ := S.own j b ds e0
  refine ⟨_, a1, .inl ⟨rfl, us, .inl (.inl a2)⟩, Hb, O, δ, S, Post.bind h1 fun r δ1 v H1 st1 S1 r1 n1 h1 => ?_⟩
  obtain ⟨d, δ2, e3, h2⟩ := gvX_of (st := Res.stuck) (P := Post G W Hb O H1 σ δ1 Q) (fun z => z) h1
  obtain ⟨b', es, e4, h2⟩ := ownX_of (st := Res.stuck) (P := Post G W Hb O H1 σ δ1 Q) (fun z => z) h2
  obtain ⟨e5, h2⟩ := Post.ite h2
  obtain ⟨S3, st3, a3⟩ := S1.giveN r1 Stp.refl S1 e3
  obtain ⟨p', vs, b1, b2, b3, b4, b5, b6⟩ := S3.own j b' es e4
  rw [a1] at b1; cases b1
  have hl : (vs ++ [v]).length ≤ sizeLine := by rw [List.length_append, List.length_singleton, b6.length]; exact sz_line e5
  obtain ⟨S4, st4⟩ := S3.write e4 a1 (us := vs ++ [v]) (ps := es ++ [d]) hl (b6.append (Ats.one a3))
  refine ⟨p, vs, v, rfl, rfl, b2, ?_, h2 _ _ (st3.trans st4) S4 (show At _ _ _ _ _ from at_non) True.intro⟩
  rw [List.length_append, List.length_singleton] at hl
  omega
/-! ### list(range(..)) -/
def rgD (a b : Int) : List DL.D := (List.range (b - a).toNat).map fun i => .int (a + (i : Nat))
theorem ats_rg {a b : Int} : Ats G O H (rgD a b) (rgV a b) := by
  unfold rgD rgV
  generalize List.range (b - a).toNat = l
  induction l with
  | nil => exact Ats.nil
  | cons x l ih => exact Ats.cons at_int ih
def rgB (a b : Int) : Bool := decide (-(2 ^ 62) ≤ a ∧ a < 2 ^ 62 ∧ -(2 ^ 62) ≤ b ∧ b < 2 ^ 62 ∧ (b - a).toNat ≤ 2 ^ 24)
def mListRg1 (m : Mz) : Mz := fun δ => (m δ).bind fun r δ1 => intX .stuck r fun n => if rgB 0 n = true then .ok (.fr (rgD 0 n)) δ1 else .stuck
theorem rgV_line {a b : Int} (h : RgOk a b) : (rgV a b).length ≤ sizeLine := by
  rw [rgV_length, sizeLine_eq]
  exact h.2.2.2.2
theorem ev_listRg1 {m : Mz} (σ : L2.St) (H : Hp) (Q : VK) (h : Ev G W (mListRg1 m) σ H Q) : tLstRg (tRg1 (Ev G W m)) σ H Q := by
  obtain ⟨Hb, O, δ, S, h⟩ := h
  refine ⟨Hb, O, δ, S, Post.bind h fun r δ1 v H1 st1 S1 r1 n1 h1 => ?_⟩
  obtain ⟨n, rfl, h1⟩ := intX_of (st := Res.stuck) (P := Post G W Hb O H1 σ δ1 Q) (fun z => z) h1
  obtain ⟨e, h1⟩ := Post.ite h1
  have r1 : At G (Ob O σ δ1) H1 (.int n) v := r1
  unfold At at r1
  have ok : RgOk 0 n := by
    unfold rgB at e
    have e := of_decide_eq_true e
    exact e
  exact ⟨n, r1, ok, fun p hp => Post.new S1 (Grow.new hp) (fr_new hp (rgV_line ok) ats_rg) h1⟩
end
end DL
/-! DLF: two names at once; a dict that is looked up at once. -/
namespace DL
open PySem PySem.Spec PyProof.Rows L2
def notBor : Rz → Bool
  | .bor _ => false
  | _ => true
def setPar (δ : FEnv) (i j : Nat) (r r2 : Rz) : Option FEnv := if (notBor r && notBor r2) = true then (setSlot δ i r).bind fun δ1 => setSlot δ1 j r2 else none
def sPar (i j : Nat) (a b : Mz) : Sz := fun δ => (a δ).bindS fun r δ1 => (b δ1).bindS fun r2 δ2 => outO (setPar δ2 i j r r2)
theorem oa_comm (O : Hid) (p q : Addr) : Oa (Oa O p) q = Oa (Oa O q) p := by
  funext x
  exact propext ⟨fun z => by
    rcases z with (z | z) | z
    · exact .inl (.inl z)
    · exact .inr z
    · exact .inl (.inr z), fun z => by
    rcases z with (z | z) | z
    · exact .inl (.inl z)
    · exact .inr z
    · exact .inl (.inr z)⟩
def oX (O : Hid) : Rz → V → Hid
  | .fr _, .ref p => Oa O p
  | _, _ => O
section
variable {G : Ctx} {W : WX} {Hb : Hp} {O : Hid} {H H1 H2 H' : Hp} {σ : L2.St} {δ δ0 δ1 δ2 δ' : FEnv} {Q : VK} {D : Ends} {r : Rz} {v w : V} {p : Addr}
theorem own_after {i : Nat} {e : SE} {q : Addr} (hs : i < σ.length) (hi : i < δ.length) (h : Own (σ.set i (some v)) (δ.set i (some e)) q) : v = .ref q ∨ Own σ δ q := by
  obtain ⟨j, a, b, es, c⟩ := h
  by_cases hj : j = i
  · subst hj
    rw [List.getElem?_set_self hs] at a
    cases a
    exact .inl rfl
  · rw [List.getElem?_set_ne (Ne.symm hj)] at a c
    exact .inr ⟨j, a, b, es, c⟩
theorem nb_cases {r : Rz} (h : notBor r = true) : (∃ d, r = .val d) ∨ ∃ ds, r = .fr ds := by
  cases r with
  | val d => exact .inl ⟨d, rfl⟩
  | fr ds => exact .inr ⟨ds, rfl⟩
  | bor i => cases h
/-- two values for two slots -/
theorem par_end {i j : Nat} {r r2 : Rz} {δ4 : FEnv} (S1 : St G Hb O H1 σ δ1) (r1 : RAt G Hb O H1 σ δ1 v r) (n1 : Nw H v r) (st1 : Stp σ δ H σ δ1 H1) (e : setPar δ2 i j r r2 = some δ4) {O2 : Hid} (hO2 : O2 = oX O r v) (st2 : Stp σ δ1 H1 σ δ2 H2) (S2 : St G Hb O2 H2 σ δ2) (r2' : RAt G Hb O2 H2 σ δ2 w r2) (n2 : Nw H1 w r2) :
    St G Hb O H2 ((σ.set i (some v)).set j (some w)) δ4 ∧ Stp σ δ H ((σ.set i (some v)).set j (some w)) δ4 H2 := by
  unfold setPar at e
  split at e
  · rename_i nb
    rw [Bool.and_eq_true] at nb
    obtain ⟨δ3, e1, e2⟩ := Option.bind_eq_some_iff.mp e
    rcases nb_cases nb.1 with ⟨d1, rfl⟩ | ⟨ds1, rfl⟩
    · -- the first is a value
      have hO2 : O2 = O := by rw [hO2]; first | rfl | (cases v <;> rfl)
      subst hO2
      have r1 : At G (Ob O2 σ δ1) H1 d1 v := r1
      have a1 : At G (Ob O2 σ δ2) H2 d1 v := r1.mv (S1.mv st2)
      obtain ⟨S3, st3⟩ := S2.take (r := .val d1) a1 (st1.trans st2) (n1.back fun _ h => h) e1
      refine S3.take (r := r2) ?_ st3 (n2.back st1.trk) e2
      obtain ⟨hi, rfl, hp⟩ := setE_some e1
      rcases nb_cases nb.2 with ⟨d2, rfl⟩ | ⟨ds2, rfl⟩
      · have r2' : At G (Ob O2 σ δ2) H2 d2 w := r2'
        exact At.mv (S2.mv (S2.setVal hi hp a1).2) r2'
      · obtain ⟨q, ws, rfl, h2, h3, h4, h5, h6, h7⟩ := r2'
        have hq1 : H1 q = none := n2 q rfl
        have a1q : At G (Ob (Oa O2 q) σ δ2) H2 d1 v := by
          refine r1.mv ⟨fun b o e n z => st2.keep b o e n fun y => z (.inr y), fun b z => ?_⟩
          rcases z with (z | z) | z
          · exact .inl (.inl z)
          · subst z; exact .inr hq1
          · rcases st2.own b z with y | y
            · exact .inl (.inr y)
            · exact .inr y
        obtain ⟨Sq3, stq⟩ := h7.setVal hi hp a1q
        refine ⟨q, ws, rfl, h2, h3, h4, fun z => ?_, h6.mv (h7.mv stq), Sq3⟩
        rcases z with z | z
        · exact h5 (.inl z)
        · rcases stq.own q z with y | y
          · exact h5 (.inr y)
          · rw [h2] at y; cases y
    · -- the first is a new list
      obtain ⟨p, us, rfl, g2, g3, g4, g5, g6, g7⟩ := r1
      have hO2 : O2 = Oa O p := by rw [hO2]; rfl
      subst hO2
      obtain ⟨hi, rfl, hp⟩ := setE_some e1
      have hsl : i < σ.length := by rw [S2.len]; exact hi
      have hp2 : H2 p = some (.lst us) := st2.keep p _ g2 ntbl_lst fun z => g5 (.inr z)
      have np : ¬ Own σ δ2 p := fun z => by
        rcases st2.own p z with y | y
        · exact g5 (.inr y)
        · rw [g2] at y; cases y
      have nO : ¬ O p := fun z => g5 (.inl z)
      -- for any set of hidden cells that grew by what is new
      have gen : ∀ O3 : Hid, St G Hb (Oa O3 p) H2 σ δ2 → ¬ O3 p → (∀ q, O3 q → O q ∨ H1 q = none) → RAt G Hb O3 H2 σ δ2 (.ref p) (.fr ds1) := fun O3 S nO3 k => by
        refine ⟨p, us, rfl, hp2, g3, g4, fun z => ?_, ?_, S⟩
        · rcases z with z | z
          · exact nO3 z
          · exact np z
        · refine g6.mv ⟨fun b o e n z => st2.keep b o e n fun y => z (.inr y), fun b z => ?_⟩
          rcases z with (z | z) | z
          · rcases k b z with y | y
            · exact .inl (.inl (.inl y))
            · exact .inr y
          · exact .inl (.inl (.inr z))
          · rcases st2.own b z with y | y
            · exact .inl (.inr y)
            · exact .inr y
      obtain ⟨S3, st3⟩ := S2.unhide.setOwn hi hp (gen O S2 nO fun q z => .inl z) (st1.trans st2) n1
      refine S3.take (r := r2) ?_ st3 (n2.back st1.trk) e2
      rcases nb_cases nb.2 with ⟨d2, rfl⟩ | ⟨ds2, rfl⟩
      · have r2' : At G (Ob (Oa O p) σ δ2) H2 d2 w := r2'
        refine At.mv ⟨fun _ _ h _ _ => h, fun b z => .inl ?_⟩ r2'
        rcases z with z | z
        · exact .inl (.inl z)
        · rcases own_after hsl hi z with y | y
          · cases y; exact .inl (.inr rfl)
          · exact .inr y
      · obtain ⟨q, ws, rfl, h2, h3, h4, h5, h6, h7⟩ := r2'
        have hq1 : H1 q = none := n2 q rfl
        have qp : q ≠ p := fun z => h5 (.inl (.inr z))
        have nOq : ¬ Oa O q p := fun z => by
          rcases z with z | z
          · exact nO z
          · exact qp z.symm
        have S7 : St G Hb (Oa (Oa O q) p) H2 σ δ2 := by rw [oa_comm]; exact h7
        obtain ⟨Sq3, _⟩ := (show St G Hb (Oa O q) H2 σ δ2 from S7.unhide).setOwn hi hp (gen (Oa O q) S7 nOq fun b z => by
          rcases z with z | z
          · exact .inl z
          · subst z; exact .inr hq1) (st1.trans st2) n1
        refine ⟨q, ws, rfl, h2, h3, h4, fun z => ?_, ?_, Sq3⟩
        · rcases z with z | z
          · exact h5 (.inl (.inl z))
          · rcases own_after hsl hi z with y | y
            · cases y; exact qp rfl
            · exact h5 (.inr y)
        · refine h6.mv ⟨fun _ _ h _ _ => h, fun b z => .inl ?_⟩
          rcases z with (z | z) | z
          · exact .inl (.inl (.inl z))
          · exact .inl (.inr z)
          · rcases own_after hsl hi z with y | y
            · cases y; exact .inl (.inl (.inr rfl))
            · exact .inr y
  · cases e
theorem sv_par {i j : Nat} {a b : Mz} (D : Ends) (σ : L2.St) (H : Hp) (h : Sv G W (sPar i j a b) D σ H) : tPar i j (tCons (Ev G W a) (tCons (Ev G W b) tNil)) D σ H := by
  obtain ⟨Hb, O, δ, S, h⟩ := h
  have h : PostS G W Hb O H σ δ D ((a δ).bindS fun r δ1 => (b δ1).bindS fun r2 δ2 => outO (setPar δ2 i j r r2)) := h
  refine ⟨Hb, O, δ, S, ?_⟩
  cases ea : a δ with
  | stuck => rw [ea] at h; exact h
  | err c d δ' => rw [ea] at h; exact fun dx v H' st S a e => h dx v σ H' st S a e
  | ok r δ1 =>
    rw [ea] at h
    have h : PostS G W Hb O H σ δ D ((b δ1).bindS fun r2 δ2 => outO (setPar δ2 i j r r2)) := h
    intro v H1 st1 S1 r1 n1
    have fin : ∀ {O2 : Hid}, O2 = oX O r v → St G Hb O2 H1 σ δ1 → (∀ q, O q → O2 q) → ((Ev G W b) σ H1 fun w H2 => ∃ v' w', [v, w] = [v', w'] ∧ D.nx ((σ.set i (some v')).set j (some w')) H2) := fun {O2} hO2 So sub => by
      refine ⟨Hb, O2, δ1, So, ?_⟩
      have uh : ∀ {σ' δ' H'}, St G Hb O2 H' σ' δ' → St G Hb O H' σ' δ' := fun {σ' δ' H'} S' => by
        cases r with
        | fr ds =>
          obtain ⟨p, us, e, _⟩ := r1
          subst e
          have hO2 : O2 = Oa O p := hO2
          subst hO2
          exact S'.unhide
        | val d => subst hO2; exact S'
        | bor k => subst hO2; exact S'
      cases eb : b δ1 with
      | stuck => rw [eb] at h; exact h
      | err c d δ' =>
        rw [eb] at h
        exact fun dx v H' st S a e => h dx v σ H' (st1.trans st) (uh S) (a.mv ⟨fun _ _ h _ _ => h, fun b z => .inl (by
          rcases z with z | z
          · exact .inl (sub b z)
          · exact .inr z)⟩) e
      | ok r2 δ2 =>
        rw [eb] at h
        intro w H2 st2 S2 rr2 n2
        obtain ⟨δ4, e4, h⟩ := PostS.outO (h : PostS G W Hb O H σ δ D (outO (setPar δ2 i j r r2)))
        obtain ⟨S4, st4⟩ := par_end S1 r1 n1 st1 e4 hO2 st2 S2 rr2 n2
        exact ⟨v, w, rfl, h _ _ st4 S4⟩
    cases r with
    | fr ds =>
      obtain ⟨p, us, e, g2, g3, g4, g5, g6, g7⟩ := id r1
      subst e
      exact fin (O2 := Oa O p) rfl g7 fun q z => .inl z
    | val d => exact fin (O2 := O) rfl S1 fun q z => z
    | bor k => exact fin (O2 := O) rfl S1 fun q z => z
end
end DL
/-! DLG: a dict display that is looked up at once. -/
namespace DL
open PySem PySem.Spec PyProof.Rows L2
def lkK {α : Type} (kvs : List (Key × α)) (k : Key) : Option α := (kvs.find? fun kv => decide (kv.1 = k)).map (·.2)
def puK {α : Type} (kvs : List (Key × α)) (k : Key) (v : α) : List (Key × α) :=
  if (kvs.any fun kv => decide (kv.1 = k)) = true then kvs.map (fun kv => if kv.1 = k then (kv.1, v) else kv) else kvs ++ [(k, v)]
def meK {α : Type} (kvs more : List (Key × α)) : List (Key × α) := more.foldl (fun acc kv => puK acc kv.1 kv.2) kvs
theorem puK_eq (kvs : List (Key × V)) (k : Key) (v : V) : putK kvs k v = puK kvs k v := rfl
theorem meK_eq (kvs more : List (Key × V)) : mergeK kvs more = meK kvs more := rfl
section
variable {G : Ctx} {W : WX} {Hb : Hp} {O O2 : Hid} {H H1 H2 H' : Hp} {σ : L2.St} {δ δ0 δ1 δ2 δ' : FEnv} {Q : VK} {r : Rz} {v w : V} {p : Addr}
theorem AtK.nil : AtK G O H [] [] := by unfold AtK; rfl
theorem AtK.cons {k : Key} {d : D} {kvs : List (Key × D)} {ws : List (Key × V)} (h : At G O H d v) (t : AtK G O H kvs ws) : AtK G O H ((k, d) :: kvs) ((k, v) :: ws) := by
  unfold AtK; exact ⟨v, ws, rfl, h, t⟩
theorem AtK.inv {k : Key} {d : D} {kvs : List (Key × D)} {ws : List (Key × V)} (h : AtK G O H ((k, d) :: kvs) ws) : ∃ v us, ws = (k, v) :: us ∧ At G O H d v ∧ AtK G O H kvs us := by
  unfold AtK at h; exact h
theorem AtK.none {ws : List (Key × V)} (h : AtK G O H [] ws) : ws = [] := by unfold AtK at h; exact h
theorem AtK.len : ∀ {kvs : List (Key × D)} {ws : List (Key × V)}, AtK G O H kvs ws → ws.length = kvs.length
  | [], ws, h => by rw [h.none]; rfl
  | (k, d) :: kvs, ws, h => by
    obtain ⟨v, us, rfl, _, t⟩ := h.inv
    rw [List.length_cons, List.length_cons, t.len]
theorem AtK.lk {k : Key} {d : D} : ∀ {kvs : List (Key × D)} {ws : List (Key × V)}, AtK G O H kvs ws → lkK kvs k = some d → ∃ v, valV ws k = some v ∧ At G O H d v
  | [], ws, h, e => by cases e
  | (k', d') :: kvs, ws, h, e => by
    obtain ⟨v, us, rfl, a, t⟩ := h.inv
    by_cases z : k' = k
    · have e1 : lkK ((k', d') :: kvs) k = some d' := by simp [lkK, List.find?_cons, z]
      rw [e1] at e; cases e
      exact ⟨v, valV_pos z, a⟩
    · have e1 : lkK ((k', d') :: kvs) k = lkK kvs k := by simp [lkK, List.find?_cons, z]
      rw [e1] at e
      obtain ⟨w, q1, q2⟩ := t.lk e
      exact ⟨w, by rw [valV_neg z]; exact q1, q2⟩
theorem AtK.any {k : Key} : ∀ {kvs : List (Key × D)} {ws : List (Key × V)}, AtK G O H kvs ws → (ws.any fun kv => decide (kv.1 = k)) = kvs.any fun kv => decide (kv.1 = k)
  | [], ws, h => by rw [h.none]; rfl
  | (k', d') :: kvs, ws, h => by
    obtain ⟨v, us, rfl, a, t⟩ := h.inv
    rw [List.any_cons, List.any_cons, t.any]
theorem AtK.map {k : Key} {d : D} (a : At G O H d v) : ∀ {kvs : List (Key × D)} {ws : List (Key × V)}, AtK G O H kvs ws → AtK G O H (kvs.map fun kv => if kv.1 = k then (kv.1, d) else kv) (ws.map fun kv => if kv.1 = k then (kv.1, v) else kv)
  | [], ws, h => by rw [h.none]; exact AtK.nil
  | (k', d') :: kvs, ws, h => by
    obtain ⟨v', us, rfl, b, t⟩ := h.inv
    rw [List.map_cons, List.map_cons]
    by_cases z : k' = k
    · rw [if_pos z, if_pos z]; exact AtK.cons a (AtK.map a t)
    · rw [if_neg z, if_neg z]; exact AtK.cons b (AtK.map a t)
theorem AtK.app {k : Key} {d : D} (a : At G O H d v) : ∀ {kvs : List (Key × D)} {ws : List (Key × V)}, AtK G O H kvs ws → AtK G O H (kvs ++ [(k, d)]) (ws ++ [(k, v)])
  | [], ws, h => by rw [h.none]; exact AtK.cons a AtK.nil
  | (k', d') :: kvs, ws, h => by
    obtain ⟨v', us, rfl, b, t⟩ := h.inv
    exact AtK.cons b (AtK.app a t)
theorem AtK.pu {k : Key} {d : D} {kvs : List (Key × D)} {ws : List (Key × V)} (h : AtK G O H kvs ws) (a : At G O H d v) : AtK G O H (puK kvs k d) (putK ws k v) := by
  rw [puK_eq]
  unfold puK
  rw [h.any]
  split
  · exact h.map a
  · exact h.app a
theorem AtK.me : ∀ {ks : List Key} {ds : List D} {vs : List V} {kvs : List (Key × D)} {ws : List (Key × V)}, AtK G O H kvs ws → Ats G O H ds vs → AtK G O H (meK kvs (ks.zip ds)) (mergeK ws (ks.zip vs))
  | [], ds, vs, kvs, ws, h, _ => h
  | k :: ks, [], vs, kvs, ws, h, t => by
    unfold Ats at t
    subst t
    exact h
  | k :: ks, d :: ds, vs, kvs, ws, h, t => by
    unfold Ats at t
    obtain ⟨v, us, rfl, a, t⟩ := t
    show AtK G O H (meK (puK kvs k d) (ks.zip ds)) (mergeK (putK ws k v) (ks.zip us))
    exact AtK.me (h.pu a) t
/-! ### reading under more that is hidden -/
theorem Post.bindO {x : Res} {k : Rz → FEnv → Res} {H0 : Hp} {R : VK} (sub : ∀ q, O q → O2 q) (uh : ∀ {δ' H'}, St G Hb O2 H' σ δ' → St G Hb O H' σ δ') (st0 : Stp σ δ0 H0 σ δ H) (h : Post G W Hb O H0 σ δ0 Q (x.bind k))
    (hk : ∀ r δ' v H', Stp σ δ H σ δ' H' → St G Hb O2 H' σ δ' → RAt G Hb O2 H' σ δ' v r → Nw H v r → Post G W Hb O H0 σ δ0 Q (k r δ') → R v H') : Post G W Hb O2 H σ δ R x := by
  cases x with
  | stuck => exact h
  | err c d δ' => exact fun dx v H' st S a e => h dx v H' (st0.trans st) (uh S) (a.mv ⟨fun _ _ h _ _ => h, fun b z => .inl (z.elim (fun y => .inl (sub b y)) .inr)⟩) e
  | ok r δ' => exact fun v H' st S hr hn => hk r δ' v H' st S hr hn h
theorem PostA.bindO {x : ResA} {k : List Rz → FEnv → Res} {H0 : Hp} {R : List V → Hp → Prop} (sub : ∀ q, O q → O2 q) (uh : ∀ {δ' H'}, St G Hb O2 H' σ δ' → St G Hb O H' σ δ') (st0 : Stp σ δ0 H0 σ δ H) (h : Post G W Hb O H0 σ δ0 Q (x.bind k))
    (hk : ∀ r δ' v H', x = .ok r δ' → Stp σ δ H σ δ' H' → St G Hb O2 H' σ δ' → RAts G Hb O2 H' σ δ' v r → Post G W Hb O H0 σ δ0 Q (k r δ') → R v H') : PostA G W Hb O2 H σ δ R x := by
  cases x with
  | stuck => exact h
  | err c d δ' => exact fun dx v H' st S a e => h dx v H' (st0.trans st) (uh S) (a.mv ⟨fun _ _ h _ _ => h, fun b z => .inl (z.elim (fun y => .inl (sub b y)) .inr)⟩) e
  | ok r δ' => exact fun v H' st S hr => hk r δ' v H' rfl st S hr h
/-! ### {k: m, ..}[mk] -/
def trsOf (G : Ctx) (W : WX) : List Key → List Mz → List (TE × TE)
  | k :: ks, m :: ms => (tC (kV k), Ev G W m) :: trsOf G W ks ms
  | _, _ => []
def zipV (ks : List Key) (vs : List V) : List (V × V) := (ks.zip vs).map fun kv => (kV kv.1, kv.2)
theorem pairs_of : ∀ {ks : List Key} {ms : List Mz} {H : Hp} {Q : List (V × V) → Hp → Prop}, ks.length = ms.length → EvA G W ms σ H (fun vs H' => Q (zipV ks vs) H') → tPairs (trsOf G W ks ms) σ H Q
  | [], [], H, Q, _, h => ea_nil σ H _ h
  | k :: ks, m :: ms, H, Q, e, h => by
    have h2 := ea_cons σ H _ h
    show Ev G W m σ H fun y H2 => tPairs (trsOf G W ks ms) σ H2 fun ps H3 => Q ((kV k, y) :: ps) H3
    obtain ⟨Hb, O, δ, S, h2⟩ := (show Ev G W m σ H fun v H1 => EvA G W ms σ H1 fun vs H' => Q (zipV (k :: ks) (v :: vs)) H' from h2)
    refine ⟨Hb, O, δ, S, ?_⟩
    cases em : m δ with
    | stuck => rw [em] at h2; exact h2
    | err c d δ' => rw [em] at h2; exact h2
    | ok r δ' =>
      rw [em] at h2
      exact fun v H' st S hr hn => pairs_of (by simpa using e) (h2 v H' st S hr hn)
  | [], _ :: _, _, _, e, _ => by cases e
  | _ :: _, [], _, _, e, _ => by cases e
def keyX (r : Rz) (k : Key → Res) : Res := match r with
  | .val (.int i) => k (.inl i)
  | .val (.str x) => k (.inr x)
  | _ => .stuck
theorem Post.keyX {k : Key → Res} (hr : RAt G Hb O H σ δ v r) {Hz : Hp} {Oz : Hid} (h : Post G W Hb Oz Hz σ δ0 Q (keyX r k)) : ∃ y, v = kV y ∧ Post G W Hb Oz Hz σ δ0 Q (k y) := by
  cases r with
  | bor i => exact h.elim
  | fr ds => exact h.elim
  | val d =>
    cases d with
    | int i => have hr : At G (Ob O σ δ) H (.int i) v := hr; unfold At at hr; exact ⟨.inl i, hr, h⟩
    | str x => have hr : At G (Ob O σ δ) H (.str x) v := hr; unfold At at hr; exact ⟨.inr x, hr, h⟩
    | _ => exact h.elim
def optB (x : Option D) (k : D → Res) : Res := match x with
  | some d => k d
  | none => .stuck
theorem Post.optB {x : Option D} {k : D → Res} {Hz : Hp} (h : Post G W Hb O Hz σ δ0 Q (optB x k)) : ∃ d, x = some d ∧ Post G W Hb O Hz σ δ0 Q (k d) := by
  cases x with
  | none => exact h.elim
  | some d => exact ⟨d, rfl, h⟩
def mDGet (ks : List Key) (ms : List Mz) (mk : Mz) : Mz := fun δ => (mArgs ms δ).bind fun rs δ1 => gaveB (giveAll rs δ1) fun ds δ2 => (mk δ2).bind fun r δ3 => keyX r fun k => optB (lkK (meK [] (ks.zip ds)) k) fun d => .ok (.val d) δ3
theorem tabs_updD {T : List NdefX.NTab} {p : Addr} {kvs kvs' : List (Key × V)} (h : NdefX.TabsN T H) (hp : H p = some (.dK kvs)) : NdefX.TabsN T (upd H p (.dK kvs')) := fun q hq => by
  obtain ⟨ps, h1, h2, h3⟩ := h q hq
  have ne : ∀ b (o : HO), H b = some o → (∀ zs, o ≠ .dK zs) → b ≠ p := fun b o e n z => by
    rw [z, hp] at e
    exact n kvs (Option.some.inj e).symm
  refine ⟨ps, by rw [upd_ne (ne _ _ h1 fun zs z => by cases z)]; exact h1, h2, fun pos cv hc => ?_⟩
  obtain ⟨c, e1, e2⟩ := h3 pos cv hc
  exact ⟨c, e1, by rw [upd_ne (ne _ _ e2 fun zs z => by unfold LamX.CodeO at z; cases z)]; exact e2⟩
theorem updHid_mvO {o : HO} : Mv (Ob (Oa O p) σ δ) H (Ob (Oa O p) σ δ) (upd H p o) :=
  ⟨fun b u e _ n => by rw [upd_ne (fun z => n (.inl (.inr z)))]; exact e, fun b z => .inl z⟩
theorem St.updHidD {kvs kvs' : List (Key × V)} (S : St G Hb (Oa O p) H σ δ) (hp : H p = some (.dK kvs)) : St G Hb (Oa O p) (upd H p (.dK kvs')) σ δ := by
  refine ⟨S.len, tabs_updD S.tb hp, fun b h => ?_, fun q h => ?_, fun i d h => let ⟨v, e, q⟩ := S.val i d h; ⟨v, e, q.mv updHid_mvO⟩,
    fun i b ds h => let ⟨r, vs, e, hr, hl, hb, ho, q⟩ := S.own i b ds h; ⟨r, vs, e, by rw [upd_ne (fun z => ho (.inr z))]; exact hr, hl, hb, ho, q.mv updHid_mvO⟩, S.inj⟩
  · by_cases z : b = p
    · subst z; rw [upd_same] at h; cases h
    · rw [upd_ne z] at h; exact S.trb b h
  · by_cases z : q = p
    · subst z; exact LD.d upd_same
    · exact (S.hid q h).kp fun o e _ => by rw [upd_ne z]; exact e
theorem Stp.updNewO {o : HO} {H0 : Hp} {σ' : L2.St} (st : Stp σ δ H0 σ' δ' H) (hn : H0 p = none) : Stp σ δ H0 σ' δ' (upd H p o) :=
  ⟨fun b u e n q => by rw [upd_ne (ne_of_none e hn)]; exact st.keep b u e n q, st.own, fun b h => by
    by_cases z : b = p
    · subst z; exact hn
    · rw [upd_ne z] at h; exact st.trk b h, st.par⟩
theorem ev_dget {ks : List Key} {ms : List Mz} {mk : Mz} (hl : ks.length = ms.length) (h15 : ks.length ≤ 15) (σ : L2.St) (H : Hp) (Q : VK) (h : Ev G W (mDGet ks ms mk) σ H Q) : tDGet (tDisp (trsOf G W ks ms)) (Ev G W mk) σ H Q := by
  obtain ⟨Hb, O, δ, S, h⟩ := h
  intro p hp
  have g0 : Grow H (upd H p (.dK [])) := Grow.new hp
  have S0 : St G Hb (Oa O p) (upd H p (.dK [])) σ δ := S.hideO g0 hp (LD.d upd_same)
  refine pairs_of hl ⟨Hb, Oa O p, δ, S0, PostA.bindO (fun q z => .inl z) (fun S => S.unhide) g0.stp h fun rs δ1 vs H1 ex st1 S1 r1 h1 => ?_⟩
  obtain ⟨ds, δ2, e2, h2⟩ := Post.gaveB h1
  obtain ⟨S2, st2, a2⟩ := S1.giveAll (r1.wats (nf_args ex)) e2
  have np : ∀ {δ' H'}, St G Hb (Oa O p) H' σ δ' → ¬ Own σ δ' p := fun {δ' H'} S z => by
    obtain ⟨j, z1, b, es, z2⟩ := z
    obtain ⟨q, ws, y1, _, _, _, y5, _⟩ := S.own j b es z2
    rw [z1] at y1; cases y1
    exact y5 (.inr rfl)
  have hp1 : H1 p = some (.dK []) := st1.keep p _ upd_same ntbl_dK (np S0)
  refine ⟨hp1, ks.zip vs, rfl, Nat.le_trans (by rw [List.length_zip]; exact Nat.min_le_left _ _) h15, ?_⟩
  have S3 := S2.updHidD (kvs' := mergeK [] (ks.zip vs)) hp1
  have st3 : Stp σ δ H σ δ2 (upd H1 p (.dK (mergeK [] (ks.zip vs)))) := ((g0.stp.trans st1).trans st2).updNewO hp
  have a3 : AtK G (Ob (Oa O p) σ δ2) (upd H1 p (.dK (mergeK [] (ks.zip vs)))) (meK [] (ks.zip ds)) (mergeK [] (ks.zip vs)) := (AtK.me AtK.nil a2).mv updHid_mvO
  refine ⟨Hb, Oa O p, δ2, S3, Post.bindO (fun q z => .inl z) (fun S => S.unhide) st3 h2 fun r δ3 v H3 st4 S4 r4 n4 h4 => ?_⟩
  obtain ⟨k, rfl, h5⟩ := Post.keyX r4 h4
  obtain ⟨d, e5, h6⟩ := Post.optB h5
  obtain ⟨u, e6, a6⟩ := a3.lk e5
  have hp3 : H3 p = some (.dK (mergeK [] (ks.zip vs))) := st4.keep p _ upd_same ntbl_dK (np S3)
  refine ⟨p, u, rfl, by rw [← e6]; exact DGet.k hp3, h6 u H3 (st3.trans st4) S4.unhide ?_ True.intro⟩
  exact (a6.mv (S3.mv st4)).mv ⟨fun _ _ h _ _ => h, fun b z => .inl (obOa z)⟩
end
end DL
/-! DS1: a stable sort is one alone. -/
namespace DL
open PySem PySem.Spec PyProof.Rows L2 SrtO
section
variable {α β : Type} {lt : α → α → Bool}
def insS (lt : α → α → Bool) (x : α) : List α → List α
  | [] => [x]
  | y :: l => if lt y x = true then y :: insS lt x l else x :: y :: l
def sortS (lt : α → α → Bool) : List α → List α
  | [] => []
  | x :: l => insS lt x (sortS lt l)
theorem insS_stb (O : Swo lt) (x : α) : ∀ l, Stb lt (insS lt x l) (x :: l)
  | [] => Stb.refl _
  | y :: l => by
    unfold insS
    split
    · rename_i h
      have h1 : Stb lt ([y] ++ insS lt x l) ([y] ++ (x :: l)) := (Stb.refl [y]).app (insS_stb O x l)
      have h2 : Stb lt (([y] ++ [x]) ++ l) (([x] ++ [y]) ++ l) := (Stb.swap O fun a ha b hb => by rw [List.mem_singleton.mp ha, List.mem_singleton.mp hb]; exact h).app (Stb.refl l)
      exact h1.trans h2
    · exact Stb.refl _
theorem insS_srt (O : Swo lt) (x : α) : ∀ {l}, Srtd lt l → Srtd lt (insS lt x l)
  | [], _ => srtd_one x
  | y :: l, h => by
    unfold insS
    split
    · rename_i e
      refine List.pairwise_cons.mpr ⟨fun z hz => ?_, insS_srt O x (List.pairwise_cons.mp h).2⟩
      have hz' : z ∈ x :: l := (insS_stb O x l).perm.mem_iff.mp hz
      rcases List.mem_cons.mp hz' with q | q
      · rw [q]; exact O.asym y x e
      · exact srtd_head h z q
    · rename_i e
      have e : lt y x = false := by cases q : lt y x with
        | true => exact absurd q e
        | false => rfl
      exact List.pairwise_cons.mpr ⟨O.le_all h e, h⟩
theorem sortS_stb (O : Swo lt) : ∀ l, Stb lt (sortS lt l) l
  | [] => Stb.refl _
  | x :: l => (insS_stb O x _).trans ((Stb.refl [x]).app (sortS_stb O l))
theorem sortS_srt (O : Swo lt) : ∀ l, Srtd lt (sortS lt l)
  | [] => List.Pairwise.nil
  | x :: l => insS_srt O x (sortS_srt O l)
theorem Stb.symm {l m : List α} (h : Stb lt l m) : Stb lt m l := ⟨h.perm.symm, fun x => (h.cls x).symm⟩
theorem srt_unique (O : Swo lt) : ∀ {l m : List α}, Srtd lt l → Srtd lt m → Stb lt l m → l = m
  | [], m, _, _, s => (List.Perm.nil_eq s.perm)
  | x :: l, [], _, _, s => absurd s.len (by simp)
  | x :: l, y :: m, h1, h2, s => by
    have xy : lt x y = false := by
      have hx : x ∈ y :: m := s.perm.mem_iff.mp List.mem_cons_self
      rcases List.mem_cons.mp hx with q | q
      · rw [q]; exact O.refl y
      · exact srtd_head h2 x q
    have yx : lt y x = false := by
      have hy : y ∈ x :: l := s.perm.mem_iff.mpr List.mem_cons_self
      rcases List.mem_cons.mp hy with q | q
      · rw [q]; exact O.refl x
      · exact srtd_head h1 y q
    have e1 : eqv lt x x = true := eqv_iff.mpr ⟨O.refl x, O.refl x⟩
    have e2 : eqv lt x y = true := eqv_iff.mpr ⟨xy, yx⟩
    have c := s.cls x
    rw [List.filter_cons_of_pos e1, List.filter_cons_of_pos e2] at c
    have exy : x = y := (List.cons.inj c).1
    subst exy
    have s' : Stb lt l m := ⟨(List.perm_cons x).mp s.perm, fun z => by
      have c := s.cls z
      by_cases q : eqv lt z x = true
      · rw [List.filter_cons_of_pos q, List.filter_cons_of_pos q] at c
        exact (List.cons.inj c).2
      · rw [List.filter_cons_of_neg q, List.filter_cons_of_neg q] at c
        exact c⟩
    rw [srt_unique O (List.pairwise_cons.mp h1).2 (List.pairwise_cons.mp h2).2 s']
theorem sortS_eq (O : Swo lt) {l m : List α} (h : Srtd lt m) (s : Stb lt m l) : m = sortS lt l := srt_unique O h (sortS_srt O l) (s.trans (Stb.symm (sortS_stb O l)))
/-! what is alike is sorted alike -/
inductive All2 (R : α → β → Prop) : List α → List β → Prop where
  | nil : All2 R [] []
  | cons {x y xs ys} (h : R x y) (t : All2 R xs ys) : All2 R (x :: xs) (y :: ys)
variable {R : α → β → Prop} {lt' : β → β → Bool}
theorem All2.ins (k : ∀ a b c d, R a b → R c d → lt a c = lt' b d) {x : α} {y : β} (h : R x y) : ∀ {xs : List α} {ys : List β}, All2 R xs ys → All2 R (insS lt x xs) (insS lt' y ys)
  | _, _, .nil => .cons h .nil
  | a :: xs, b :: ys, .cons h2 t => by
    unfold insS
    rw [k a b x y h2 h]
    split
    · exact .cons h2 (All2.ins k h t)
    · exact .cons h (.cons h2 t)
theorem All2.sort (k : ∀ a b c d, R a b → R c d → lt a c = lt' b d) : ∀ {xs : List α} {ys : List β}, All2 R xs ys → All2 R (sortS lt xs) (sortS lt' ys)
  | _, _, .nil => .nil
  | _, _, .cons h t => All2.ins k h (All2.sort k t)
end
end DL
/-! DS2: sorted(.., key=f), f's keys pairs of ints. -/
namespace DL
open PySem PySem.Spec PyProof.Rows L2 SrtO Srt
def extO (a : Addr) (us : Array Value) (e : Nat) : HO := .ext fun h => h.get? a = some (seqObj "list" us e)
theorem ext_ok {P : Program} {w : World} {H : Hp} {h : Heap} {a : Addr} {us : Array Value} {e : Nat} (ho : h.get? a = some (seqObj "list" us e)) : ObjOk P w H h a (extO a us e) :=
  ⟨ho, ⟨_, ho⟩, fun h1 h2 p k => k _ p⟩
theorem ext_at {P : Program} {w : World} {H : Hp} {h : Heap} {a : Addr} {us : Array Value} {e : Nat} (x : HOk P w H h) (q : H a = some (extO a us e)) : h.get? a = some (seqObj "list" us e) := (x a _ q).1
/-- no code object -/
def NoCode (H : Hp) (a : Addr) : Prop := ∀ q, H a ≠ some (LamX.CodeO a q)
theorem noCode {P : Program} {w : World} {H : Hp} {h : Heap} {a : Addr} {us : Array Value} {e : Nat} (x : HOk P w H h) (q : H a = some (extO a us e)) : NoCode H a := fun z zz => by
  have h1 := ext_at x q
  obtain ⟨⟨oc, vs, t, e1, e2, e3⟩, _⟩ := (show ObjOk P w H h a (LamX.CodeO a z) from x a _ zz)
  rw [h1] at e1
  cases e1
  cases e2
/-- the keys, one by one -/
def tKeys (sp : V → Hp → VK → Prop) (a kS : Addr) (R : List V → Hp → Prop) : List V → List V → Hp → Prop
  | [], ks, H => R ks H
  | v :: vs, ks, H => sp v H fun k H' => (H' a = H a ∧ H' kS = H kS) ∧ (NoCode H' kS → ∀ φ, tKeys sp a kS R vs (ks ++ [k]) (upd H' kS (.ext φ)))
def PairsAt (K : PySem.W.Frag) (H : Hp) (ks : List V) (kv : List (Int × Int)) : Prop := All2 (fun k p => ∃ b, k = V.ref b ∧ (Rd H b (.tup [.int p.1, .int p.2]) ∨ KTup K b [.int p.1, .int p.2])) ks kv
def ltKV (x y : (Int × Int) × V) : Bool := lexB x.1 y.1
def sortKV (kv : List (Int × Int)) (vs : List V) : List V := (sortS ltKV (kv.zip vs)).map (·.2)
open Classical in
noncomputable def kfun (h : Heap) (v : Value) : Int × Int := if hx : ∃ p : Int × Int, IsPair h v p.1 p.2 then choose hx else (0, 0)
theorem isPair_inj {h : Heap} {v : Value} {x y x' y' : Int} (p : IsPair h v x y) (q : IsPair h v x' y') : x = x' ∧ y = y' := by
  obtain ⟨a, o, t, u, n, e, ho, hc, hd⟩ := p
  obtain ⟨a', o', t', u', n', e', ho', hc', hd'⟩ := q
  rw [e] at e'; cases e'
  rw [ho] at ho'; cases ho'
  rw [hd] at hd'
  injection hd' with h1 h2
  injection h1 with h1
  simp only [List.cons.injEq, Value.int.injEq] at h1
  exact ⟨h1.1.1, h1.2.1.1⟩
theorem kfun_eq {h : Heap} {v : Value} {x y : Int} (p : IsPair h v x y) : kfun h v = (x, y) := by
  have hx : ∃ p : Int × Int, IsPair h v p.1 p.2 := ⟨(x, y), p⟩
  unfold kfun
  rw [dif_pos hx]
  have q := Classical.choose_spec hx
  obtain ⟨e1, e2⟩ := isPair_inj q p
  exact Prod.ext e1 e2
theorem pair_vals {x y : Int} {its : List Value} (rv : Vals [.int x, .int y] its) : ∃ t u, its = [.int x t, .int y u] := by
  cases rv with
  | cons r1 t =>
    cases t with
    | cons r2 t =>
      cases t
      obtain ⟨t1, rfl⟩ := r1
      obtain ⟨t2, rfl⟩ := r2
      exact ⟨t1, t2, rfl⟩
theorem pair_of {P : Program} {w : World} {K : PySem.W.Frag} {H : Hp} {h : Heap} {b : Addr} {x y : Int} {u : Value} (ok : HOk P w H h) (kin : K.In h) (e : Rd H b (.tup [.int x, .int y]) ∨ KTup K b [.int x, .int y]) (r : RelV (.ref b) u) : IsPair h u x y := by
  cases (show u = Value.ref b from r)
  rcases e with e | ⟨o, its, n, k1, k2, k3, _, rv⟩
  · obtain ⟨_, its, rv, o, h1, h2, n, h3⟩ := (show ObjOk P w H h b (.tup [.int x, .int y]) from e.ok ok)
    obtain ⟨t, u, rfl⟩ := pair_vals rv
    exact ⟨b, o, t, u, n, rfl, h1, h2, h3⟩
  · obtain ⟨t, u, e⟩ := pair_vals rv
    have e' : its = #[.int x t, .int y u] := by rw [← Array.toArray_toList (xs := its), e]
    subst e'
    exact ⟨b, o, t, u, n, rfl, kin _ _ k1, k2, k3⟩
theorem all2_len {α β : Type} {R : α → β → Prop} : ∀ {xs : List α} {ys : List β}, All2 R xs ys → xs.length = ys.length
  | _, _, .nil => rfl
  | _, _, .cons _ t => by rw [List.length_cons, List.length_cons, all2_len t]
theorem keyed_all {P : Program} {w : World} {K : PySem.W.Frag} {H : Hp} {h : Heap} (ok : HOk P w H h) (kin : K.In h) : ∀ {ks : List V} {kv : List (Int × Int)} {us : List Value} {vs : List V} {its : List Value}, PairsAt K H ks kv → Vals ks us → Vals vs its → vs.length = ks.length →
    All2 (fun (p : Keyed) (q : (Int × Int) × V) => kfun h p.1 = q.1 ∧ RelV q.2 p.2) (us.zip its) (kv.zip vs)
  | _, _, _, _, _, .nil, .nil, _, _ => by simp; exact .nil
  | _, _, _, [], _, .cons _ _, .cons _ _, _, e => by cases e
  | _, _, _, _, _, .cons (y := p) h1 t1, .cons r2 t2, .cons r3 t3, e => by
    obtain ⟨b, rfl, hb⟩ := h1
    exact .cons ⟨kfun_eq (pair_of ok kin hb r2), r3⟩ (keyed_all ok kin t1 t2 t3 (by simpa using e))
theorem keyed_pairs {P : Program} {w : World} {K : PySem.W.Frag} {H : Hp} {h : Heap} (ok : HOk P w H h) (kin : K.In h) : ∀ {ks : List V} {kv : List (Int × Int)} {us : List Value}, PairsAt K H ks kv → Vals ks us → ∀ u ∈ us, IsPair h u (kfun h u).1 (kfun h u).2
  | _, _, _, .nil, .nil, _, hu => by cases hu
  | _, _, _, .cons (y := p) h1 t1, .cons r2 t2, u, hu => by
    obtain ⟨b, rfl, hb⟩ := h1
    rcases List.mem_cons.mp hu with rfl | hu
    · have q := pair_of ok kin hb r2
      rw [kfun_eq q]; exact q
    · exact keyed_pairs ok kin t1 t2 u hu
theorem all2_vals {P : Keyed → (Int × Int) × V → Prop} (hP : ∀ p q, P p q → RelV q.2 p.2) : ∀ {xs : List Keyed} {ys : List ((Int × Int) × V)}, All2 P xs ys → Vals (ys.map (·.2)) (xs.map (·.2))
  | _, _, .nil => .nil
  | _, _, .cons h t => .cons (hP _ _ h) (all2_vals hP t)
theorem pairs_kind {prog : Program} {w : World} {A : Around} {s : Shared} {a : Addr} {us : Array Value} {k : Value → Int × Int} (h0 : 0 < us.size) (hp : ∀ v ∈ us.toList, IsPair s.heap v (k v).1 (k v).2) (ha : ∀ o, s.heap.get? a = some o → o.cls ≠ .type "tuple") :
    ∃ κ, (∀ (Q : SortKind → Shared → Prop) (E : Value → Shared → Prop), Q κ s → wpAny (model prog w) A (keyKind' us) Q E s) ∧ Cmp prog w A s κ (fun p => p.1 ∈ us.toList) (lt2 fun v u => lexB (k v) (k u)) := by
  obtain ⟨hh, g, d, t, os⟩ := s
  have q := pairs_sortableO (prog := prog) (w := w) (A := A) (s := ⟨hh, g, d, t, os⟩) (a := a) (vs := us.toList) (k := k) (by rw [Array.length_toList]; exact h0) hp ha
  unfold SortableO at q
  obtain ⟨κ, q1, q2⟩ := q hh (fun b o _ e => e)
  rw [Array.toArray_toList] at q1
  exact ⟨κ, q1, q2⟩
section
variable {X : Cx} {pins : List (Addr × Obj)} {σ : L2.St} {a kS : Addr} {R : List V → Hp → Prop} {sp : V → Hp → VK → Prop} {A : Around} {e1 : Nat} {E : Value → Shared → Prop}
/-- the end of the sort -/
theorem ksort_end {s : Shared} {H : Hp} {us : Array Value} {e : Nat} {its : List Value} {vs ks : List V} {kv : List (Int × Int)} {P : PySem.Fin → Shared → Prop} (I : Inv X pins σ H s) (hka : kS ≠ a) (hz : vs.length ≤ sizeLine) (r : Vals vs its) (rk : Vals ks us.toList) (hl : us.size = its.length)
    (hk : H kS = some (extO kS us e)) (ha : H a = some (extO a #[] e1)) (pk : PairsAt X.K H ks kv)
    (h : ∀ φ s', Inv X pins σ (upd (upd H kS (.ext φ)) a (.lst (sortKV kv vs))) s' → P (.done (.ret .none)) s') :
    wpAny (model X.prog X.w) A (ksk_end a false its.toArray e1 (.ref kS) us) P E s := by
  have hko := ext_at I.hok hk
  have hao := ext_at I.hok ha
  have hvl : vs.length = its.length := r.length
  have hkl : ks.length = us.size := by rw [rk.length, Array.length_toList]
  have hzs : (us.zip its.toArray).size = its.length := by rw [Array.size_zip, hl, List.size_toArray, Nat.min_self]
  have ezl : (us.zip its.toArray).toList = us.toList.zip its := ksk_zip us its
  have kp := keyed_pairs I.hok I.kIn pk rk
  have ka := keyed_all I.hok I.kIn pk rk r (by rw [hvl, hkl, hl])
  generalize kfun s.heap = k at kp ka
  -- the tail, for a sorted and stable order
  have tail : ∀ st : SortSt, Srtd (lt2 fun v u => lexB (k v) (k u)) (arrOf st).toList → Stb (lt2 fun v u => lexB (k v) (k u)) (arrOf st).toList (us.zip its.toArray).toList → failedOf st = none → wpAny (model X.prog X.w) A (ksk_tail a false e1 (.ref kS) st) P E s := by
    intro st h1 h2 hf
    have O := swo2 (swo_lex (k))
    have eo := sortS_eq O h1 h2
    rw [ezl] at eo
    have al := All2.sort (lt := lt2 fun v u => lexB (k v) (k u)) (lt' := ltKV) (fun x y z w hx hz => by
      show lexB (k x.1) (k z.1) = lexB y.1 w.1
      rw [hx.1, hz.1]) ka
    have rv : Vals (sortKV kv vs) ((arrOf st).toList.map (·.2)) := by
      rw [eo]
      exact all2_vals (fun _ _ z => z.2) al
    have hsl : (arrOf st).size = its.length := by
      have := h2.len
      rw [Array.length_toList, Array.length_toList, hzs] at this
      exact this
    have hol : ((arrOf st).map (·.2)).size ≤ sizeLine := by rw [Array.size_map, hsl, ← hvl]; exact hz
    have em : ((arrOf st).toList.map (·.2)).toArray = (arrOf st).map (·.2) := by
      rw [← Array.toList_map, Array.toArray_toList]
    have ev : ((arrOf st).toList.map (·.2)) = ((arrOf st).map (·.2)).toList := by rw [Array.toList_map]
    rw [ev] at rv
    unfold ksk_tail
    try dsimp only
    simp only [Bool.false_eq_true, if_false]
    rw [hf]
    generalize (arrOf st).map (·.2) = out at *
    clear em ev
    obtain ⟨c1, hc1⟩ : ∃ c1, (s.heap.update kS (Obj.mapSeq fun _ => (#[] : Array Value))).get? kS = some (seqObj "list" #[] c1) := ⟨_, get?_update_seq hko fun _ => #[]⟩
    have s1 := Heap.SameBut.update s.heap kS (Obj.mapSeq fun _ => (#[] : Array Value))
    have I1 : Inv X pins σ (upd H kS (extO kS #[] c1)) { s with heap := s.heap.update kS (Obj.mapSeq fun _ => (#[] : Array Value)) } :=
      I.write (x := kS) (e := kS) (t' := s.toks) (by rw [hk]; trivial) (.inl rfl) (fun b u hb q => (s1.2 b hb).trans q) ⟨_, hc1⟩ (ext_ok hc1)
    have ha1 : upd H kS (extO kS #[] c1) a = some (extO a #[] e1) := by rw [upd_ne hka.symm]; exact ha
    have hao1 := ext_at I1.hok ha1
    obtain ⟨c2, hc2⟩ : ∃ c2, ((s.heap.update kS (Obj.mapSeq fun _ => (#[] : Array Value))).update a (Obj.mapSeq fun _ => out)).get? a = some (seqObj "list" out c2) := ⟨_, get?_update_seq hao1 fun _ => out⟩
    have s2 := Heap.SameBut.update (s.heap.update kS (Obj.mapSeq fun _ => (#[] : Array Value))) a (Obj.mapSeq fun _ => out)
    have I2 := I1.write (x := a) (e := a) (o := .lst (sortKV kv vs)) (t' := s.toks) (h' := (s.heap.update kS (Obj.mapSeq fun _ => (#[] : Array Value))).update a (Obj.mapSeq fun _ => out)) (by rw [ha1]; trivial) (.inl rfl) (fun b u hb q => (s2.2 b hb).trans q) ⟨_, hc2⟩
      ⟨by rw [rv.length, Array.length_toList]; exact hol, _, c2, rv, by rw [Array.toArray_toList]; exact hc2⟩
    refine wpAny_bind (listUpdate_at hko rfl ?_ (by rw [hl, ← hvl]; exact hz) (Nat.zero_le _))
    refine wpAny_bind (wpAny_letGo ?_)
    refine wpAny_bind (seqEpoch_at hao1 rfl ?_)
    refine wpAny_bind (listUpdate_at hao1 rfl ?_ (Nat.zero_le _) (Nat.le_succ_of_le hol))
    simp only [bne_self_eq_false, Bool.false_eq_true, if_false]
    exact wpAny_pure (h _ _ I2)
  unfold ksk_end
  try dsimp only
  simp only [Bool.false_eq_true, if_false]
  by_cases h2 : its.toArray.size < 2
  · rw [if_pos h2, if_pos h2]
    refine wpAny_bind (wpAny_pure ?_)
    rw [StateT.run_pure]
    refine wpAny_bind (wpAny_pure ?_)
    try dsimp only
    refine tail (SortSt.mk' general' (us.zip its.toArray) #[] 7 none) ?_ (Stb.refl _) rfl
    show Srtd _ (us.zip its.toArray).toList
    have hs : (us.zip its.toArray).toList.length < 2 := by rw [Array.length_toList, hzs]; simpa using h2
    match (us.zip its.toArray).toList, hs with
    | [], _ => exact List.Pairwise.nil
    | [v], _ => exact List.pairwise_singleton _ _
    | _ :: _ :: l, h => exact absurd h (by rw [List.length_cons, List.length_cons]; omega)
  · rw [if_neg h2, if_neg h2]
    have h2' : ¬ its.length < 2 := by simpa using h2
    obtain ⟨κ, hkind, hT⟩ := pairs_kind (prog := X.prog) (w := X.w) (A := A) (s := s) (a := a) (us := us) (k := k) (by omega) kp (fun o ho hc => by
      rw [hao] at ho; cases ho; injection hc with hc; exact absurd hc (by decide))
    refine wpAny_bind ?_
    refine hkind _ _ ?_
    have hall : AllL (fun p : Keyed => p.1 ∈ us.toList) (us.zip its.toArray).toList := fun p hm => by
      rw [ezl] at hm
      exact (List.of_mem_zip (show (p.1, p.2) ∈ us.toList.zip its from hm)).1
    refine wpAny_bind (wpAny_mono (wpS_sortO (st0 := SortSt.mk' κ (us.zip its.toArray) #[] 7 none)
      (Q := fun _ st' => Srtd (lt2 fun v u => lexB (k v) (k u)) (arrOf st').toList ∧ Stb (lt2 fun v u => lexB (k v) (k u)) (arrOf st').toList (us.zip its.toArray).toList ∧ failedOf st' = none) (swo2 (swo_lex (k))) hT rfl hall rfl rfl fun st' a1 a2 a3 => ⟨a1, a2, a3⟩) ?_ fun _ _ e => e)
    rintro ⟨⟨⟩, st'⟩ s' ⟨rfl, hp1, hp2, hf⟩
    try dsimp only
    exact tail st' hp1 hp2 hf
end
end DL
/-! DS3: sorted(.., key=f): the walk over the keys, the call. -/
namespace DL
open PySem PySem.Spec PyProof.Rows L2 SrtO Srt
section
variable {X : Cx} {pins : List (Addr × Obj)} {σ : L2.St} {a kS : Addr} {sp : V → Hp → VK → Prop} {A : Around} {e1 : Nat} {E : Value → Shared → Prop} {q : Addr}
/-- what the key function does, called from a built-in -/
def KeyF (X : Cx) (pins : List (Addr × Obj)) (σ : L2.St) (A : Around) (q : Addr) (sp : V → Hp → VK → Prop) : Prop :=
  ∀ (s' : Shared) (H' : Hp) (v : V) (u : Value) (Q' : VK), Inv X pins σ H' s' → RelV v u → sp v H' Q' → wpAny (model X.prog X.w) A (call (.ref q) [u]) (EP X pins σ Q') (fun _ _ => False) s'
theorem ksort_rest {s : Shared} {H : Hp} {e : Nat} {its : List Value} {vs : List V} {P : PySem.Fin → Shared → Prop} (turn : KeyF X pins σ A q sp) (I : Inv X pins σ H s) (hka : kS ≠ a) (hz : vs.length ≤ sizeLine) (r : Vals vs its)
    (hk : H kS = some (extO kS #[] e)) (ha : H a = some (extO a #[] e1))
    (h : tKeys sp a kS (fun ks H' => ∃ kv, PairsAt X.K H' ks kv ∧ (NoCode H' a → NoCode H' kS → ∀ φ s', Inv X pins σ (upd (upd H' kS (.ext φ)) a (.lst (sortKV kv vs))) s' → P (.done (.ret .none)) s')) vs [] H) :
    wpAny (model X.prog X.w) A (ksk_rest a (.ref q) false its.toArray e1 (.ref kS)) P E s := by
  unfold ksk_rest
  refine wpAny_bind (wpAny_rule ?_)
  first
    | rw [List.forIn_toArray]
    | (rw [← Array.forIn_toList]; simp only [List.toList_toArray])
    | rw [← Array.forIn_toList]
  have hil : vs.length = its.length := r.length
  refine wpAny_bind (ksk_fold (fun i s' => ∃ H' ks us e, Inv X pins σ H' s' ∧ Vals ks us.toList ∧ us.size = i ∧ H' kS = some (extO kS us e) ∧ H' a = some (extO a #[] e1) ∧
      tKeys sp a kS (fun ks H' => ∃ kv, PairsAt X.K H' ks kv ∧ (NoCode H' a → NoCode H' kS → ∀ φ s', Inv X pins σ (upd (upd H' kS (.ext φ)) a (.lst (sortKV kv vs))) s' → P (.done (.ret .none)) s')) (vs.drop i) ks H') its 0 s
    ⟨H, [], #[], e, I, .nil, rfl, hk, ha, h⟩ ?step ?done)
  case step =>
    rintro j u s' hu ⟨H', ks, us, e', I', rk, hs, hk', ha', h'⟩
    simp only [Nat.zero_add] at hs h' ⊢
    have hj : j < vs.length := by rw [hil]; exact (List.getElem?_eq_some_iff.mp hu).1
    obtain ⟨v, hv⟩ : ∃ v, vs[j]? = some v := ⟨_, List.getElem?_eq_getElem hj⟩
    have hd : vs.drop j = v :: vs.drop (j + 1) := by
      rw [List.drop_eq_getElem_cons hj]
      rw [List.getElem?_eq_getElem hj] at hv
      rw [Option.some.inj hv]
    rw [hd] at h'
    obtain ⟨u', hu', ru⟩ := r.get hv
    rw [hu] at hu'; cases hu'
    refine wpAny_bind (wpAny_attempt (wpAny_mono (turn s' H' v u _ I' ru h') (fun w s2 hw => ?_) fun _ _ hF => hF.elim))
    obtain ⟨k, H2, I2, rw', ⟨ea, ek⟩, h2⟩ := hw
    try dsimp only
    have hk2 : H2 kS = some (extO kS us e') := by rw [ek]; exact hk'
    have hko := ext_at I2.hok hk2
    have hsz : us.size ≤ sizeLine := by omega
    obtain ⟨c2, hc2⟩ : ∃ c2, (s2.heap.update kS (Obj.mapSeq (·.push w))).get? kS = some (seqObj "list" (us.push w) c2) := ⟨_, get?_update_seq hko (·.push w)⟩
    have s1 := Heap.SameBut.update s2.heap kS (Obj.mapSeq (·.push w))
    have I3 : Inv X pins σ (upd H2 kS (extO kS (us.push w) c2)) { s2 with heap := s2.heap.update kS (Obj.mapSeq (·.push w)) } :=
      I2.write (x := kS) (e := kS) (t' := s2.toks) (by rw [hk2]; trivial) (.inl rfl) (fun b u hb q => (s1.2 b hb).trans q) ⟨_, hc2⟩ (ext_ok hc2)
    refine wpAny_bind (listUpdate_at hko rfl ?_ hsz (Nat.le_trans (Nat.le_of_eq (Array.size_push ..)) (by omega)))
    refine wpAny_pure ⟨rfl, _, ks ++ [k], us.push w, c2, I3, ?_, by rw [Array.size_push, hs], upd_same, ?_, h2 (noCode I2.hok hk2) _⟩
    · rw [Array.toList_push]
      exact rk.append (.cons rw' .nil)
    · rw [upd_ne hka.symm, ea]; exact ha'
  case done =>
    rintro s' ⟨H', ks, us, e', I', rk, hs, hk', ha', h'⟩
    simp only [Nat.zero_add] at hs h'
    have hd : vs.drop its.length = [] := by rw [← hil]; exact List.drop_length
    rw [hd] at h'
    obtain ⟨kv, pk, h'⟩ := h'
    try dsimp only
    refine wpAny_bind (listItems_at (ext_at I'.hok hk') rfl ?_)
    exact ksort_end I' hka hz r rk hs hk' ha' pk (h' (noCode I'.hok ha') (noCode I'.hok hk'))
/-- sorted(it, key=q) -/
theorem ksort_call {s : Shared} {H : Hp} {it : Value} {vs : List V} {Q : VK} (I : Inv X pins σ H s) (hz : vs.length ≤ sizeLine)
    (hcol : ∀ (Q : List Value → Shared → Prop) (E : Value → Shared → Prop), (∀ h' tk its, (∀ b o, s.heap.get? b = some o → h'.get? b = some o) → Vals vs its → Q its { s with heap := h', toks := tk }) → wpAny (model X.prog X.w) X.A.in1 (collect it) Q E s)
    (turn : KeyF X pins σ X.A.in1.in1 q sp)
    (h : ∀ a kS φ φ' (R : List V → Hp → Prop), H a = none → H kS = none → kS ≠ a → (∀ ks H' kv, PairsAt X.K H' ks kv → (NoCode H' a → NoCode H' kS → ∀ φ, Q (.ref a) (upd (upd H' kS (.ext φ)) a (.lst (sortKV kv vs)))) → R ks H') → tKeys sp a kS R vs [] (upd (upd H a (.ext φ)) kS (.ext φ'))) :
    wpAny (model X.prog X.w) X.A (call (.builtin "sorted") [it] [(Str.ofString "key", .ref q)]) (EP X pins σ Q) X.xe s := by
  refine call_function_entry_kw kind_sorted plain_sorted entry_sorted (ksk_s1 _ _) ?_
  unfold Builtin.«sorted»
  refine wpAny_bind (m := checkCount "sorted" 1 1 _) (wpAny_pure ?_)
  refine wpAny_bind (hcol _ _ fun h1 tk its k1 r => ?_)
  have hil : vs.length = its.length := r.length
  have hz' : its.length ≤ sizeLine := by omega
  refine wpAny_bind (wpAny_newList ?_ hz')
  have ho1 : (h1.push (seqObj "list" its.toArray 0)).get? h1.objs.size = some (seqObj "list" its.toArray 0) := Heap.get?_push_size _ rfl
  show wpAny _ _ _ _ _ { s with heap := h1.push (seqObj "list" its.toArray 0), toks := tk }
  refine wpAny_bind (wpAny_holding (wpAny_call_entry_kw slot_list_sort ⟨_, ho1, rfl⟩ entry_list_sort ?_ (ksk_l1 _ _)))
  rw [ksk_t1]
  unfold ksk_tree
  refine wpAny_bind (listItems_at ho1 rfl ?_)
  refine wpAny_bind (listUpdate_at ho1 rfl ?_ (by rw [List.size_toArray]; exact hz') (Nat.zero_le _))
  obtain ⟨e1, ho2⟩ : ∃ e1, ((h1.push (seqObj "list" its.toArray 0)).update h1.objs.size (Obj.mapSeq fun _ => (#[] : Array Value))).get? h1.objs.size = some (seqObj "list" #[] e1) := ⟨_, get?_update_seq ho1 fun _ => #[]⟩
  refine wpAny_bind (seqEpoch_at ho2 rfl ?_)
  refine wpAny_bind (wpAny_newTuple ?_ (by show its.length ≤ _; exact hz'))
  refine wpAny_bind (wpAny_newList ?_ (Nat.zero_le _))
  refine wpAny_holding ?_
  have I1 : Inv X pins σ H { s with heap := h1, toks := tk } := I.kept k1
  have na : H h1.objs.size = none := I1.hok.fresh (Nat.le_refl _)
  have keep1 : ∀ b o, h1.get? b = some o → (((h1.push (seqObj "list" its.toArray 0)).update h1.objs.size (Obj.mapSeq fun _ => (#[] : Array Value))).push (seqObj "tuple" its.toArray 0)).get? b = some o := fun b o e => by
    have hlt : b < h1.objs.size := Heap.lt_size e
    refine Heap.get?_push_of_some _ ?_
    rw [Heap.get?_update_ne _ _ _ _ (Nat.ne_of_lt hlt)]
    exact Heap.get?_push_of_some _ e
  have I2 : Inv X pins σ (upd H h1.objs.size (extO h1.objs.size #[] e1)) { s with heap := ((h1.push (seqObj "list" its.toArray 0)).update h1.objs.size (Obj.mapSeq fun _ => (#[] : Array Value))).push (seqObj "tuple" its.toArray 0), toks := tk } :=
    I1.laid (a := h1.objs.size) keep1 (Nat.le_refl _) (ext_ok (Heap.get?_push_of_some _ ho2))
  generalize hh : ((h1.push (seqObj "list" its.toArray 0)).update h1.objs.size (Obj.mapSeq fun _ => (#[] : Array Value))).push (seqObj "tuple" its.toArray 0) = h2 at *
  have nk2 : upd H h1.objs.size (extO h1.objs.size #[] e1) h2.objs.size = none := I2.hok.fresh (Nat.le_refl _)
  have hka : h2.objs.size ≠ h1.objs.size := fun z => by rw [z, upd_same] at nk2; cases nk2
  have nk : H h2.objs.size = none := by rw [upd_ne hka] at nk2; exact nk2
  have I3 : Inv X pins σ (upd (upd H h1.objs.size (extO h1.objs.size #[] e1)) h2.objs.size (extO h2.objs.size #[] 0)) { s with heap := h2.push (seqObj "list" #[] 0), toks := tk } :=
    I2.laid (a := h2.objs.size) (fun b o e => Heap.get?_push_of_some _ e) (Nat.le_refl _) (ext_ok (Heap.get?_push_size _ rfl))
  refine ksort_rest (s := { s with heap := h2.push (seqObj "list" #[] 0), toks := tk }) (sp := sp) turn I3 hka hz r upd_same (by rw [upd_ne hka.symm]; exact upd_same) (h _ _ _ _ _ na nk hka fun ks H' kv pk hQ => ⟨kv, pk, fun n1 n2 φ s' J => ?_⟩)
  exact ⟨_, rfl, wpAny_pure ⟨_, rfl, V.ref h1.objs.size, _, J, rfl, hQ n1 n2 φ⟩⟩
end
end DL
/-! DS4: a lambda with parameters: made, called. -/
namespace DL
open PySem PySem.Spec PyProof.Rows L2 LamX NdefX
/-- the object at f is the lambda F with that body -/
def LamO (f : Addr) (F : NF) (body : Expr) : HO := .ext fun h => ∃ (pm ctv : Value), h.get? f = some (PySem.W.kla_obj F.name F.qual F.params body F.scope F.cl pm F.c ctv)
theorem lamO_ok {P : Program} {w : World} {H : Hp} {h : Heap} {f : Addr} {F : NF} {body : Expr} {pm ctv : Value} (ho : h.get? f = some (PySem.W.kla_obj F.name F.qual F.params body F.scope F.cl pm F.c ctv)) : ObjOk P w H h f (LamO f F body) :=
  ⟨⟨pm, ctv, ho⟩, ⟨_, ho⟩, fun h1 h2 ⟨a, b, z⟩ st => ⟨a, b, st _ z⟩⟩
theorem lamO_at {P : Program} {w : World} {H : Hp} {h : Heap} {f : Addr} {F : NF} {body : Expr} (hok : HOk P w H h) (e : H f = some (LamO f F body)) : ∃ (pm ctv : Value), h.get? f = some (PySem.W.kla_obj F.name F.qual F.params body F.scope F.cl pm F.c ctv) := (hok f _ e).1
section
variable {X : Cx} {pins : List (Addr × Obj)} {σ : L2.St} {H : Hp} {s : Shared}
abbrev lamF (X : Cx) (params : Arguments) (scope : Scope) (c' : Addr) : NF := ⟨"<lambda>", X.env.qual ++ "<lambda>", params, [], scope, cloFrom X.env.cells scope.names [], c'⟩
theorem lamN_make {T : List NTab} {nm : Nat → Nat → Str} {c P : Addr} {params : Arguments} {body : Expr} {scope : Scope} {pos : Pos} {E : Value → Shared → Prop} {Q : Value → Shared → Prop} (I : Inv X pins σ H s) (TB : TabB X.base X.mg c P) (hcode : X.env.code = .ref c)
    (hm : (P, nm) ∈ T) (hn : nm pos.line pos.col = X.env.qual ++ "<lambda>") (hu : ∀ p ∈ T, p.1 = P → p.2 = nm) (hT : TabsN T H) (hdef : defaultsOf params X.env = ([], [])) (hfree : ∀ y ∈ scope.names, y.2 = .free → ∃ c, X.env.cells.lookup y.1 = some c)
    (h : ∀ (f c' : Addr) (H1 : Hp) (s' : Shared), Inv X pins σ H1 s' → ExtN H H1 → (∀ b, H1 b = Option.none → H b = Option.none) → TabsN T H1 → H f = none → H1 f = some (LamO f (lamF X params scope c') body) → H1 c' = some (CodeO c' (X.env.qual ++ "<lambda>")) → (∀ b o, s.heap.get? b = some o → o.cls ≠ .none → s'.heap.get? b = some o) → Q (.ref f) s') :
    wpAny (model X.prog X.w) X.A (eval (.Lambda params body scope pos) X.env) Q E s := by
  obtain ⟨ps, hP, ht, ha⟩ := (show TabN H P nm from hT _ hm)
  refine PySem.W.kla_eval hdef ?_
  have bP : s.heap.BuiltinsAt X.mg P := TB.bm.keeps I.bk
  have hP' : s.heap.get? P = some { cls := .none, data := .fields ps } := I.hok P _ hP
  have lay : ∀ {H1 : Hp} {h' : Heap} {tk : Nat} {pm ctv : Value} {c' : Addr}, Inv X pins σ H1 { s with heap := h', toks := tk } →
      Inv X pins σ (upd H1 h'.objs.size (LamO h'.objs.size (lamF X params scope c') body)) { s with heap := h'.push (PySem.W.kla_obj "<lambda>" (X.env.qual ++ "<lambda>") params body scope (cloFrom X.env.cells scope.names []) pm c' ctv), toks := tk } := fun {H1 h' tk pm ctv c'} I1 =>
    I1.laid (a := h'.objs.size) (fun b u e => Heap.get?_push_of_some _ e) (Nat.le_refl _) (lamO_ok (F := lamF X params scope c') (Heap.get?_push_size _ rfl))
  cases hc : codeAmong pos ps.toList with
  | none =>
    refine PySem.W.kla_makeFunction (mg := X.mg) (c := c) (P := P) (ps := ps) (closure_ok hfree) I.ok.glob (I.mod.glob.keeps I.bk) hcode (TB.code.keeps I.bk) hP' ht hc TB.gP bP fun c' ctv h' tk hx hge hlt hrec htb => ?_
    obtain ⟨c2, oc, vs, t, e2, hoc, hd, hv⟩ := hrec
    cases e2
    have nC : H c' = none := I.hok.fresh hge
    have I1 := inv_table (t' := tk) (more := #[rawInt pos.line, rawInt pos.col, .ref c']) (h' := h') I hP (fun b o hb e => hx b o hb e) htb hge ⟨oc, vs, t, hoc, hd, hv⟩
    have hE : ExtN H (upd (upd H P (.tbl (ps ++ #[rawInt pos.line, rawInt pos.col, .ref c']))) c' (CodeO c' (X.env.qual ++ "<lambda>"))) := fun b o e n => by
      rw [upd_ne (ne_of_none e nC), upd_ne (fun z => n ps (Option.some.inj (e.symm.trans (by rw [z]; exact hP))))]
      exact e
    have eL : (ps ++ #[rawInt pos.line, rawInt pos.col, .ref c']).toList = ps.toList ++ [rawInt pos.line, rawInt pos.col, .ref c'] := by simp
    have T1 : TabsN T (upd (upd H P (.tbl (ps ++ #[rawInt pos.line, rawInt pos.col, .ref c']))) c' (CodeO c' (X.env.qual ++ "<lambda>"))) := fun p hp => by
      by_cases hb : p.1 = P
      · rw [hu p hp hb, hb]
        refine ⟨_, by rw [upd_ne (ne_of_none hP nC), upd_same], by rw [eL]; exact PySem.TriplesOk_snoc _ _ _ _ ht, fun p' cv hcv => ?_⟩
        rw [eL] at hcv
        rcases among_app2 _ ht hcv with z | ⟨z, z1, z2⟩
        · obtain ⟨c0, e1, e2⟩ := ha p' cv z
          exact ⟨c0, e1, hE _ _ e2 codeO_ne⟩
        · refine ⟨c', z, ?_⟩
          rw [← z1, ← z2, hn]
          exact upd_same
      · obtain ⟨ps', a1, a2, a3⟩ := hT p hp
        refine ⟨ps', by rw [upd_ne (ne_of_none a1 nC), upd_ne hb]; exact a1, a2, fun p' cv hcv => ?_⟩
        obtain ⟨c0, e1, e2⟩ := a3 p' cv hcv
        exact ⟨c0, e1, hE _ _ e2 codeO_ne⟩
    have nF := I1.hok.fresh (Nat.le_refl _)
    have I2 := lay (pm := (X.mg "__name__").getD .none) (ctv := ctv) (c' := c') I1
    refine h h'.objs.size c' _ _ I2 (fun b o e n => ?_) (fun b e => upd_none (upd_none (upd_none e))) (T1.ext fun b o e => ?_) (I.hok.fresh (Nat.le_trans hge (Nat.le_of_lt hlt))) upd_same ?_ fun b o e n => ?_
    · have e1 := hE b o e n
      exact (upd_ne (ne_of_none e1 nF)).trans e1
    · exact (upd_ne (ne_of_none e nF)).trans e
    · exact (upd_ne (Nat.ne_of_lt hlt)).trans upd_same
    · exact Heap.get?_push_of_some _ (hx b o (fun z => by rw [z, hP'] at e; cases e; exact n rfl) e)
  | some cv =>
    obtain ⟨c', e, hco⟩ := ha pos cv hc
    subst e
    rw [hn] at hco
    refine PySem.W.kla_makeFunctionHit (mg := X.mg) (c := c) (P := P) (ps := ps) (closure_ok hfree) I.ok.glob (I.mod.glob.keeps I.bk) hcode (TB.code.keeps I.bk) hP' ht hc bP fun ctv h' tk hx hsz => ?_
    have I1 : Inv X pins σ H { s with heap := h', toks := tk } := I.kept hx
    have nF : H h'.objs.size = none := I1.hok.fresh (Nat.le_refl _)
    have I2 := lay (pm := (X.mg "__name__").getD .none) (ctv := ctv) (c' := c') I1
    refine h h'.objs.size c' _ _ I2 (fun b o e n => ?_) (fun b e => upd_none e) (hT.ext fun b o e => ?_) nF upd_same ?_ fun b o e n => ?_
    · exact (upd_ne (ne_of_none e nF)).trans e
    · exact (upd_ne (ne_of_none e nF)).trans e
    · exact (upd_ne (ne_of_none hco nF)).trans hco
    · exact Heap.get?_push_of_some _ (hx b o e)
end
/-- the promise of a lambda: sp ws, ws what its captured cells hold at the call -/
structure LOk (P : Program) (w : World) (K : PySem.W.Frag) (mg : Str → Option Value) (base : Heap) (CX : CXT) (k : Nat) (f : Addr) (F : NF) (body : Expr) (ps fr : List Str) (sp : List (Option V) → Sp) : Prop where
  run : ∀ (A : Around) (outer : List Env) (s : Shared) (H : Hp) (us : List Value) (vs : List V) (ws : List (Option V)) (Q : VK) (E : XK), Room k A → Env0 P w K mg base A outer s H → H f = some (LamO f F body) → H F.c = some (CodeO F.c F.qual) →
    CellsAt F.cl fr ws s.heap H → Vals vs us → vs.length = ps.length → sp ws vs H Q E → codeAny (model P w) A (.call (.ref f) ⟨us, []⟩) (CR CX outer P w H s Q E) s
section
variable {CX : CXT} {P : Program} {w : World} {K : PySem.W.Frag} {mg : Str → Option Value} {base : Heap} {N ps fr : List Str} {F : NF} {f : Addr} {k j : Nat} {sp : List (Option V) → Sp} {body : Expr}
theorem lok_of (S : NScope N ps fr F.scope) (hb : ∀ (pm ctv : Value) (us : List Value), us.length = ps.length → bindArgs (PySem.W.kla_fn F.name F.qual F.params body F.scope F.cl pm (.ref F.c) ctv) ⟨us, []⟩ = pure (ps.zip us))
    (hbody : ∀ (A : Around) (outer : List Env) (s : Shared) (H : Hp) (vs : List V) (ws : List (Option V)) (Q : VK) (E : XK), Room k (A.deeper (envF F f s.heap.objs.size)) → ws.length = fr.length → sp ws vs H Q E →
      ∃ t, PE (ncx CX P w K mg base N F f A outer s H E) body t ∧ t (startF N vs ws) H Q) :
    LOk P w K mg base CX (k + 1) f F body ps fr sp := by
  refine ⟨fun A outer s H us vs ws Q E hr e0 hf hc C r hl hsp => ?_⟩
  have lim : s.heap.NoLimit := e0.mod.nolimit.keeps fun b o e => (e0.bs b o e).1
  obtain ⟨pm, ctv, ho⟩ := lamO_at e0.hok hf
  refine PySem.W.kla_callFunE hr.depth ho rfl S.co S.gen rfl (codeO_at e0.hok hc) ?_
  rw [hb pm ctv us (by rw [← r.length]; exact hl)]
  refine wpAny_pure (wpAny_newFunctionEnv S.nocell (fun ⟨n, _⟩ hy => S.par n (List.of_mem_zip hy).1) (fun h₁ hns hsb => ⟨lim.fresh _ hsb, ?_⟩) S.kind)
  show codeAny _ _ (.expr body (envF F f s.heap.objs.size)) _ _
  have kp : ∀ b o, s.heap.get? b = some o → h₁.get? b = some o := fun b o e => hsb.extBut b o (Nat.ne_of_lt (Heap.lt_size e)) (Heap.get?_push_of_some _ e)
  obtain ⟨t, ht, hq⟩ := hbody A outer s H vs ws Q E (hr.deeper _) C.len hsp
  have I : Inv (ncx CX P w K mg base N F f A outer s H E) [] (startF N vs ws) H { s with heap := h₁, toks := s.toks + (ps.zip us).length } := inv_startN S hr.hd e0 hl r C hns kp
  refine PySem.W.kla_codeExpr (wpAny_mono (ht.run [] _ (startF N vs ws) H Q I hq) (fun v s' hs => ?_) fun e s' hs => hs)
  obtain ⟨v', H', J, rv, q⟩ := hs
  exact ⟨v', H', J.os, J.bare, J.base, J.hok, rv, q⟩
end
end DL
/-! DS5: sorted(.., key=lambda x: ..), the reading. -/
namespace DL
open PySem PySem.Spec PyProof.Rows L2 LamX NdefX
abbrev NoX : XK := fun _ _ _ => False
/-- the lambda's call, as the sort makes it -/
def spLam (f c' : Addr) (lam : Addr → NF) (body : Expr) (sp : List (Option V) → Sp) (ws : List (Option V)) : V → Hp → VK → Prop := fun v H Q => H f = some (LamO f (lam c') body) ∧ H c' = some (CodeO c' (lam c').qual) ∧ sp ws [v] H Q NoX
def SortGo (K : PySem.W.Frag) (T : List NTab) (js : List Nat) (lam : Addr → NF) (body : Expr) (sp : List (Option V) → Sp) (vs : List V) (σ : L2.St) (H1 : Hp) (Q : VK) : Prop :=
  vs.length ≤ sizeLine ∧ TabsN T H1 ∧ ∀ (f c' : Addr) (H2 : Hp), ExtN H1 H2 → (∀ b, H2 b = none → H1 b = none) → TabsN T H2 → H1 f = none → H2 f = some (LamO f (lam c') body) → H2 c' = some (CodeO c' (lam c').qual) →
    ∀ (a kS : Addr) (φ φ' : Heap → Prop) (R : List V → Hp → Prop), H2 a = none → H2 kS = none → kS ≠ a → (∀ ks H' kv, PairsAt K H' ks kv → (NoCode H' a → NoCode H' kS → ∀ φ, Q (.ref a) (upd (upd H' kS (.ext φ)) a (.lst (sortKV kv vs)))) → R ks H') →
      tKeys (spLam f c' lam body sp (js.map (slotAt σ))) a kS R vs [] (upd (upd H2 a (.ext φ)) kS (.ext φ'))
def tSortL (K : PySem.W.Frag) (T : List NTab) (te : TE) (js : List Nat) (lam : Addr → NF) (body : Expr) (sp : List (Option V) → Sp) : TE := fun σ H Q => te σ H fun l H1 => ∃ lp vs, l = .ref lp ∧ SqL K H1 lp vs ∧ SortGo K T js lam body sp vs σ H1 Q
def tSortRg (K : PySem.W.Frag) (T : List NTab) (te : L2.St → Hp → (Int → Int → Hp → Prop) → Prop) (js : List Nat) (lam : Addr → NF) (body : Expr) (sp : List (Option V) → Sp) : TE := fun σ H Q => te σ H fun i j H1 => RgOk i j ∧ SortGo K T js lam body sp (rgV i j) σ H1 Q
theorem extN_sqL {K : PySem.W.Frag} {H H' : Hp} {a : Addr} {xs : List V} (e : ExtN H H') (h : SqL K H a xs) : SqL K H' a xs := by
  rcases h with (h | ⟨o, h⟩) | h
  · exact .inl (.inl (e _ _ h fun ps z => by cases z))
  · exact .inl (.inr ⟨o, e _ _ h fun ps z => by cases z⟩)
  · exact .inr h
section
variable {X : Cx} {pins : List (Addr × Obj)} {σ : L2.St} {H : Hp} {s : Shared} {k : Nat} {sp : List (Option V) → Sp} {ps fr : List Str} {js : List Nat} {params : Arguments} {body : Expr} {scope : Scope} {f c' : Addr} {y : Str}
theorem keyF_lam (Fn : LOk X.prog X.w X.K X.mg X.base (L2.CX X.prog X.w) k f (lamF X params scope c') body [y] fr sp) (cp : X.Ok → Caps X (cloFrom X.env.cells scope.names []) fr js) (hr : Room (k + 2) X.A) : KeyF X pins σ X.A.in1.in1 f (spLam f c' (lamF X params scope) body sp (js.map (slotAt σ))) := by
  intro s' H' v u Q' I r h
  obtain ⟨h1, h2, h3⟩ := h
  refine wpAny_call (codeAny_mono (Fn.run X.A.in1.in1 X.stack s' H' [u] [v] _ Q' NoX hr.in1.in1 I.env0.in1.in1 h1 h2 (cells_of I (cp I.ok)) (.cons r .nil) rfl h3) fun r s2 hq => ?_)
  cases r with
  | error e =>
    obtain ⟨_, _, _, _, _, _, _, _, _, _, _, _, z⟩ := hq
    exact z.elim
  | ok fl =>
    cases fl with
    | ret u => exact I.after hq
    | next => exact False.elim hq
    | brk => exact False.elim hq
    | cont => exact False.elim hq
variable {T : List NTab} {nm : Nat → Nat → Str} {c P : Addr} {lpos kpos p pos : Pos} {iter : Expr}
/-- what stands behind the iterable's value -/
theorem sort_rest {Q : VK} {it : Value} {vs : List V} (I : Inv X pins σ H s) (TB : TabB X.base X.mg c P) (hcode : X.env.code = .ref c) (hmT : (P, nm) ∈ T) (hn : nm lpos.line lpos.col = X.env.qual ++ "<lambda>") (hu : ∀ p ∈ T, p.1 = P → p.2 = nm) (hdef : defaultsOf params X.env = ([], []))
    (hfree : ∀ y ∈ scope.names, y.2 = .free → X.env.scope.names.lookup y.1 = some .cell ∨ X.env.scope.names.lookup y.1 = some .free) (Fn : ∀ f c', LOk X.prog X.w X.K X.mg X.base (L2.CX X.prog X.w) k f (lamF X params scope c') body [y] fr sp) (cp : X.Ok → Caps X (cloFrom X.env.cells scope.names []) fr js) (hr : Room (k + 2) X.A)
    (hcol : ∀ (s' : Shared) (H' : Hp), Inv X pins σ H' s' → ExtN H H' → (∀ b o, s.heap.get? b = some o → o.cls ≠ .none → s'.heap.get? b = some o) → ∀ (Q : List Value → Shared → Prop) (E : Value → Shared → Prop), (∀ h' tk its, (∀ b o, s'.heap.get? b = some o → h'.get? b = some o) → Vals vs its → Q its { s' with heap := h', toks := tk }) → wpAny (model X.prog X.w) X.A.in1 (collect it) Q E s')
    (h : SortGo X.K T js (lamF X params scope) body sp vs σ H Q) :
    wpAny (model X.prog X.w) X.A (evalAll ((backToKw pos (keywordEach [⟨some "key", .Lambda params body scope lpos, kpos⟩] X.env)).map (·.2)))
      (fun kvs s₂ => wpAny (model X.prog X.w) X.A (call (.builtin "sorted") [it] ([(Str.ofString "key")].zip kvs)) (EP X pins σ Q) X.xe s₂) X.xe s := by
  obtain ⟨hz, hT, h⟩ := h
  show wpAny _ _ (evalAll ((do let v ← eval (.Lambda params body scope lpos) X.env; standAt pos; pure v) :: (backToKw pos (keywordEach [] X.env)).map (·.2))) _ _ s
  have hfr : ∀ y ∈ scope.names, y.2 = .free → ∃ c, X.env.cells.lookup y.1 = some c := fun y hy e => (hfree y hy e).elim (fun z => I.ok.has _ (.inl z)) fun z => I.ok.has _ (.inr z)
  refine wpAny_evalAll_cons (wpAny_bind (lamN_make I TB hcode hmT hn hu hT hdef hfr fun f c' H2 s' I2 eN nn T2 f0 f1 c1 kp => wpAny_bind (wpAny_standAt (wpAny_pure ?_))))
  refine wpAny_evalAll_nil ?_
  exact ksort_call I2 hz (hcol s' H2 I2 eN kp) (keyF_lam (Fn f c') cp hr) (h f c' H2 eN nn T2 f0 f1 c1)
theorem pe_sortedL {te : TE} (hg : Gl X "sorted") (hm : X.mg "sorted" = none) (hi : PE X iter te) (TB : TabB X.base X.mg c P) (hcode : X.env.code = .ref c) (hmT : (P, nm) ∈ T) (hn : nm lpos.line lpos.col = X.env.qual ++ "<lambda>") (hu : ∀ p ∈ T, p.1 = P → p.2 = nm) (hdef : defaultsOf params X.env = ([], []))
    (hfree : ∀ y ∈ scope.names, y.2 = .free → X.env.scope.names.lookup y.1 = some .cell ∨ X.env.scope.names.lookup y.1 = some .free) (Fn : ∀ f c', LOk X.prog X.w X.K X.mg X.base (L2.CX X.prog X.w) k f (lamF X params scope c') body [y] fr sp) (cp : X.Ok → Caps X (cloFrom X.env.cells scope.names []) fr js) (hr : Room (k + 2) X.A)
    (na : starEach [iter] X.env = (false, eval iter X.env) :: starEach [] X.env := by rfl) :
    PE X (.Call (.Name "sorted" p) [iter] [⟨some "key", .Lambda params body scope lpos, kpos⟩] pos) (tSortL X.K T te js (lamF X params scope) body sp) := by
  refine ⟨fun pins s σ H Q I h => ?_⟩
  refine wpAny_Call_Name_kw (ld_blt I hg hm boot_sorted ?_ (by decide) (by decide))
  refine PyProof.Rows.callWith_kw (args_cons (thn (hi.run pins s σ H _ I h) fun x s1 ⟨l, H1, I1, r1, lp, vs, el, hs, go⟩ => args_nil ?_) na) (by rw [na]; rfl) (by rw [na]; rfl) (by rfl) (by rfl)
  subst el
  cases (show x = Value.ref lp from r1)
  refine sort_rest (pos := pos) (kpos := kpos) I1 TB hcode hmT hn hu hdef hfree Fn cp hr (fun s' H' I' eN kp Q' E' hQ => ?_) go
  obtain ⟨its, rv, hl, hz⟩ := I'.list (extN_sqL eN hs)
  refine collect_list hl.isList (hQ _ _ its (fun b o e => ?_) rv) (by rw [← rv.length]; exact hz)
  have hlt : b < s'.heap.objs.size := Heap.lt_size e
  rw [Heap.get?_update_ne _ _ _ _ (Nat.ne_of_lt hlt)]
  exact Heap.get?_push_of_some _ e
theorem pe_sortedRg {te : L2.St → Hp → (Int → Int → Hp → Prop) → Prop} (hc : X.calm = true) (hg : Gl X "sorted") (hm : X.mg "sorted" = none) (hi : PRg X iter te) (TB : TabB X.base X.mg c P) (hcode : X.env.code = .ref c) (hmT : (P, nm) ∈ T) (hn : nm lpos.line lpos.col = X.env.qual ++ "<lambda>") (hu : ∀ p ∈ T, p.1 = P → p.2 = nm) (hdef : defaultsOf params X.env = ([], []))
    (hfree : ∀ y ∈ scope.names, y.2 = .free → X.env.scope.names.lookup y.1 = some .cell ∨ X.env.scope.names.lookup y.1 = some .free) (Fn : ∀ f c', LOk X.prog X.w X.K X.mg X.base (L2.CX X.prog X.w) k f (lamF X params scope c') body [y] fr sp) (cp : X.Ok → Caps X (cloFrom X.env.cells scope.names []) fr js) (hr : Room (k + 2) X.A)
    (na : starEach [iter] X.env = (false, eval iter X.env) :: starEach [] X.env := by rfl) :
    PE X (.Call (.Name "sorted" p) [iter] [⟨some "key", .Lambda params body scope lpos, kpos⟩] pos) (tSortRg X.K T te js (lamF X params scope) body sp) := by
  refine ⟨fun pins s σ H Q I h => ?_⟩
  refine wpAny_Call_Name_kw (ld_blt I hg hm boot_sorted ?_ (by decide) (by decide))
  refine PyProof.Rows.callWith_kw (args_cons (thn (hi pins s σ H _ I h) fun x s1 ⟨r, a, b, t, u, v, H1, ex, hrg, I1, ok, go⟩ => args_nil ?_) na) (by rw [na]; rfl) (by rw [na]; rfl) (by rfl) (by rfl)
  subst ex
  refine sort_rest (pos := pos) (kpos := kpos) I1 TB hcode hmT hn hu hdef hfree Fn cp hr (fun s' H' I' eN kp Q' E' hQ => ?_) go
  obtain ⟨b1, b2, b3, b4, b5⟩ := ok
  have hrg' : IsRange s'.heap r a b 1 t u v := kp _ _ hrg (by intro z; cases z)
  refine collect_range (n := (b - a).toNat) (I'.ok.hd hc) hrg' (small_one b1 b2 b3 b4) (rangeSize_nat a b) b5 fun h' tk acc hk hi' => hQ h' tk _ hk (vals_rg hi')
end
end DL
/-! DS6: sorted(.., key=lambda x: ..), by data. -/
namespace DL
open PySem PySem.Spec PyProof.Rows L2 LamX NdefX SrtO
/-! ### cells of another kind may change -/
def NExt (o : HO) : Prop := ∀ φ, o ≠ .ext φ
structure Mx (O : Hid) (H : Hp) (O' : Hid) (H' : Hp) : Prop where
  keep : ∀ b o, H b = some o → NTbl o → NExt o → ¬ O b → H' b = some o
  hide : ∀ b, O' b → O b ∨ H b = none ∨ ∃ φ, H b = some (.ext φ)
section
variable {G : Ctx} {O O' : Hid} {H H' : Hp}
theorem Mx.nh (m : Mx O H O' H') {b : Addr} {o : HO} (h : H b = some o) (x : NExt o) (n : ¬ O b) : ¬ O' b := fun z => by
  rcases m.hide b z with q | q | ⟨φ, q⟩
  · exact n q
  · rw [h] at q; cases q
  · rw [h] at q; cases q; exact x φ rfl
theorem next_lst {xs : List V} : NExt (.lst xs) := fun _ e => by cases e
theorem next_tup {xs : List V} : NExt (.tup xs) := fun _ e => by cases e
theorem next_frz {o : Obj} {u : HO} : NExt (.frz o u) := fun _ e => by cases e
theorem next_dK {kvs} : NExt (.dK kvs) := fun _ e => by cases e
theorem next_ins {C dx fs} : NExt (.ins C dx fs) := fun _ e => by cases e
theorem Mx.rd (m : Mx O H O' H') {b : Addr} {u : HO} (hu : NTbl u) (hx : NExt u) (n : ¬ O b) (h : Rd H b u) : ¬ O' b ∧ Rd H' b u := by
  rcases h with h | ⟨o, h⟩
  · exact ⟨m.nh h hx n, .inl (m.keep _ _ h hu hx n)⟩
  · exact ⟨m.nh h next_frz n, .inr ⟨o, m.keep _ _ h ntbl_frz next_frz n⟩⟩
mutual
theorem At.mx (m : Mx O H O' H') : ∀ {d : D} {v : V}, At G O H d v → At G O' H' d v
  | .non, _, h => h
  | .bl _, _, h => h
  | .int _, _, h => h
  | .str _, _, h => h
  | .tup ds, v, h => by
    unfold At at h ⊢
    obtain ⟨a, vs, e, h1, hl, h2⟩ := h
    refine ⟨a, vs, e, ?_, hl, Ats.mx m h2⟩
    rcases h1 with ⟨n, h1⟩ | h1
    · exact .inl (m.rd ntbl_tup next_tup n h1)
    · exact .inr h1
  | .lst ds, v, h => by
    unfold At at h ⊢
    obtain ⟨a, vs, e, n, h1, hl, h2⟩ := h
    exact ⟨a, vs, e, m.nh h1 next_lst n, m.keep _ _ h1 ntbl_lst next_lst n, hl, Ats.mx m h2⟩
  | .scr ns, v, h => by
    unfold At at h ⊢
    obtain ⟨a, e, h1, hl⟩ := h
    refine ⟨a, e, ?_, hl⟩
    rcases h1 with ⟨n, h1⟩ | h1
    · exact .inl (m.rd ntbl_lst next_lst n h1)
    · exact .inr h1
  | .dct kvs, v, h => by
    unfold At at h ⊢
    obtain ⟨a, ws, e, n, h1, hl, h2⟩ := h
    exact ⟨a, ws, e, m.nh h1 next_dK n, m.keep _ _ h1 ntbl_dK next_dK n, hl, AtK.mx m h2⟩
  | .ins C fs, v, h => by
    unfold At at h ⊢
    obtain ⟨a, dx, ws, e, n, h1, h2⟩ := h
    exact ⟨a, dx, ws, e, m.nh h1 next_ins n, m.keep _ _ h1 ntbl_ins next_ins n, AtF.mx m h2⟩
theorem Ats.mx (m : Mx O H O' H') : ∀ {ds : List D} {vs : List V}, Ats G O H ds vs → Ats G O' H' ds vs
  | [], _, h => by unfold Ats at h ⊢; exact h
  | d :: ds, vs, h => by
    unfold Ats at h ⊢
    obtain ⟨v, ws, e, h1, h2⟩ := h
    exact ⟨v, ws, e, At.mx m h1, Ats.mx m h2⟩
theorem AtK.mx (m : Mx O H O' H') : ∀ {ds : List (Key × D)} {vs : List (Key × V)}, AtK G O H ds vs → AtK G O' H' ds vs
  | [], _, h => by unfold AtK at h ⊢; exact h
  | (k, d) :: ds, vs, h => by
    unfold AtK at h ⊢
    obtain ⟨v, ws, e, h1, h2⟩ := h
    exact ⟨v, ws, e, At.mx m h1, AtK.mx m h2⟩
theorem AtF.mx (m : Mx O H O' H') : ∀ {ds : List (Str × D)} {vs : List (Str × V)}, AtF G O H ds vs → AtF G O' H' ds vs
  | [], _, h => by unfold AtF at h ⊢; exact h
  | (k, d) :: ds, vs, h => by
    unfold AtF at h ⊢
    obtain ⟨v, ws, e, h1, h2⟩ := h
    exact ⟨v, ws, e, At.mx m h1, AtF.mx m h2⟩
end
variable {Hb : Hp} {σ : L2.St} {δ : FEnv} {O2 : Hid}
theorem St.mx (S : St G Hb O H σ δ) (keep : ∀ b o, H b = some o → NTbl o → NExt o → H' b = some o) (trk : ∀ b, H' b = none → H b = none) (tb : TabsN G.T H')
    (h1 : ∀ q, O2 q → O q ∨ H q = none ∨ ∃ φ, H q = some (.ext φ)) (h2 : ∀ q, O2 q → LD H' q) : St G Hb O2 H' σ δ ∧ Mx (Ob O σ δ) H (Ob O2 σ δ) H' := by
  have mv : Mx (Ob O σ δ) H (Ob O2 σ δ) H' := ⟨fun b' o e n x _ => keep b' o e n x, fun b' z => by
    rcases z with z | z
    · rcases h1 b' z with q | q
      · exact .inl (.inl q)
      · exact .inr q
    · exact .inl (.inr z)⟩
  refine ⟨⟨S.len, tb, fun b' e => S.trb b' (trk b' e), h2, fun j d e => ?_, fun j b' es e => ?_, S.inj⟩, mv⟩
  · obtain ⟨v, q1, q2⟩ := S.val j d e
    exact ⟨v, q1, q2.mx mv⟩
  · obtain ⟨q, ws, q1, q2, q3, q4, q5, q6⟩ := S.own j b' es e
    refine ⟨q, ws, q1, keep q _ q2 ntbl_lst next_lst, q3, q4, fun z => ?_, q6.mx mv⟩
    rcases h1 q z with y | y | ⟨φ, y⟩
    · exact q5 y
    · rw [q2] at y; cases y
    · rw [q2] at y; cases y
theorem tabs_updX {T : List NTab} {p : Addr} {o : HO} {φ : Heap → Prop} (h : TabsN T H) (hp : H p = some (.ext φ)) (nc : NoCode H p) : TabsN T (upd H p o) := fun q hq => by
  obtain ⟨ps, h1, h2, h3⟩ := h q hq
  refine ⟨ps, by rw [upd_ne (fun z => by rw [z, hp] at h1; cases h1)]; exact h1, h2, fun pos cv hc => ?_⟩
  obtain ⟨c, e1, e2⟩ := h3 pos cv hc
  exact ⟨c, e1, by rw [upd_ne (fun z => by subst z; exact nc _ e2)]; exact e2⟩
theorem St.updX {p : Addr} {o : HO} {φ : Heap → Prop} (S : St G Hb O H σ δ) (hp : H p = some (.ext φ)) (nc : NoCode H p) : St G Hb O (upd H p o) σ δ ∧ Mx (Ob O σ δ) H (Ob O σ δ) (upd H p o) :=
  S.mx (fun b u e _ x => (upd_ne (fun z => x φ (Option.some.inj ((show H b = some u from e).symm.trans (by rw [z]; exact hp))))).trans e) (fun b e => by
    by_cases z : b = p
    · subst z; rw [upd_same] at e; cases e
    · rw [upd_ne z] at e; exact e) (tabs_updX S.tb hp nc) (fun q z => .inl z) fun q z => by
    obtain ⟨u, e, l⟩ := S.hid q z
    exact ⟨u, by rw [upd_ne (fun y => by rw [y, hp] at e; cases e; exact l)]; exact e, l⟩
end
/-! ### a lambda's promise -/
def spL (G : Ctx) (n : Nat) (g : FSem) : List (Option V) → Sp := fun ws vs H Q E => ∃ us : List V, ws = us.map some ∧ spOf G n false g (vs ++ us) H Q E
theorem startF_eq {N : List Str} {vs us : List V} : startF N vs (us.map some) = L2.start N (vs ++ us) := by
  unfold startF L2.start
  rw [List.map_append, List.length_map, List.length_append, List.append_assoc, Nat.sub_sub]
theorem lam_okD {P : Program} {w : World} {K : PySem.W.Frag} {mg : Str → Option Value} {base : Heap} {G : Ctx} {N ps fr : List Str} {F : NF} {f : Addr} {k n : Nat} {m : Mz} {body : Expr} (S : NScope N ps fr F.scope)
    (hb : ∀ (pm ctv : Value) (us : List Value), us.length = ps.length → bindArgs (PySem.W.kla_fn F.name F.qual F.params body F.scope F.cl pm (.ref F.c) ctv) ⟨us, []⟩ = pure (ps.zip us)) (hn : n ≤ N.length)
    (hbody : ∀ (A : Around) (outer : List Env) (s : Shared) (H : Hp) (E : XK), Room k (A.deeper (envF F f s.heap.objs.size)) → PE (ncx (L2.CX P w) P w K mg base N F f A outer s H E) body (Ev G (WB E) m)) :
    LOk P w K mg base (L2.CX P w) (k + 1) f F body ps fr (spL G n (runDef (sRet m) false N.length)) :=
  lok_of S hb fun A outer s H vs ws Q E hr hl hsp => by
    obtain ⟨us, rfl, h⟩ := hsp
    refine ⟨_, hbody A outer s H E hr, ?_⟩
    rw [startF_eq]
    exact sv_ret _ _ _ (body_ok hn h)
/-! ### what is captured -/
def capD (δ : FEnv) (j : Nat) : Option D := (δ[j]?).bind slotD
def capsD (δ : FEnv) : List Nat → Option (List D)
  | [] => some []
  | j :: js => (capD δ j).bind fun d => (capsD δ js).map fun ds => d :: ds
section
variable {G : Ctx} {W : WX} {O O' : Hid} {H H' Hb : Hp} {σ : L2.St} {δ : FEnv}
theorem cap_at {d : D} {j : Nat} (S : St G Hb O H σ δ) (e : capD δ j = some d) (sub : ∀ q, O' q → Ob O σ δ q) (k : ∀ q, O' q → ¬ OwnAt σ δ j q) : ∃ u, slotAt σ j = some u ∧ At G O' H d u := by
  obtain ⟨s, e1, e2⟩ := Option.bind_eq_some_iff.mp e
  match s, e1, e2 with
  | some (.val x), e1, e2 =>
    cases Option.some.inj e2
    obtain ⟨v, q1, q2⟩ := S.val j _ e1
    exact ⟨v, slotAt_of q1, q2.mv ⟨fun _ _ h _ _ => h, fun b z => .inl (sub b z)⟩⟩
  | some (.own b ds), e1, e2 =>
    cases Option.some.inj e2
    obtain ⟨p, vs, q1, q2, q3, q4, q5, q6⟩ := S.own j b ds e1
    refine ⟨_, slotAt_of q1, ?_⟩
    unfold At
    exact ⟨p, vs, rfl, fun z => k p z ⟨q1, b, ds, e1⟩, q2, q3, q6.mv ⟨fun _ _ h _ _ => h, fun b z => .inl (sub b z)⟩⟩
theorem caps_at (S : St G Hb O H σ δ) (sub : ∀ q, O' q → Ob O σ δ q) : ∀ {js : List Nat} {cs : List D}, capsD δ js = some cs → (∀ q, O' q → ∀ j ∈ js, ¬ OwnAt σ δ j q) → ∃ us : List V, js.map (slotAt σ) = us.map some ∧ Ats G O' H cs us
  | [], cs, e, _ => by cases Option.some.inj e; exact ⟨[], rfl, Ats.nil⟩
  | j :: js, cs, e, k => by
    obtain ⟨d, e1, e⟩ := Option.bind_eq_some_iff.mp e
    obtain ⟨ds, e2, e⟩ := Option.map_eq_some_iff.mp e
    subst e
    obtain ⟨u, q1, q2⟩ := cap_at S e1 sub fun q z => k q z j List.mem_cons_self
    obtain ⟨us, q3, q4⟩ := caps_at S sub e2 fun q z j' h => k q z j' (List.mem_cons_of_mem _ h)
    exact ⟨u :: us, by rw [List.map_cons, List.map_cons, q1, q3], Ats.cons q2 q4⟩
/-! ### the keys -/
def pairD? : FRes → Option (Int × Int)
  | .ok (.val (.tup [.int x, .int y])) _ => some (x, y)
  | _ => none
def keysD (g : FSem) (cs : List D) : List D → Option (List (Int × Int))
  | [] => some []
  | d :: ds => (pairD? (g (d :: cs))).bind fun k => (keysD g cs ds).map fun ks => k :: ks
def ltKD (x y : (Int × Int) × D) : Bool := lexB x.1 y.1
def sortKD (kv : List (Int × Int)) (ds : List D) : List D := (sortS ltKD (kv.zip ds)).map (·.2)
theorem pairD_eq {x : FRes} {k : Int × Int} (e : pairD? x = some k) : ∃ ps, x = .ok (.val (.tup [.int k.1, .int k.2])) ps := by
  unfold pairD? at e
  split at e
  · cases Option.some.inj e
    exact ⟨_, rfl⟩
  · cases e
theorem all2_zip {O : Hid} {H : Hp} : ∀ {kv : List (Int × Int)} {ds : List D} {vs : List V}, Ats G O H ds vs → All2 (fun (p : (Int × Int) × D) (q : (Int × Int) × V) => p.1 = q.1 ∧ At G O H p.2 q.2) (kv.zip ds) (kv.zip vs)
  | [], ds, vs, _ => by simp; exact .nil
  | k :: kv, [], vs, h => by unfold Ats at h; subst h; exact .nil
  | k :: kv, d :: ds, vs, h => by
    unfold Ats at h
    obtain ⟨v, ws, rfl, h1, h2⟩ := h
    exact .cons ⟨rfl, h1⟩ (all2_zip h2)
theorem all2_ats {O : Hid} {H : Hp} {P : (Int × Int) × D → (Int × Int) × V → Prop} (hP : ∀ p q, P p q → At G O H p.2 q.2) : ∀ {xs : List ((Int × Int) × D)} {ys : List ((Int × Int) × V)}, All2 P xs ys → Ats G O H (xs.map (·.2)) (ys.map (·.2))
  | _, _, .nil => Ats.nil
  | _, _, .cons h t => Ats.cons (hP _ _ h) (all2_ats hP t)
theorem ats_sort {kv : List (Int × Int)} {ds : List D} {vs : List V} (h : Ats G O H ds vs) : Ats G O H (sortKD kv ds) (sortKV kv vs) :=
  all2_ats (P := fun p q => p.1 = q.1 ∧ At G O H p.2 q.2) (fun _ _ z => z.2) (All2.sort (lt := ltKD) (lt' := ltKV) (fun a b c d h1 h2 => by
    show lexB a.1 c.1 = lexB b.1 d.1
    rw [h1.1, h2.1]) (all2_zip h))
theorem swo_lexP : Swo lexB := by
  refine ⟨fun x y h => ?_, fun x y z h1 h2 => ?_⟩
  · have a := lexB_iff.mp h
    refine lexB_no.mpr ?_
    omega
  · have a := lexB_no.mp h1
    have b := lexB_no.mp h2
    refine lexB_no.mpr ?_
    omega
theorem sortKV_len (kv : List (Int × Int)) (vs : List V) : (sortKV kv vs).length ≤ vs.length := by
  have O : Swo ltKV := ⟨fun x y h => (swo_lexP).asym _ _ h, fun x y z h1 h2 => (swo_lexP).tr _ _ _ h1 h2⟩
  unfold sortKV
  rw [List.length_map, (sortS_stb O _).len, List.length_zip]
  exact Nat.min_le_right _ _
end
end DL
/-! DS7: sorted(.., key=lambda x: ..), by data: the rule. -/
namespace DL
open PySem PySem.Spec PyProof.Rows L2 LamX NdefX SrtO
section
variable {G : Ctx} {W : WX} {O : Hid} {H1 Hb : Hp} {σ : L2.St} {δ : FEnv} {a kS f c' : Addr} {lam : Addr → NF} {body : Expr} {n : Nat} {g : FSem} {cs : List D} {js : List Nat} {R : List V → Hp → Prop}
theorem pairsAt_keep {H H' : Hp} (k : ∀ b o, H b = some o → NTbl o → NExt o → H' b = some o) : ∀ {ks : List V} {kv : List (Int × Int)}, PairsAt G.K H ks kv → PairsAt G.K H' ks kv
  | _, _, .nil => .nil
  | _, _, .cons ⟨b, e, h⟩ t => .cons ⟨b, e, by
      rcases h with (h | ⟨o, h⟩) | h
      · exact .inl (.inl (k _ _ h ntbl_tup next_tup))
      · exact .inl (.inr ⟨o, k _ _ h ntbl_frz next_frz⟩)
      · exact .inr h⟩ (pairsAt_keep k t)
theorem pairsAt_snoc {H : Hp} {k : V} {p : Int × Int} (h : ∃ b, k = V.ref b ∧ (Rd H b (.tup [.int p.1, .int p.2]) ∨ KTup G.K b [.int p.1, .int p.2])) : ∀ {ks : List V} {kv : List (Int × Int)}, PairsAt G.K H ks kv → PairsAt G.K H (ks ++ [k]) (kv ++ [p])
  | _, _, .nil => .cons h .nil
  | _, _, .cons h1 t => .cons h1 (pairsAt_snoc h t)
theorem keys_run (hn : n = 1 + js.length) (hc : capsD δ js = some cs) (S1 : St G Hb O H1 σ δ) (ha1 : H1 a = none) (hk1 : H1 kS = none) (hka : kS ≠ a) (fk : f ≠ kS) (ck : c' ≠ kS) : ∀ {ds : List D} {vs ks : List V} {kv0 kv : List (Int × Int)} {H : Hp}, St G Hb O H σ δ → Stp σ δ H1 σ δ H →
    (∃ φ, H a = some (.ext φ)) → (∃ φ, H kS = some (.ext φ)) → H f = some (LamO f (lam c') body) → H c' = some (CodeO c' (lam c').qual) → Ats G (Ob O σ δ) H1 ds vs → keysD g cs ds = some kv → PairsAt G.K H ks kv0 →
    (∀ H' ks', St G Hb O H' σ δ → Stp σ δ H1 σ δ H' → (∃ φ, H' a = some (.ext φ)) → (∃ φ, H' kS = some (.ext φ)) → PairsAt G.K H' ks' (kv0 ++ kv) → R ks' H') → tKeys (spLam f c' lam body (spL G n g) (js.map (slotAt σ))) a kS R vs ks H
  | [], vs, ks, kv0, kv, H, S, st, ea, ek, hf, hcc, hd, hkv, pk, fin => by
    unfold Ats at hd
    subst hd
    cases Option.some.inj hkv
    exact fin H ks S st ea ek (by rw [List.append_nil]; exact pk)
  | d :: ds, vs, ks, kv0, kv, H, S, st, ea, ek, hf, hcc, hd, hkv, pk, fin => by
    unfold Ats at hd
    obtain ⟨v, ws, rfl, hd1, hd2⟩ := hd
    obtain ⟨p, e1, e2⟩ := Option.bind_eq_some_iff.mp hkv
    obtain ⟨kv', e3, rfl⟩ := Option.map_eq_some_iff.mp e2
    obtain ⟨ps, e4⟩ := pairD_eq e1
    obtain ⟨us, q1, q2⟩ := caps_at (O' := fun q => Ob O σ δ q ∧ ∀ j ∈ js, ¬ OwnAt σ δ j q) S (fun q z => z.1) hc fun q z => z.2
    have hul : us.length = js.length := by
      have := congrArg List.length q1
      rw [List.length_map, List.length_map] at this
      exact this.symm
    refine ⟨hf, hcc, us, q1, by rw [List.length_append, List.length_singleton, hul, hn], _, none, d :: cs, S.tb, fun q z => S.ob_lst z.1, ⟨rfl, Ats.cons ((hd1.mv (S1.mv st)).mv ⟨fun _ _ h _ _ => h, fun b z => .inl z.1⟩) q2⟩, ?_⟩
    rw [e4]
    intro k H' us' F _ hr
    have kp : ∀ b o, H b = some o → NTbl o → H' b = some o := fun b o e nt => F.keep b o e nt (by simp)
    obtain ⟨φa, ea⟩ := ea
    obtain ⟨φk, ek⟩ := ek
    have ea' : H' a = some (.ext φa) := kp _ _ ea fun ps z => by cases z
    have ek' : H' kS = some (.ext φk) := kp _ _ ek fun ps z => by cases z
    refine ⟨⟨ea'.trans ea.symm, ek'.trans ek.symm⟩, fun nc φ => ?_⟩
    have S' := (S.keptO (O2 := O) kp F.trk F.tb (fun q z => .inl z) (fun q z => (S.hid q z).kp fun o e nt => kp q o e nt)).1
    obtain ⟨S2, _⟩ := S'.updX (o := .ext φ) ek' nc
    have st2 : Stp σ δ H1 σ δ (upd H' kS (.ext φ)) := ⟨fun b o e nt w => by
        rw [upd_ne (fun z => by rw [z, hk1] at e; cases e)]
        exact kp b o (st.keep b o e nt w) nt, fun p z => .inl z, fun b e => by
        by_cases z : b = kS
        · subst z; exact hk1
        · rw [upd_ne z] at e; exact st.trk b (F.trk b e), fun i z => ⟨z, rfl⟩⟩
    have kx : ∀ b o, H b = some o → NTbl o → NExt o → upd H' kS (.ext φ) b = some o := fun b o e nt x => by
      rw [upd_ne (fun z => x φk (Option.some.inj (e.symm.trans (by rw [z]; exact ek))))]
      exact kp b o e nt
    have nt : ∀ {φ : Heap → Prop}, NTbl (.ext φ) := fun ps z => by cases z
    refine keys_run hn hc S1 ha1 hk1 hka fk ck S2 st2 ⟨φa, by rw [upd_ne hka.symm]; exact ea'⟩ ⟨φ, upd_same⟩ (by rw [upd_ne fk]; exact kp _ _ hf nt) (by rw [upd_ne ck]; exact kp _ _ hcc nt) hd2 e3 (pairsAt_snoc ?_ (pairsAt_keep kx pk)) fun H'' ks'' a1 a2 a3 a4 a5 => fin H'' ks'' a1 a2 a3 a4 (by rw [List.append_assoc] at a5; exact a5)
    obtain ⟨hat, _⟩ := hr
    have hat : At G _ H' (.tup [.int p.1, .int p.2]) k := hat
    unfold At at hat
    obtain ⟨b, xs, e5, h5, hl, hs⟩ := hat
    have exs : xs = [V.int p.1, V.int p.2] := hs.ints (ns := [p.1, p.2])
    subst exs
    refine ⟨b, e5, ?_⟩
    rcases h5 with ⟨_, h5⟩ | h5
    · rcases h5 with h5 | ⟨o, h5⟩
      · exact .inl (.inl (by rw [upd_ne (fun z => by rw [z, ek'] at h5; cases h5)]; exact h5))
      · exact .inl (.inr ⟨o, by rw [upd_ne (fun z => by rw [z, ek'] at h5; cases h5)]; exact h5⟩)
    · exact .inr h5
def optX {α β : Type} (st : β) (o : Option α) (k : α → β) : β := match o with
  | some x => k x
  | none => st
theorem optX_of {α β : Type} {st : β} {P : β → Prop} {o : Option α} {k : α → β} (n : ¬ P st) (h : P (optX st o k)) : ∃ x, o = some x ∧ P (k x) := by
  cases o with
  | none => exact absurd h n
  | some x => exact ⟨x, rfl, h⟩
def sortB (js : List Nat) (g : FSem) (ds : List D) (δ : FEnv) : Res := optX .stuck (capsD δ js) fun cs => optX .stuck (keysD g cs ds) fun kv => if sz ds.length = true then .ok (.fr (sortKD kv ds)) δ else .stuck
theorem sort_go {Q : VK} {ds : List D} {vs : List V} (hn : n = 1 + js.length) (S1 : St G Hb O H1 σ δ) (hd : Ats G (Ob O σ δ) H1 ds vs) (h : Post G W Hb O H1 σ δ Q (sortB js g ds δ)) : SortGo G.K G.T js lam body (spL G n g) vs σ H1 Q := by
  obtain ⟨cs, e1, h⟩ := optX_of (st := Res.stuck) (P := Post G W Hb O H1 σ δ Q) (fun z => z) h
  obtain ⟨kv, e2, h⟩ := optX_of (st := Res.stuck) (P := Post G W Hb O H1 σ δ Q) (fun z => z) h
  obtain ⟨e3, h⟩ := Post.ite h
  have hz : vs.length ≤ sizeLine := by rw [hd.length]; exact sz_line e3
  refine ⟨hz, S1.tb, fun f c' H2 eN nn T2 f0 f1 c1 a kS φ φ' R na nk hka hR => ?_⟩
  obtain ⟨S2, _⟩ := S1.keptO (O2 := O) (fun b o e nt => eN b o e nt) nn T2 (fun q z => .inl z) (fun q z => (S1.hid q z).kp fun o e nt => eN _ _ e nt)
  have nk' : upd H2 a (.ext φ) kS = none := by rw [upd_ne hka]; exact nk
  have g0 : Grow H2 (upd (upd H2 a (.ext φ)) kS (.ext φ')) := (Grow.new na).trans (Grow.new nk')
  have S3 := S2.grow g0
  have ha1 : H1 a = none := nn _ na
  have hk1 : H1 kS = none := nn _ nk
  have fk : f ≠ kS := ne_of_none f1 nk
  have ck : c' ≠ kS := ne_of_none c1 nk
  have stp : Stp σ δ H1 σ δ (upd (upd H2 a (.ext φ)) kS (.ext φ')) := ⟨fun b o e nt _ => g0.keep _ _ (eN b o e nt), fun p z => .inl z, fun b e => nn b (g0.trk b e), fun i z => ⟨z, rfl⟩⟩
  refine keys_run (n := n) (g := g) hn e1 S1 ha1 hk1 hka fk ck (kv0 := []) S3 stp ⟨φ, by rw [upd_ne hka.symm]; exact upd_same⟩ ⟨φ', upd_same⟩ (g0.keep _ _ f1) (g0.keep _ _ c1) hd e2 .nil fun H' ks' S' st' ea ek pk => hR ks' H' kv pk fun n1 n2 φ2 => ?_
  obtain ⟨φa, ea⟩ := ea
  obtain ⟨φk, ek⟩ := ek
  obtain ⟨S4, m4⟩ := S'.updX (o := .ext φ2) ek n2
  have ea4 : upd H' kS (.ext φ2) a = some (.ext φa) := by rw [upd_ne hka.symm]; exact ea
  have n4 : NoCode (upd H' kS (.ext φ2)) a := fun q z => n1 q (by rw [upd_ne hka.symm] at z; exact z)
  have hlen : (sortKV kv vs).length ≤ sizeLine := Nat.le_trans (sortKV_len kv vs) hz
  -- the list that is told, hidden
  obtain ⟨S5, m5⟩ := S4.mx (O2 := Oa O a) (H' := upd (upd H' kS (.ext φ2)) a (.lst (sortKV kv vs))) (fun b u e _ x => (upd_ne (fun z => x φa (Option.some.inj ((show upd H' kS (.ext φ2) b = some u from e).symm.trans (by rw [z]; exact ea4))))).trans e)
    (fun b e => by
      by_cases z : b = a
      · subst z; rw [upd_same] at e; cases e
      · rw [upd_ne z] at e; exact e) (tabs_updX S4.tb ea4 n4) (fun q z => by
      rcases z with z | z
      · exact .inl z
      · subst z; exact .inr (.inr ⟨φa, ea4⟩)) (fun q z => by
      rcases z with z | z
      · obtain ⟨u, e, l⟩ := S4.hid q z
        exact ⟨u, by rw [upd_ne (fun y => by rw [y, ea4] at e; cases e; exact l)]; exact e, l⟩
      · subst z; exact LD.l upd_same)
  have hv : Ats G (Ob (Oa O a) σ δ) (upd (upd H' kS (.ext φ2)) a (.lst (sortKV kv vs))) (sortKD kv ds) (sortKV kv vs) := ats_sort (((hd.mv (S1.mv st')).mx m4).mx m5)
  have stF : Stp σ δ H1 σ δ (upd (upd H' kS (.ext φ2)) a (.lst (sortKV kv vs))) := (st'.updNewO hk1).updNewO ha1
  refine h _ _ stF S5.unhide ⟨a, sortKV kv vs, rfl, upd_same, hlen, S1.trb a ha1, fun z => ?_, hv, S5⟩ fun p e => by cases e; exact ha1
  exact S1.nob ha1 z
def mSortRg1 (js : List Nat) (g : FSem) (m : Mz) : Mz := fun δ => (m δ).bind fun r δ1 => intX .stuck r fun i => if rgB 0 i = true then sortB js g (rgD 0 i) δ1 else .stuck
theorem ev_sortRg1 {m : Mz} (hn : n = 1 + js.length) (σ : L2.St) (H : Hp) (Q : VK) (h : Ev G W (mSortRg1 js g m) σ H Q) : tSortRg G.K G.T (tRg1 (Ev G W m)) js lam body (spL G n g) σ H Q := by
  obtain ⟨Hb, O, δ, S, h⟩ := h
  refine ⟨Hb, O, δ, S, Post.bind h fun r δ1 v H1 st1 S1 r1 n1 h1 => ?_⟩
  obtain ⟨i, rfl, h1⟩ := intX_of (st := Res.stuck) (P := Post G W Hb O H1 σ δ1 Q) (fun z => z) h1
  obtain ⟨e, h1⟩ := Post.ite h1
  have r1 : At G (Ob O σ δ1) H1 (.int i) v := r1
  unfold At at r1
  have ok : RgOk 0 i := by
    unfold rgB at e
    have e := of_decide_eq_true e
    exact e
  exact ⟨i, r1, ok, sort_go hn S1 ats_rg h1⟩
def seqLD : D → Option (List D)
  | .lst ds => some ds
  | .scr ns => some (ns.map .int)
  | _ => none
def mSortL (js : List Nat) (g : FSem) (m : Mz) : Mz := fun δ => (m δ).bind fun r δ1 => viewB δ1 r fun d => optX .stuck (seqLD d) fun ds => sortB js g ds δ1
theorem ev_sortL {m : Mz} (hn : n = 1 + js.length) (σ : L2.St) (H : Hp) (Q : VK) (h : Ev G W (mSortL js g m) σ H Q) : tSortL G.K G.T (Ev G W m) js lam body (spL G n g) σ H Q := by
  obtain ⟨Hb, O, δ, S, h⟩ := h
  refine ⟨Hb, O, δ, S, Post.bind h fun r δ1 v H1 st1 S1 r1 n1 h1 => ?_⟩
  obtain ⟨d, ev, h1⟩ := Post.viewB h1
  obtain ⟨ds, e, h1⟩ := optX_of (st := Res.stuck) (P := Post G W Hb O H1 σ δ1 Q) (fun z => z) h1
  have hx := S1.view r1 ev
  cases d with
  | lst es =>
    cases Option.some.inj e
    obtain ⟨p, vs, rfl, q1, q2, ql, hs⟩ := at0_lst hx
    exact ⟨p, vs, rfl, q2, sort_go hn S1 hs h1⟩
  | scr ns =>
    cases Option.some.inj e
    obtain ⟨p, rfl, q2, ql⟩ := at0_scr hx
    exact ⟨p, _, rfl, q2, sort_go hn S1 (Ats.of_ints ns) h1⟩
  | _ => cases e
end
end DL
/-! DLK: one rule a construct, by data. -/
namespace DL
open PySem PySem.Spec PyProof.Rows L2 LamX NdefX
/-! ### a tuple of targets -/
def sAsgT (t : Tz) (m : Mz) : Sz := fun δ => (m δ).bindS fun r δ1 => gvX .stuck (give δ1 r) fun d δ2 => outO (t d δ2)
theorem sv_asgT {G : Ctx} {W : WX} {t : Tz} {g : TG} {vs : List Nat} {m : Mz} (ht : Tv G vs t g) (D : Ends) (σ : L2.St) (H : Hp) (h : Sv G W (sAsgT t m) D σ H) : tAsg (Ev G W m) g D σ H := by
  obtain ⟨Hb, O, δ, S, h⟩ := h
  refine ⟨Hb, O, δ, S, PostS.bind h fun r δ1 v H1 st1 S1 r1 n1 h1 => ?_⟩
  obtain ⟨d, δ2, e1, h2⟩ := gvX_of (st := Out.stuck) (P := PostS G W Hb O H1 σ δ1 D) (fun z => z) h1
  obtain ⟨δ3, e2, h2⟩ := PostS.outO h2
  obtain ⟨S2, st2, a2⟩ := S1.give r1.w e1
  exact ht d v δ2 δ3 Hb O H1 σ _ S2 a2 e2 fun σ' S3 st3 _ _ => h2 σ' H1 (st2.trans st3) S3
section
variable {X : Cx} {G : Ctx} {W : WX} {pos : Pos}
/-! ### expressions -/
abbrev PEv (X : Cx) (G : Ctx) (W : WX) (e : Expr) (m : Mz) : Prop := PE X e (Ev G W m)
abbrev PTv (X : Cx) (G : Ctx) (W : WX) (e : Expr) (m : Mz) : Prop := PT X e (EvT G W m)
abbrev PAv (X : Cx) (G : Ctx) (W : WX) (es : List Expr) (ms : List Mz) : Prop := PA X es (EvA G W ms)
abbrev PSv (X : Cx) (G : Ctx) (W : WX) (s : Stmt) (m : Sz) : Prop := PS X s (Sv G W m)
abbrev PSsv (X : Cx) (G : Ctx) (W : WX) (s : List Stmt) (m : Sz) : Prop := PSs X s (Sv G W m)
abbrev PIv (X : Cx) (G : Ctx) (W : WX) (tg e : Expr) (m : Iz) : Prop := PI X tg e (Ev' G W m)
variable {a b c : Expr} {ma mb mc : Mz} {es : List Expr} {ms : List Mz}
theorem be_gi {x : Str} {i : Int} {t : Tok} (hg : Gl X x) (hm : X.mg x = some (.int i t)) (hd : (x == ("__debug__" : Str)) = false := by decide) : PEv X G W (.Name x pos) (mC (.int i)) := PE.mono (pe_glob (v := .int i) hg hm ⟨t, rfl⟩ hd) (ev_c fun _ _ => at_int)
theorem be_gs {x : Str} {i : Str} {t : Tok} (hg : Gl X x) (hm : X.mg x = some (.str i t)) (hd : (x == ("__debug__" : Str)) = false := by decide) : PEv X G W (.Name x pos) (mC (.str i)) := PE.mono (pe_glob (v := .str i) hg hm ⟨t, rfl⟩ hd) (ev_c fun _ _ => by unfold At; rfl)
theorem be_add (hK : G.K = X.K) (ha : PEv X G W a ma) (hb : PEv X G W b mb) : PEv X G W (.BinOp a .Add b pos) (mBin dAdd ma mb) := PE.mono (pe_op or_add ha hb) (by rw [← hK]; exact ev_bin od_add)
theorem be_sub (ha : PEv X G W a ma) (hb : PEv X G W b mb) : PEv X G W (.BinOp a .Sub b pos) (mBin dSub ma mb) := PE.mono (pe_op op_sub ha hb) (ev_bin od_sub)
theorem be_mul (ha : PEv X G W a ma) (hb : PEv X G W b mb) : PEv X G W (.BinOp a .Mult b pos) (mBin dMul ma mb) := PE.mono (pe_op or_mul ha hb) (ev_bin od_mul)
theorem be_fdv (ha : PEv X G W a ma) (hb : PEv X G W b mb) : PEv X G W (.BinOp a .FloorDiv b pos) (mBin dFdv ma mb) := PE.mono (pe_op op_fdivW ha hb) (ev_bin od_fdv)
theorem be_mod (ha : PEv X G W a ma) (hb : PEv X G W b mb) : PEv X G W (.BinOp a .Mod b pos) (mBin dMod ma mb) := PE.mono (pe_op op_mod ha hb) (ev_bin od_mod)
theorem be_pow (ha : PEv X G W a ma) (hb : PEv X G W b mb) : PEv X G W (.BinOp a .Pow b pos) (mBin dPow ma mb) := PE.mono (pe_op op_powW ha hb) (ev_bin od_pow)
theorem be_lt (ha : PEv X G W a ma) (hb : PEv X G W b mb) (hm : behindInMarks .Lt b = false := by first | exact nomark _ | rfl) : PEv X G W (.Compare a [.Lt] [b] pos) (mBin dLt ma mb) := PE.mono (pe_cmpR op_lt ha hb hm) (ev_bin od_cI)
theorem be_le (ha : PEv X G W a ma) (hb : PEv X G W b mb) (hm : behindInMarks .LtE b = false := by first | exact nomark _ | rfl) : PEv X G W (.Compare a [.LtE] [b] pos) (mBin dLe ma mb) := PE.mono (pe_cmpR op_le ha hb hm) (ev_bin od_cI)
theorem be_gt (ha : PEv X G W a ma) (hb : PEv X G W b mb) (hm : behindInMarks .Gt b = false := by first | exact nomark _ | rfl) : PEv X G W (.Compare a [.Gt] [b] pos) (mBin dGt ma mb) := PE.mono (pe_cmpR op_gt ha hb hm) (ev_bin od_cI)
theorem be_ge (ha : PEv X G W a ma) (hb : PEv X G W b mb) (hm : behindInMarks .GtE b = false := by first | exact nomark _ | rfl) : PEv X G W (.Compare a [.GtE] [b] pos) (mBin dGe ma mb) := PE.mono (pe_cmpR op_ge ha hb hm) (ev_bin od_cI)
theorem be_eq (hK : G.K = X.K) (hu : X.A.units + 64 < cLine) (ha : PEv X G W a ma) (hb : PEv X G W b mb) (hm : behindInMarks .Eq b = false := by first | exact nomark _ | rfl) : PEv X G W (.Compare a [.Eq] [b] pos) (mBin dEq ma mb) := PE.mono (pe_cmpR (or_eq hu) ha hb hm) (by rw [← hK]; exact ev_bin od_eq)
theorem be_ne (hK : G.K = X.K) (hu : X.A.units + 64 < cLine) (ha : PEv X G W a ma) (hb : PEv X G W b mb) (hm : behindInMarks .NotEq b = false := by first | exact nomark _ | rfl) : PEv X G W (.Compare a [.NotEq] [b] pos) (mBin dNe ma mb) := PE.mono (pe_cmpR (or_ne hu) ha hb hm) (by rw [← hK]; exact ev_bin od_ne)
theorem be_in (hK : G.K = X.K) (ha : PEv X G W a ma) (hb : PEv X G W b mb) (hm : behindInMarks .In b = false := by first | exact nomark _ | rfl) : PEv X G W (.Compare a [.In] [b] pos) (mBin (dIn false) ma mb) := PE.mono (pe_cmpR op_in_seq ha hb hm) (by rw [← hK]; exact ev_bin od_in)
theorem be_notIn (hK : G.K = X.K) (ha : PEv X G W a ma) (hb : PEv X G W b mb) (hm : behindInMarks .NotIn b = false := by first | exact nomark _ | rfl) : PEv X G W (.Compare a [.NotIn] [b] pos) (mBin (dIn true) ma mb) := PE.mono (pe_cmpR op_notIn_seq ha hb hm) (by rw [← hK]; exact ev_bin od_in)
theorem be_is (ha : PEv X G W a ma) (hb : PEv X G W b mb) (hm : behindInMarks .Is b = false := by first | exact nomark _ | rfl) : PEv X G W (.Compare a [.Is] [b] pos) (mBin (dIs false) ma mb) := PE.mono (pe_cmpR or_is ha hb hm) (ev_bin od_is)
theorem be_isNot (ha : PEv X G W a ma) (hb : PEv X G W b mb) (hm : behindInMarks .IsNot b = false := by first | exact nomark _ | rfl) : PEv X G W (.Compare a [.IsNot] [b] pos) (mBin (dIs true) ma mb) := PE.mono (pe_cmpR or_isNot ha hb hm) (ev_bin od_isNot)
theorem be_chLtLe (ha : PEv X G W a ma) (hb : PEv X G W b mb) (hc : PEv X G W c mc) (hm : lastMarks [.Lt, .LtE] [b, c] = false := by with_unfolding_all rfl) : PEv X G W (.Compare a [.Lt, .LtE] [b, c] pos) (mChain dLt dLe ma mb mc) := PE.mono (pe_chain op_lt op_le ha hb hc hm) (ev_chain od_cI od_cI)
theorem be_chLeLe (ha : PEv X G W a ma) (hb : PEv X G W b mb) (hc : PEv X G W c mc) (hm : lastMarks [.LtE, .LtE] [b, c] = false := by with_unfolding_all rfl) : PEv X G W (.Compare a [.LtE, .LtE] [b, c] pos) (mChain dLe dLe ma mb mc) := PE.mono (pe_chain op_le op_le ha hb hc hm) (ev_chain od_cI od_cI)
theorem be_and {rest : List Expr} (ha : PEv X G W a ma) (hb : PEv X G W (.BoolOp .And (b :: rest) pos) mb) : PEv X G W (.BoolOp .And (a :: b :: rest) pos) (mAnd ma mb) := PE.mono (pe_and ha hb) ev_and
theorem be_or {rest : List Expr} (ha : PEv X G W a ma) (hb : PEv X G W (.BoolOp .Or (b :: rest) pos) mb) : PEv X G W (.BoolOp .Or (a :: b :: rest) pos) (mOr ma mb) := PE.mono (pe_or ha hb) ev_or
theorem be_one {op : BoolOp} (ha : PEv X G W a ma) : PEv X G W (.BoolOp op [a] pos) ma := pe_one ha
theorem be_not (ha : PEv X G W a ma) : PEv X G W (.UnaryOp .Not a pos) (mNot ma) := PE.mono (pe_not ha) ev_not
theorem be_if (hc : PTv X G W c mc) (ha : PEv X G W a ma) (hb : PEv X G W b mb) : PEv X G W (.IfExp c a b pos) (mIf mc ma mb) := PE.mono (pe_ifExp hc ha hb) ev_if
theorem be_ix (hK : G.K = X.K) (ha : PEv X G W a ma) (hb : PEv X G W b mb) (hs : PlainIx b := by exact fun _ _ => rfl) : PEv X G W (.Subscript a b pos) (mBin dIx ma mb) := PE.mono (pe_ix ix_seq ha hb hs) (by rw [← hK]; exact ev_bin od_ix)
theorem ba_nil : PAv X G W [] [] := PA.mono pa_nil ea_nil
theorem ba_cons (h : PEv X G W a ma) (t : PAv X G W es ms) (he : starEach (a :: es) X.env = (false, eval a X.env) :: starEach es X.env := by rfl) : PAv X G W (a :: es) (ma :: ms) := PA.mono (pa_cons h t he) ea_cons
theorem bk_nil : PK X [] (EvA G W []) := PK.mono pk_nil ea_nil
theorem bk_cons {nm : Option Str} {kpos : Pos} {kws : List Keyword} (h : PEv X G W a ma) (t : PK X kws (EvA G W ms)) : PK X (⟨nm, a, kpos⟩ :: kws) (EvA G W (ma :: ms)) := PK.mono (pk_cons h t) ea_cons
theorem be_tup {k : Nat} (h : PAv X G W es ms) (h2 : PE X (.Tuple es k pos) (tTup (EvA G W ms))) : PEv X G W (.Tuple es k pos) (mTup ms) := PE.mono h2 ev_tup
theorem be_isi {p : Pos} {x : Str} {n : String} (hK : G.K = X.K) (hg : Gl X "isinstance") (hm : X.mg "isinstance" = none) (hgx : Gl X x) (hmx : X.mg x = none) (hv : bootBuiltins x = some (.type n)) (hn : x ≠ "__name__") (ha : PEv X G W a ma) {q : Pos}
    (hdb : (x == ("__debug__" : Str)) = false := by decide) (he1 : starEach [a, .Name x q] X.env = (false, eval a X.env) :: starEach [.Name x q] X.env := by rfl) (he2 : starEach [.Name x q] X.env = (false, eval (.Name x q) X.env) :: starEach [] X.env := by rfl) (hpl : (backTo pos (starEach [.Name x q] X.env)).any (·.1) = false := by rfl) :
    PEv X G W (.Call (.Name "isinstance" p) [a, .Name x q] [] pos) (mUn (dIsi n) ma) :=
  PE.mono (pe_callB call_isi hg hm PyProof.Rows.boot_isinstance (pa_cons ha (pa_cons (pe_bltn (v := .ty n) hgx hmx hv rfl hn hdb) pa_nil he2) he1) (by decide) (by decide) he1 hpl) (by rw [← hK]; exact ev_isi)
/-- built-in functions -/
theorem be_cb {x : Str} {id : String} {p : Pos} {rr : List V → Hp → VK → Prop} {f : List D → Option Rz} (hc : CallR X (.builtin id) rr) (op : CallD G rr f) (hg : Gl X x) (hm : X.mg x = none) (hv : bootBuiltins x = some (.builtin id)) (ha : PAv X G W (a :: es) ms) (hn : x ≠ "__name__" := by decide) (hdb : (x == ("__debug__" : Str)) = false := by decide)
    (he : starEach (a :: es) X.env = (false, eval a X.env) :: starEach es X.env := by rfl) (hpl : (backTo pos (starEach es X.env)).any (·.1) = false := by rfl) : PEv X G W (.Call (.Name x p) (a :: es) [] pos) (mCB f ms) :=
  PE.mono (pe_callB hc hg hm hv ha hn hdb he hpl) (ev_cb op)
theorem be_ct {x : Str} {T : String} {p : Pos} {rr : List V → Hp → VK → Prop} {f : List D → Option Rz} (hc : CallR X (.type T) rr) (op : CallD G rr f) (hg : Gl X x) (hm : X.mg x = none) (hv : bootBuiltins x = some (.type T)) (ha : PAv X G W (a :: es) ms) (hn : x ≠ "__name__" := by decide) (hdb : (x == ("__debug__" : Str)) = false := by decide)
    (he : starEach (a :: es) X.env = (false, eval a X.env) :: starEach es X.env := by rfl) (hpl : (backTo pos (starEach es X.env)).any (·.1) = false := by rfl) : PEv X G W (.Call (.Name x p) (a :: es) [] pos) (mCB f ms) :=
  PE.mono (pe_callTy hc hg hm hv ha hn hdb he hpl) (ev_cb op)
/-- a def -/
theorem be_call {x : Str} {k n : Nat} {f : Addr} {fd : FuncData} {ps : List Str} {pf : Bool} {fs : FSem} {p : Pos} (F : FnOk X.prog X.w X.K X.mg X.base (L2.CX X.prog X.w) k f fd ps (spOf G n pf fs)) (hr : Room k X.A) (hg : Gl X x) (hm : X.mg x = some (.ref f)) (hk : PySem.W.keepIn X.K (.ref f) = true) (hb : Binds X.K fd ps [])
    (hx : Takes X W) (hn : ms.length = n) (ha : PAv X G W (a :: es) ms) (hdb : (x == ("__debug__" : Str)) = false := by decide) (he : starEach (a :: es) X.env = (false, eval a X.env) :: starEach es X.env := by rfl) (hpl : (backTo pos (starEach es X.env)).any (·.1) = false := by rfl) :
    PEv X G W (.Call (.Name x p) (a :: es) [] pos) (mCall pf fs ms) :=
  PE.mono (pe_callS (E := WE W) F hr hg hm hk hb (fun σ => passAt hx σ) ha hdb he hpl) (ev_call hn)
theorem be_callK {x : Str} {k n : Nat} {f : Addr} {fd : FuncData} {ps : List Str} {pf : Bool} {fs : FSem} {p : Pos} {kws : List Keyword} (F : FnOk X.prog X.w X.K X.mg X.base (L2.CX X.prog X.w) k f fd ps (spOf G n pf fs)) (hr : Room k X.A) (hg : Gl X x) (hm : X.mg x = some (.ref f)) (hk : PySem.W.keepIn X.K (.ref f) = true)
    (hb : ∀ (s : Shared) (ws : List Value), X.K.In s.heap → ws.length = ps.length → BindsTo s fd ⟨[], ps.zip ws⟩ (ps.zip ws)) (hx : Takes X W) (hn : ms.length = n) (ha : PK X kws (EvA G W ms)) (hall : (backToKw pos (keywordEach kws X.env)).all (·.1.isSome) = true := by rfl) (hks : (backToKw pos (keywordEach kws X.env)).filterMap (·.1) = ps := by rfl)
    (hdb : (x == ("__debug__" : Str)) = false := by decide) (hpl : ((backTo pos (starEach [] X.env)).any (·.1) || (backToKw pos (keywordEach kws X.env)).any (·.1.isNone)) = false := by rfl) :
    PEv X G W (.Call (.Name x p) [] kws pos) (mCall pf fs ms) :=
  PE.mono (pe_callK0S (E := WE W) F hr hg hm hk hb (fun σ => passAt hx σ) ha hall hks hdb hpl) (ev_call hn)
end
end DL
/-! DLL: one rule a construct, by data: tests, displays, comprehensions, statements. -/
namespace DL
open PySem PySem.Spec PyProof.Rows L2 LamX NdefX
section
variable {X : Cx} {G : Ctx} {W : WX} {pos : Pos} {a b c : Expr} {ma mb mc : Mz} {es : List Expr} {ms : List Mz}
theorem be_lst (h : PAv X G W es ms) : PEv X G W (.List es pos) (mLst ms) := PE.mono (pe_lst h) ev_lst
theorem be_tu {k : Nat} (h : PAv X G W es ms) : PEv X G W (.Tuple es k pos) (mTup ms) := PE.mono (pe_tup h) ev_tup
theorem bo_none : PO X none (EvO G W none) := po_none
theorem bo_some (h : PEv X G W a ma) : PO X (some a) (EvO G W (some ma)) := po_some h
theorem be_sl {lo hi : Option Expr} {ml mh : Option Mz} {p2 : Pos} (hK : G.K = X.K) (ha : PEv X G W a ma) (hl : PO X lo (EvO G W ml)) (hh : PO X hi (EvO G W mh)) : PEv X G W (.Subscript a (.Slice lo hi none p2) pos) (mSl ma ml mh) := PE.mono (pe_slice or_sl ha hl hh) (by rw [← hK]; exact ev_sl)
theorem be_app {j : Nat} {x : Str} {p apos : Pos} (hK : G.K = X.K) (hN : X.N[j]? = some x) (hv : Vis X.env.scope x) (h : PEv X G W a ma) (hd : (x == ("__debug__" : Str)) = false := by decide) (hcd : (x == ("__classdict__" : Str)) = false := by decide)
    (he : starEach [a] X.env = (false, eval a X.env) :: starEach [] X.env := by rfl)
    (hbase : attributeBase (.Name x p) "append" X.env (eval (.Name x p) X.env) = eval (.Name x p) X.env := by rfl)
    (hfew : ((backTo pos (starEach [a] X.env)).all (fun x => !x.1) && (backToKw pos (keywordEach [] X.env)).all (fun x => x.1.isSome)
      && decide (([a] : List Expr).length + ([] : List Keyword).length + (if ([] : List Keyword).isEmpty then 0 else 1) < 30)) = true := by rfl)
    (hline : (apos.endLine == pos.line) = true := by rfl) : PEv X G W (.Call (.Attribute (.Name x p) "append" apos) [a] [] pos) (mApp j ma) :=
  PE.mono (pe_bm PySem.F.plainAttrs_list PySem.F.slot_list_append PySem.F.type_list_append mt_append (pe_var hN hv hd hcd) (pa_cons h pa_nil he) hbase hfew hline he (by rfl)) (by rw [← hK]; exact ev_app)
/-! ### tests -/
theorem bt_val (h : PEv X G W a ma) (he : ∀ whole, isTrue a X.env whole = (do let v ← whole; standAt a.pos; holding [v] (truthy v)) := by intro _; rfl) : PTv X G W a ma := pt_val h he
theorem bt_not (h : PTv X G W a ma) : PTv X G W (.UnaryOp .Not a pos) (mNot ma) := PT.mono (pt_not h) et_not
abbrev PWv (X : Cx) (G : Ctx) (W : WX) (e : Expr) (m : Mz) : Prop := PW X e (EvT G W m)
theorem PW.mono {e : Expr} {t t' : TT} (h : PW X e t) (k : ∀ σ H Q, t' σ H Q → t σ H Q) : PW X e t' := ⟨fun wh pins s σ H Q I q => h.run wh pins s σ H Q I (k σ H Q q)⟩
theorem bw_and1 (h : PTv X G W a ma) : PWv X G W (.BoolOp .And [a] pos) ma := pw_and1 h
theorem bw_or1 (h : PTv X G W a ma) : PWv X G W (.BoolOp .Or [a] pos) ma := pw_or1 h
theorem bw_and {rest : List Expr} (h : PTv X G W a ma) (t : PWv X G W (.BoolOp .And (b :: rest) pos) mb) : PWv X G W (.BoolOp .And (a :: b :: rest) pos) (mAnd ma mb) := PW.mono (pw_and h t) et_and
theorem bw_or {rest : List Expr} (h : PTv X G W a ma) (t : PWv X G W (.BoolOp .Or (b :: rest) pos) mb) : PWv X G W (.BoolOp .Or (a :: b :: rest) pos) (mOr ma mb) := PW.mono (pw_or h t) et_or
theorem bt_w (h : PWv X G W a ma) : PTv X G W a ma := h.pt
theorem bt_lt (ha : PEv X G W a ma) (hb : PEv X G W b mb) (hm : behindInMarks .Lt b = false := by first | exact nomark _ | rfl) : PTv X G W (.Compare a [.Lt] [b] pos) (mBin dLt ma mb) := PT.mono (pt_cmpR op_lt ha hb hm) fun σ H Q h => ev_bin od_cI σ H _ h
theorem bt_le (ha : PEv X G W a ma) (hb : PEv X G W b mb) (hm : behindInMarks .LtE b = false := by first | exact nomark _ | rfl) : PTv X G W (.Compare a [.LtE] [b] pos) (mBin dLe ma mb) := PT.mono (pt_cmpR op_le ha hb hm) fun σ H Q h => ev_bin od_cI σ H _ h
theorem bt_gt (ha : PEv X G W a ma) (hb : PEv X G W b mb) (hm : behindInMarks .Gt b = false := by first | exact nomark _ | rfl) : PTv X G W (.Compare a [.Gt] [b] pos) (mBin dGt ma mb) := PT.mono (pt_cmpR op_gt ha hb hm) fun σ H Q h => ev_bin od_cI σ H _ h
theorem bt_ge (ha : PEv X G W a ma) (hb : PEv X G W b mb) (hm : behindInMarks .GtE b = false := by first | exact nomark _ | rfl) : PTv X G W (.Compare a [.GtE] [b] pos) (mBin dGe ma mb) := PT.mono (pt_cmpR op_ge ha hb hm) fun σ H Q h => ev_bin od_cI σ H _ h
theorem bt_eq (hK : G.K = X.K) (hu : X.A.units + 64 < cLine) (ha : PEv X G W a ma) (hb : PEv X G W b mb) (hm : behindInMarks .Eq b = false := by first | exact nomark _ | rfl) : PTv X G W (.Compare a [.Eq] [b] pos) (mBin dEq ma mb) := PT.mono (pt_cmpR (or_eq hu) ha hb hm) fun σ H Q h => by rw [← hK]; exact ev_bin od_eq σ H _ h
theorem bt_ne (hK : G.K = X.K) (hu : X.A.units + 64 < cLine) (ha : PEv X G W a ma) (hb : PEv X G W b mb) (hm : behindInMarks .NotEq b = false := by first | exact nomark _ | rfl) : PTv X G W (.Compare a [.NotEq] [b] pos) (mBin dNe ma mb) := PT.mono (pt_cmpR (or_ne hu) ha hb hm) fun σ H Q h => by rw [← hK]; exact ev_bin od_ne σ H _ h
theorem bt_in (hK : G.K = X.K) (ha : PEv X G W a ma) (hb : PEv X G W b mb) (hm : behindInMarks .In b = false := by first | exact nomark _ | rfl) : PTv X G W (.Compare a [.In] [b] pos) (mBin (dIn false) ma mb) := PT.mono (pt_cmpR op_in_seq ha hb hm) fun σ H Q h => by rw [← hK]; exact ev_bin od_in σ H _ h
theorem bt_notIn (hK : G.K = X.K) (ha : PEv X G W a ma) (hb : PEv X G W b mb) (hm : behindInMarks .NotIn b = false := by first | exact nomark _ | rfl) : PTv X G W (.Compare a [.NotIn] [b] pos) (mBin (dIn true) ma mb) := PT.mono (pt_cmpR op_notIn_seq ha hb hm) fun σ H Q h => by rw [← hK]; exact ev_bin od_in σ H _ h
theorem bt_is (ha : PEv X G W a ma) (hb : PEv X G W b mb) (hm : behindInMarks .Is b = false := by first | exact nomark _ | rfl) : PTv X G W (.Compare a [.Is] [b] pos) (mBin (dIs false) ma mb) := PT.mono (pt_cmpR or_is ha hb hm) fun σ H Q h => ev_bin od_is σ H _ h
theorem bt_isNot (ha : PEv X G W a ma) (hb : PEv X G W b mb) (hm : behindInMarks .IsNot b = false := by first | exact nomark _ | rfl) : PTv X G W (.Compare a [.IsNot] [b] pos) (mBin (dIs true) ma mb) := PT.mono (pt_cmpR or_isNot ha hb hm) fun σ H Q h => ev_bin od_isNot σ H _ h
theorem bt_chLtLe (ha : PEv X G W a ma) (hb : PEv X G W b mb) (hc : PEv X G W c mc) (hm : lastMarks [.Lt, .LtE] [b, c] = false := by with_unfolding_all rfl) : PTv X G W (.Compare a [.Lt, .LtE] [b, c] pos) (mChain dLt dLe ma mb mc) := PT.mono (pt_chain op_lt op_le ha hb hc hm) fun σ H Q h => ev_chain od_cI od_cI σ H _ h
theorem bt_chLeLe (ha : PEv X G W a ma) (hb : PEv X G W b mb) (hc : PEv X G W c mc) (hm : lastMarks [.LtE, .LtE] [b, c] = false := by with_unfolding_all rfl) : PTv X G W (.Compare a [.LtE, .LtE] [b, c] pos) (mChain dLe dLe ma mb mc) := PT.mono (pt_chain op_le op_le ha hb hc hm) fun σ H Q h => ev_chain od_cI od_cI σ H _ h
/-! ### what is walked -/
variable {tg : Expr}
theorem bi_val (hK : G.K = X.K) (h : PEv X G W a ma) : PIv X G W tg a (iVal ma) := PI.mono (t := iLT X.K (Ev G W ma)) (DL.PI.orr (pi_list h) (pi_tup h)) (by rw [← hK]; exact iv_val)
theorem bi_range1 {p : Pos} (hg : Gl X "range") (hm : X.mg "range" = none) (h : PEv X G W a ma) (hs : starEach [a] X.env = [(false, eval a X.env)] := by rfl) : PIv X G W tg (.Call (.Name "range" p) [a] [] pos) (iRange1 ma) := PI.mono (pi_range1 hg hm (ba_cons h ba_nil hs) hs) iv_range1
theorem bi_range2 {p : Pos} (hg : Gl X "range") (hm : X.mg "range" = none) (h : PAv X G W [a, b] [ma, mb]) (hs : starEach [a, b] X.env = [(false, eval a X.env), (false, eval b X.env)] := by rfl) (hs2 : starEach [b] X.env = [(false, eval b X.env)] := by rfl) : PIv X G W tg (.Call (.Name "range" p) [a, b] [] pos) (iRange2 ma mb) := PI.mono (pi_range2 hg hm h hs hs2) iv_range2
theorem bi_enum {p tpos : Pos} {elts : List Expr} {kk : Nat} (hK : G.K = X.K) (hg : Gl X "enumerate") (hm : X.mg "enumerate" = none) (h : PEv X G W a ma) (hs : starEach [a] X.env = [(false, eval a X.env)] := by rfl) : PIv X G W (.Tuple elts kk tpos) (.Call (.Name "enumerate" p) [a] [] pos) (iEnum1 ma) := PI.mono (pi_enumK hg hm (ba_cons h ba_nil hs) hs) (by rw [← hK]; exact iv_enum)
theorem bi_zip {p tpos : Pos} {elts : List Expr} {kk : Nat} (hK : G.K = X.K) (hg : Gl X "zip") (hm : X.mg "zip" = none) (h : PAv X G W [a, b] [ma, mb]) (hs : starEach [a, b] X.env = (false, eval a X.env) :: starEach [b] X.env := by rfl) (hpl : (backTo pos (starEach [b] X.env)).any (·.1) = false := by rfl) : PIv X G W (.Tuple elts kk tpos) (.Call (.Name "zip" p) [a, b] [] pos) (iZip2 ma mb) := PI.mono (pi_zipK hg hm h hs hpl) (by rw [← hK]; exact iv_zip)
/-! ### comprehensions -/
theorem bc_none {Y : Cx} : PTs Y [] (EvC G none) := pts_nil
theorem bc_some {Y : Cx} (h : PTv Y G W0 c mc) : PTs Y [c] (EvC G (some mc)) := pts_one h
theorem be_lc {elt iter : Expr} {ifs : List Expr} {scope : Scope} {own : List (Str × Nat)} {it : Iz} {t : Tz} {g : TG} {cc : Option Mz} {e : Mz} (hc : X.calm = true) (hN : X.N.Nodup) (hi : PIv X G W tg iter it) (ok : blkC X.N X.env.scope scope own = true)
    (hg : ∀ (s : Shared) (H : Hp) (C : Addr) (cl : List (Str × Addr)) (fp : List Addr), PG (X.blk s H scope (compEnvC scope cl C X.env) fp) tg g) (ht : ∀ (s : Shared) (H : Hp) (C : Addr) (cl : List (Str × Addr)) (fp : List Addr), PTs (X.blk s H scope (compEnvC scope cl C X.env) fp) ifs (EvC G cc))
    (he : ∀ (s : Shared) (H : Hp) (C : Addr) (cl : List (Str × Addr)) (fp : List Addr), PEv (X.blk s H scope (compEnvC scope cl C X.env) fp) G W0 elt e) (tv : Tv G (own.map (·.2)) t g) (hs : ∀ x, foldedSetIterable iter X.env x = pure x := by intro _; rfl) :
    PEv X G W (.ListComp elt [⟨tg, iter, ifs, 0⟩] scope pos) (mComp it t cc e (own.map (·.2))) := PE.mono (pe_lc hc hN hi (blkOk_by ok) hg ht he hs) (ev_comp tv)
/-! ### statements -/
variable {s : Stmt} {ss sr : List Stmt} {m m' : Sz}
theorem bss_nil : PSsv X G W [] sNext := PSs.mono pss_nil sv_next
theorem bss_one (h : PSv X G W s m) : PSsv X G W [s] m := pss_one h
theorem bss_cons (h : PSv X G W s m) (t : PSsv X G W sr m') : PSsv X G W (s :: sr) (sSeq m m') := PSs.mono (pss_cons h t) sv_seq
theorem bss_never : PSsv X G W ss sNever := PSs.mono pss_never sv_never
theorem bs_never : PSv X G W s sNever := PS.mono ps_never sv_never
theorem bs_ret (h : PEv X G W a ma) : PSv X G W (.Return (some a) pos) (sRet ma) := PS.mono (ps_ret h) sv_ret
theorem bs_expr (h : PEv X G W a ma) (hs : swapsWith a none pos.line X.env = pure false := by rfl) : PSv X G W (.Expr a pos) (sExpr ma) := PS.mono (ps_expr h hs) sv_expr
theorem bs_if (hc : PTv X G W c mc) (ha : PSsv X G W ss m) (hb : PSsv X G W sr m') : PSv X G W (.If c ss sr pos) (sIf mc m m') := PS.mono (ps_if hc ha hb) sv_if
theorem bs_set {i : Nat} {x : Str} {pos' : Pos} (hN : X.N.Nodup) (hi : X.N[i]? = some x) (hx : Loc X.env.scope x) (h : PEv X G W a ma) (hs : swapsWith a (some (.Name x pos')) pos.line X.env = pure false := by rfl) (hf : X.fn x = true ∨ X.env.scope.names.lookup x = some .local := by first | exact .inl rfl | exact .inr rfl) : PSv X G W (.Assign [.Name x pos'] a pos) (sSet i ma) := PS.mono (ps_set hN hi hx h hs hf) sv_set
theorem bs_setLc {i : Nat} {y : Str} {py : Pos} {elt iter : Expr} {ifs : List Expr} {scope : Scope} {own : List (Str × Nat)} {spos : Pos} {it : Iz} {t : Tz} {g : TG} {cc : Option Mz} {e : Mz} (hc : X.calm = true) (hN : X.N.Nodup) (hy : X.N[i]? = some y) (hyl : X.env.scope.names.lookup y = some .local)
    (hsw : swapsWith (.ListComp elt [⟨tg, iter, ifs, 0⟩] scope pos) (some (.Name y py)) spos.line X.env = pure true) (hi : PIv X G W tg iter it) (ok : blkC X.N X.env.scope scope own = true)
    (hg : ∀ (s : Shared) (H : Hp) (C : Addr) (cl : List (Str × Addr)) (fp : List Addr), PG (X.blk s H scope (compEnvC scope cl C X.env) fp) tg g) (ht : ∀ (s : Shared) (H : Hp) (C : Addr) (cl : List (Str × Addr)) (fp : List Addr), PTs (X.blk s H scope (compEnvC scope cl C X.env) fp) ifs (EvC G cc))
    (he : ∀ (s : Shared) (H : Hp) (C : Addr) (cl : List (Str × Addr)) (fp : List Addr), PEv (X.blk s H scope (compEnvC scope cl C X.env) fp) G W0 elt e) (tv : Tv G (own.map (·.2)) t g) (hs : ∀ x, foldedSetIterable iter X.env x = pure x := by intro _; rfl) :
    PSv X G W (.Assign [.Name y py] (.ListComp elt [⟨tg, iter, ifs, 0⟩] scope pos) spos) (sSet i (mComp it t cc e (own.map (·.2)))) :=
  PS.mono (ps_setLc hc hN hy hyl hsw hi (blkOk_by ok) hg ht he hs) fun D σ H h => ev_comp tv σ H _ (sv_set D σ H h)
theorem bs_for {iter : Expr} {it : Iz} {t : Tz} {g : TG} {vs : List Nat} (hp : PassesOwn (model X.prog X.w) X.A X.env X.xe) (hc : X.calm = true) (hi : PIv X G W tg iter it) (hg : PG X tg g) (tv : Tv G vs t g) (hb : PSsv X G W ss m) (hs : ∀ x, foldedSetIterable iter X.env x = pure x := by intro _; rfl) :
    PSv X G W (.For tg iter ss [] pos) (sFor it t m) := PS.mono (ps_for hp hc hi hg hb hs) (sv_for tv)
theorem bs_setIx {j : Nat} {x : Str} {p p2 : Pos} (hN : X.N[j]? = some x) (hv : Vis X.env.scope x) (hi : PEv X G W b mb) (h : PEv X G W a ma) (hd : (x == ("__debug__" : Str)) = false := by decide) (hcd : (x == ("__classdict__" : Str)) = false := by decide)
    (ha : ∀ v, assign (.Subscript (.Name x p) b p2) X.env v = (do
      let ov ← holding [v] (eval (.Name x p) X.env)
      let iv ← holding [v, ov] (eval b X.env)
      standAt p2
      holding [v, ov, iv] (setItem ov iv v)
      release [v, ov, iv] []) := by intro _; rfl) (hs : swapsWithSole [.Subscript (.Name x p) b p2] a pos.line X.env = pure false := by rfl) (hw : swappedStores [.Subscript (.Name x p) b p2] a X.env = pure none := by rfl)
    (h1 : (assignEach [.Subscript (.Name x p) b p2] X.env).map (·.2) = [assign (.Subscript (.Name x p) b p2) X.env] := by rfl) : PSv X G W (.Assign [.Subscript (.Name x p) b p2] a pos) (sSetIx j mb ma) :=
  PS.mono (ps_asg h (pg_sub (pe_var hN hv hd hcd) hi set_list ha) hs hw h1) sv_setIx
theorem bs_par {i j : Nat} {x y : Str} {px py pt : Pos} {kt k2 : Nat} {pt2 : Pos} (hc : X.calm = true) (hN : X.N.Nodup) (hi : X.N[i]? = some x) (hj : X.N[j]? = some y) (hij : i ≠ j) (hx : X.env.scope.names.lookup x = some .local) (hy : X.env.scope.names.lookup y = some .local) (ha : PEv X G W a ma) (hb : PEv X G W b mb)
    (hw : swappedStores [.Tuple [.Name x px, .Name y py] kt pt] (.Tuple [a, b] k2 pt2) X.env = pure (some [x, y]) := by rfl) (he : starEach [a, b] X.env = (false, eval a X.env) :: starEach [b] X.env := by rfl) (he2 : starEach [b] X.env = (false, eval b X.env) :: starEach [] X.env := by rfl)
    (hs : swapsWithSole [.Tuple [.Name x px, .Name y py] kt pt] (.Tuple [a, b] k2 pt2) pos.line X.env = pure false := by rfl) : PSv X G W (.Assign [.Tuple [.Name x px, .Name y py] kt pt] (.Tuple [a, b] k2 pt2) pos) (sPar i j ma mb) :=
  PS.mono (ps_par hc hN hi hj hij hx hy (pa_cons ha (pa_cons hb pa_nil he2) he) hw hs) sv_par
theorem bs_asgT {t : Tz} {g : TG} {vs : List Nat} (hg : PG X tg g) (tv : Tv G vs t g) (h : PEv X G W a ma) (hs : swapsWithSole [tg] a pos.line X.env = pure false := by rfl) (hw : swappedStores [tg] a X.env = pure none := by rfl) (h1 : (assignEach [tg] X.env).map (·.2) = [assign tg X.env] := by rfl) :
    PSv X G W (.Assign [tg] a pos) (sAsgT t ma) := PS.mono (ps_asg h hg hs hw h1) (sv_asgT tv)
end
end DL
/-! DLM: a def with its code object; sorted by a lambda. -/
namespace DL
open PySem PySem.Spec PyProof.Rows L2 LamX NdefX
/-- a def of the text, its code object at cdv -/
structure FunC (K : PySem.W.Frag) (x qual : Str) (st : Stmt) (f : Addr) (fd : FuncData) (cdv : Value) : Prop where
  ex : ∃ (oc : Value) (od : Option Addr) (kV doc pm : Value) (an : Option Addr) (ct : Value) (osl : Array (Option Value)), fd = PySem.W.fnOf x qual (defArgs st) (defBody st) (defScope st) .none kV doc pm an cdv ct ∧
    K.lookup f = some ⟨oc, od, .func fd, osl⟩ ∧ PySem.W.codeIn K cdv qual = true
theorem FunC.mk' {K : PySem.W.Frag} {x qual : Str} {st : Stmt} {f : Addr} {oc : Value} {od : Option Addr} {kV doc pm : Value} {an : Option Addr} {cdv ct : Value} {osl : Array (Option Value)}
    (l : K.lookup f = some ⟨oc, od, .func (PySem.W.fnOf x qual (defArgs st) (defBody st) (defScope st) .none kV doc pm an cdv ct), osl⟩) (c : PySem.W.codeIn K cdv qual = true) : FunC K x qual st f (PySem.W.fnOf x qual (defArgs st) (defBody st) (defScope st) .none kV doc pm an cdv ct) cdv :=
  ⟨oc, od, kV, doc, pm, an, ct, osl, rfl, l, c⟩
/-- what is known of a def -/
structure DefT (K : PySem.W.Frag) (mg : Str → Option Value) (x : Str) (st : Stmt) (ps : List Str) (f : Addr) (fd : FuncData) (cdv : Value) : Prop where
  fn : FunC K x x st f fd cdv
  b : Binds K fd ps []
  kw : ∀ (s : Shared) (ws : List Value), K.In s.heap → ws.length = ps.length → BindsTo s fd ⟨[], ps.zip ws⟩ (ps.zip ws)
  g : mg x = some (.ref f)
  k : PySem.W.keepIn K (.ref f) = true
theorem fn_okC {P : Program} {w : World} {K : PySem.W.Frag} {mg : Str → Option Value} {base : Heap} {G : Ctx} {x qual : Str} {st : Stmt} {f : Addr} {fd : FuncData} {cdv : Value} {N ps : List Str} {k n : Nat} {m : Sz} {pf : Bool}
    (F : FunC K x qual st f fd cdv) (S : FnScope N ps (defScope st)) (hn : n = ps.length) (hl : n ≤ N.length)
    (hbody : ∀ (A : Around) (outer : List Env) (s : Shared) (H : Hp) (E : XK), Room k (A.deeper (envOfC qual (defScope st) s.heap.objs.size f cdv)) →
      PSs (cxOf (L2.CX P w) P w K mg base N qual (defScope st) f cdv A outer s H E) (defBody st) (Sv G (WB E) m)) :
    FnOk P w K mg base (L2.CX P w) (k + 1) f fd ps (spOf G n pf (runDef m pf N.length)) := by
  obtain ⟨oc, od, kV, doc, pm, an, ct, osl, rfl, lk, hcd⟩ := F.ex
  exact fn_of lk hcd S (fun vs H Q E h => by rw [← hn]; exact h.1) fun A outer s H vs Q E hr h => ⟨_, hbody A outer s H E hr, body_ok hl h⟩
theorem blk_dec {N : List Str} {sc scope : Scope} {own : List (Str × Nat)} (h : blkC N sc scope own = true) : blkC N sc scope own = true := h
section
variable {X : Cx} {G : Ctx} {W : WX} {pos lpos kpos p p2 pos2 : Pos} {a : Expr} {ma : Mz} {k n : Nat} {ps fr : List Str} {js : List Nat} {params : Arguments} {body : Expr} {scope sc : Scope} {y : Str} {nm : Nat → Nat → Str} {c P : Addr} {Nl : List Str} {ml : Mz}
/-- sorted(range(a), key=lambda y: body) -/
theorem be_sortRg (hK : G.K = X.K) (hsc : X.env.scope = sc) (nd : ndefB sc scope fr = true) (ns : nscB Nl [y] fr scope = true) (hc : X.calm = true) (hg : Gl X "sorted") (hm : X.mg "sorted" = none) (hg2 : Gl X "range") (hm2 : X.mg "range" = none) (ha : PEv X G W a ma) (TB : TabB X.base X.mg c P) (hcode : X.env.code = .ref c)
    (hmT : (P, nm) ∈ G.T) (hn : nm lpos.line lpos.col = X.env.qual ++ "<lambda>") (hu : ∀ p ∈ G.T, p.1 = P → p.2 = nm) (hdef : defaultsOf params X.env = ([], [])) (hjs : js.map (fun j => X.N[j]?) = fr.map some) (hnn : n = 1 + js.length) (hln : n ≤ Nl.length) (hr : Room (k + 3) X.A)
    (hb : ∀ (q : Str) (cl : List (Str × Addr)) (pm cv ctv u : Value), bindArgs (PySem.W.kla_fn "<lambda>" q params body scope cl pm cv ctv) ⟨[u], []⟩ = pure ([y].zip [u]))
    (hbody : ∀ (c' f : Addr) (A : Around) (outer : List Env) (s : Shared) (H : Hp) (E : XK), Room k (A.deeper (envF (lamF X params scope c') f s.heap.objs.size)) → PE (ncx (L2.CX X.prog X.w) X.prog X.w X.K X.mg X.base Nl (lamF X params scope c') f A outer s H E) body (Ev G (WB E) ml))
    (na : starEach [a] X.env = (false, eval a X.env) :: starEach [] X.env := by rfl) (na2 : starEach [.Call (.Name "range" p2) [a] [] pos2] X.env = (false, eval (.Call (.Name "range" p2) [a] [] pos2) X.env) :: starEach [] X.env := by rfl) :
    PEv X G W (.Call (.Name "sorted" p) [.Call (.Name "range" p2) [a] [] pos2] [⟨some "key", .Lambda params body scope lpos, kpos⟩] pos) (mSortRg1 js (runDef (sRet ml) false Nl.length) ma) := by
  subst hsc
  refine PE.mono (pe_sortedRg (k := k + 1) (T := G.T) (sp := spL G n (runDef (sRet ml) false Nl.length)) (fr := fr) (js := js) (y := y) hc hg hm (prg_1 hg2 hm2 ha na) TB hcode hmT hn hu hdef (ndef_free nd) (fun f c' => ?_) (fun ok => Caps.made ok (ndef_free nd) (ndef_fr nd) hjs) hr na2) (by rw [← hK]; exact ev_sortRg1 hnn)
  exact lam_okD (F := lamF X params scope c') (N := Nl) (nscope_by ns) (fun pm ctv us hl => match us, hl with
    | [u], _ => hb _ _ _ _ _ u) hln (hbody c' f)
theorem be_sortL (hK : G.K = X.K) (hsc : X.env.scope = sc) (nd : ndefB sc scope fr = true) (ns : nscB Nl [y] fr scope = true) (hg : Gl X "sorted") (hm : X.mg "sorted" = none) (ha : PEv X G W a ma) (TB : TabB X.base X.mg c P) (hcode : X.env.code = .ref c)
    (hmT : (P, nm) ∈ G.T) (hn : nm lpos.line lpos.col = X.env.qual ++ "<lambda>") (hu : ∀ p ∈ G.T, p.1 = P → p.2 = nm) (hdef : defaultsOf params X.env = ([], [])) (hjs : js.map (fun j => X.N[j]?) = fr.map some) (hnn : n = 1 + js.length) (hln : n ≤ Nl.length) (hr : Room (k + 3) X.A)
    (hb : ∀ (q : Str) (cl : List (Str × Addr)) (pm cv ctv u : Value), bindArgs (PySem.W.kla_fn "<lambda>" q params body scope cl pm cv ctv) ⟨[u], []⟩ = pure ([y].zip [u]))
    (hbody : ∀ (c' f : Addr) (A : Around) (outer : List Env) (s : Shared) (H : Hp) (E : XK), Room k (A.deeper (envF (lamF X params scope c') f s.heap.objs.size)) → PE (ncx (L2.CX X.prog X.w) X.prog X.w X.K X.mg X.base Nl (lamF X params scope c') f A outer s H E) body (Ev G (WB E) ml))
    (na : starEach [a] X.env = (false, eval a X.env) :: starEach [] X.env := by rfl) :
    PEv X G W (.Call (.Name "sorted" p) [a] [⟨some "key", .Lambda params body scope lpos, kpos⟩] pos) (mSortL js (runDef (sRet ml) false Nl.length) ma) := by
  subst hsc
  refine PE.mono (pe_sortedL (k := k + 1) (T := G.T) (sp := spL G n (runDef (sRet ml) false Nl.length)) (fr := fr) (js := js) (y := y) hg hm ha TB hcode hmT hn hu hdef (ndef_free nd) (fun f c' => ?_) (fun ok => Caps.made ok (ndef_free nd) (ndef_fr nd) hjs) hr na) (by rw [← hK]; exact ev_sortL hnn)
  exact lam_okD (F := lamF X params scope c') (N := Nl) (nscope_by ns) (fun pm ctv us hl => match us, hl with
    | [u], _ => hb _ _ _ _ _ u) hln (hbody c' f)
/-- list(range(a)) -/
theorem be_listRg (hc : X.calm = true) (hg : Gl X "list") (hm : X.mg "list" = none) (hg2 : Gl X "range") (hm2 : X.mg "range" = none) (ha : PEv X G W a ma) (na : starEach [a] X.env = (false, eval a X.env) :: starEach [] X.env := by rfl)
    (na2 : starEach [.Call (.Name "range" p2) [a] [] pos2] X.env = (false, eval (.Call (.Name "range" p2) [a] [] pos2) X.env) :: starEach [] X.env := by rfl) :
    PEv X G W (.Call (.Name "list" p) [.Call (.Name "range" p2) [a] [] pos2] [] pos) (mListRg1 ma) := PE.mono (pe_listRg hc hg hm (prg_1 hg2 hm2 ha na) na2) ev_listRg1
/-- {k: v, ..}[i] -/
theorem be_dget {keys : List (Option Expr)} {values : List Expr} {ks : List Key} {ms : List Mz} (hu : X.A.units + 1 < cLine) (h : PPs X pos2 keys values (trsOf G W ks ms)) (hi : PEv X G W a ma) (hl : ks.length = ms.length) (h15 : ks.length ≤ 15) (hall : keys.all (·.isSome) = true) (hl2 : keys.length = values.length) (h0 : keys ≠ []) (h152 : keys.length ≤ 15) (hs : NoSl a := by exact fun _ _ => rfl) :
    PEv X G W (.Subscript (.Dict keys values pos2) a pos) (mDGet ks ms ma) := PE.mono (pe_dget hu (pe_disp h hall hl2 h0 h152) hi hs) (ev_dget hl h15)
theorem bp_nil : PPs X pos [] [] (trsOf G W [] []) := pps_nil
theorem bp_str {x : Str} {kk : Nat} {kp : Pos} {ks : List (Option Expr)} {vs : List Expr} {kys : List Key} {ms : List Mz} (h : PEv X G W a ma) (t : PPs X pos ks vs (trsOf G W kys ms)) : PPs X pos (some (.Constant (.str x) kk kp) :: ks) (a :: vs) (trsOf G W (.inr x :: kys) (ma :: ms)) := pps_cons (pe_str) h t
end
end DL
/-! DLN: the end of a law. -/
namespace DL
open PySem PySem.Spec PyProof.Rows L2 LamX NdefX
/-- the tables of the defs that make lambdas are empty at the head -/
abbrev TabX (K : PySem.W.Frag) (names : List Str) (h : Heap) : Prop := ∀ x ∈ names, ∀ c P, PySem.W.tabIn K x = some (c, P) → PySem.W.CodeHd h c P ∧ h.get? P = some { cls := .none, data := .fields #[] }
theorem walk_ofTop {l : PySem.W.OpenLaw} {n k : Nat} {q : Program} {loose : List Str} {XP : (Str → Option Value) → Heap → Prop} {YP : World → Heap → Prop} {d : DefRec} {K : Params → PySem.W.Frag} {CX : World → CXT} {x : Str} (names : List Str)
    (hn : l.most = some n) (hn2 : n ≤ sizeLine) (hdf : d.params.defaults = []) (hr : Room k callerA) (hrec : names.all (fun y => (recsOf q).any fun e => e.name == y) = true) (hY : ∀ (w : World) (h : Heap), YP w h → (K w.params).In h)
    (F : ∀ (w : World) (mg : Str → Option Value) (fa : Addr) (h : Heap), YP w h → (K w.params).In h → h.Ns mainGlobals mg → mg d.name = some (.ref fa) → TabX (K w.params) names h → LawAtS l w (K w.params) (CX w) k n x mg fa h)
    (hCX : ∀ (w : World) (H : Hp) (s : Shared) (e : Value) (s' : Shared), CX w [] H s (fun _ _ _ => False) e s' → False) :
    PySem.W.WalkO q loose XP YP l.row.toRowW d [] (fun f vs => PySem.call f vs) := by
  refine Att.attach_callB hn hdf fun w s₀ s₁ mg mb fa o pm cd doc a vs ns G Y ho hd hcd hmg hobj hints hlen hbits hg => ?_
  have KX := hY w _ Y
  have tx : TabX (K w.params) names s₁.heap := fun y hy c P e => by
    have h1 := List.all_eq_true.mp hrec y hy
    have h2 : ((recsOf q).find? fun e => e.name == y).isSome = true := by rw [List.find?_isSome]; exact List.any_eq_true.mp h1
    obtain ⟨d', h3⟩ := Option.isSome_iff_exists.mp h2
    exact PySem.W.tab_of G.T KX h3 e
  obtain ⟨fd, cs, sp, hT, nT, C, hb, hsp, hF⟩ := F w mg fa _ Y KX G.T.g hmg tx
  exact law_callTs KX G.T.g G.T.b G.T.builtins G.T.nolimit hg hT nT C G.T.bmain hobj hints (Nat.le_trans hlen hn2) hr hF hb (fun H hH hS => hsp H a ns hlen hbits hH hS) fun H e s' => hCX w H s₁ e s'
/-- a script and the tables at the head grant what law asks -/
theorem sp_law {G : Ctx} {f : FSem} {H : Hp} {a : Addr} {ns : List Int} (hl : ns.length ≤ 63) (hT : ∀ p ∈ G.T, H p.1 = some (.tbl #[])) (hS : SqL G.K H a (ns.map V.int)) (h : f [.scr ns] = .ok (.val (.bl true)) []) :
    spOf G 1 false f [.ref a] H (fun v _ => v = .bl true) (fun _ _ _ => False) := by
  refine ⟨rfl, fun _ => False, none, [.scr ns], fun p hp => TabN.nil (hT p hp), fun q z => z.elim, ⟨rfl, Ats.one ?_⟩, ?_⟩
  · unfold At
    exact ⟨a, rfl, hS.elim (fun z => .inl ⟨fun y => y, z⟩) .inr, hl⟩
  · rw [h]
    intro v H' us _ _ hr
    have hr : At G _ H' (.bl true) v := hr.1
    unfold At at hr
    exact hr
theorem noCX {P : Program} {w : World} {H : Hp} {s : Shared} {e : Value} {s' : Shared} (h : L2.CX P w [] H s (fun _ _ _ => False) e s') : False := by
  obtain ⟨_, _, _, _, _, _, _, _, _, _, _, _, z⟩ := h
  exact z.elim
theorem DefT.of {K : PySem.W.Frag} {h : Heap} {mg : Str → Option Value} {x : Str} {st : Stmt} {ps : List Str} {f : Addr} {oc : Value} {od : Option Addr} {kV doc pm : Value} {an : Option Addr} {cdv ct : Value} {osl : Array (Option Value)} (X : K.In h) (G : h.Ns mainGlobals mg)
    (a : PySem.W.nsIn K mainGlobals x = some (some (.ref f))) (l : K.lookup f = some ⟨oc, od, .func (PySem.W.fnOf x x (defArgs st) (defBody st) (defScope st) .none kV doc pm an cdv ct), osl⟩) (c : PySem.W.codeIn K cdv x = true) (k : PySem.W.keepIn K (.ref f) = true)
    (hb : ∀ us : List Value, us.length = ps.length → bindArgs (PySem.W.fnOf x x (defArgs st) (defBody st) (defScope st) .none kV doc pm an cdv ct) ⟨us, []⟩ = pure (ps.zip us))
    (hk : ∀ us : List Value, us.length = ps.length → bindArgs (PySem.W.fnOf x x (defArgs st) (defBody st) (defScope st) .none kV doc pm an cdv ct) ⟨[], ps.zip us⟩ = pure (ps.zip us)) :
    DefT K mg x st ps f (PySem.W.fnOf x x (defArgs st) (defBody st) (defScope st) .none kV doc pm an cdv ct) cdv :=
  ⟨FunC.mk' l c, .all hb, fun s ws _ hl => .of_eq (hk ws hl), PySem.W.mg_of X G a, k⟩
end DL
/-! DW: what a def comes to, by what must hold behind each step (weakest preconditions over data). -/
namespace DL
open PySem PySem.Spec PyProof.Rows L2
/-- ends of a statement -/
structure Po where
  nx : FEnv → Prop
  rt : Rz → FEnv → Prop
  bk : FEnv → Prop
  ct : FEnv → Prop
  er : Nat → D → FEnv → Prop
abbrev ErK := Nat → D → FEnv → Prop
abbrev noE : ErK := fun _ _ _ => False
@[irreducible] def Res.sat (x : Res) (Q : Rz → FEnv → Prop) (E : ErK) : Prop := match x with
  | .ok r δ => Q r δ
  | .err c d δ => E c d δ
  | .stuck => False
@[irreducible] def ResA.sat (x : ResA) (Q : List Rz → FEnv → Prop) (E : ErK) : Prop := match x with
  | .ok r δ => Q r δ
  | .err c d δ => E c d δ
  | .stuck => False
@[irreducible] def ResI.sat (x : ResI) (Q : List D → FEnv → Prop) (E : ErK) : Prop := match x with
  | .ok r δ => Q r δ
  | .err c d δ => E c d δ
  | .stuck => False
@[irreducible] def Out.sat (x : Out) (P : Po) : Prop := match x with
  | .nx δ => P.nx δ
  | .rt r δ => P.rt r δ
  | .bk δ => P.bk δ
  | .ct δ => P.ct δ
  | .er c d δ => P.er c d δ
  | .stuck => False
@[reducible] def Po.seq (P : Po) (u : Sz) : Po := ⟨fun δ => (u δ).sat P, P.rt, P.bk, P.ct, P.er⟩
@[reducible] def Po.turn (P : Po) (I : FEnv → Prop) : Po := ⟨I, P.rt, P.nx, I, P.er⟩
@[reducible] def Po.run (pf : Bool) (Q : FRes → Prop) : Po := ⟨fun δ => Q (okF (some (.val .non)) (parOf pf δ)), fun r δ => Q (okF (finR δ r) (parOf pf δ)), fun _ => False, fun _ => False, fun c d δ => Q (errF c d (parOf pf δ))⟩
def rKey : Rz → Option Key
  | .val (.int i) => some (.inl i)
  | .val (.str x) => some (.inr x)
  | _ => none
structure DgK (ks : List Key) (ds : List D) (r : Rz) (δ : FEnv) (Q : Rz → FEnv → Prop) : Prop where
  ex : ∃ k d, rKey r = some k ∧ lkK (meK [] (ks.zip ds)) k = some d ∧ Q (.val d) δ
theorem n_seq {P : Po} {u : Sz} {δ : FEnv} (h : (u δ).sat P) : (P.seq u).nx δ := h
theorem n_turn {P : Po} {I : FEnv → Prop} {δ : FEnv} (h : I δ) : (P.turn I).nx δ := h
/-! #### what must hold at the end of a step -/
structure BinK (f : D → D → Option Rz) (r r2 : Rz) (δ : FEnv) (Q : Rz → FEnv → Prop) : Prop where
  ex : ∃ x y z, view δ r = some x ∧ view δ r2 = some y ∧ f x y = some z ∧ Q z δ
structure UnK (f : D → Option Rz) (r : Rz) (δ : FEnv) (Q : Rz → FEnv → Prop) : Prop where
  ex : ∃ x z, view δ r = some x ∧ f x = some z ∧ Q z δ
structure BrK (r : Rz) (A B : Prop) : Prop where
  ex : ∃ t, r = .val (.bl t) ∧ (t = true → A) ∧ (t = false → B)
structure BoolK (r : Rz) (A : Bool → Prop) : Prop where
  ex : ∃ t, r = .val (.bl t) ∧ A t
structure IntK (r : Rz) (A : Int → Prop) : Prop where
  ex : ∃ t, r = .val (.int t) ∧ A t
structure ChK (f : D → D → Option Rz) (r r2 : Rz) (δ : FEnv) (A B : Prop) : Prop where
  ex : ∃ x y t, view δ r = some x ∧ view δ r2 = some y ∧ f x y = some (.val (.bl t)) ∧ (t = true → A) ∧ (t = false → B)
structure ArgK (r : Rz) (δ : FEnv) (A : Rz → Prop) : Prop where
  ex : ∃ r', norm δ r = some r' ∧ A r'
structure GiveK (rs : List Rz) (δ : FEnv) (A : List D → FEnv → Prop) : Prop where
  ex : ∃ ds δ2, giveAll rs δ = some (ds, δ2) ∧ sz ds.length = true ∧ A ds δ2
structure GivesK (rs : List Rz) (δ : FEnv) (A : List D → FEnv → Prop) : Prop where
  ex : ∃ ds δ2, giveAll rs δ = some (ds, δ2) ∧ A ds δ2
structure Give1K (r : Rz) (δ : FEnv) (A : D → FEnv → Prop) : Prop where
  ex : ∃ d δ2, give δ r = some (d, δ2) ∧ A d δ2
structure CbK (f : List D → Option Rz) (rs : List Rz) (δ : FEnv) (Q : Rz → FEnv → Prop) : Prop where
  ex : ∃ ds z, views δ rs = some ds ∧ f ds = some z ∧ Q z δ
structure SlK (r : Rz) (l u : Option Int) (δ : FEnv) (Q : Rz → FEnv → Prop) : Prop where
  ex : ∃ x z, view δ r = some x ∧ dSl x l u = some z ∧ Q z δ
structure CallK (fs : FSem) (rs : List Rz) (δ : FEnv) (Q : Rz → FEnv → Prop) : Prop where
  ex : ∃ ds r r', views δ rs = some ds ∧ fs ds = .ok r [] ∧ callRes (!rs.all isV) r = some r' ∧ Q r' δ
structure CallPK (fs : FSem) (rs : List Rz) (δ : FEnv) (Q : Rz → FEnv → Prop) : Prop where
  ex : ∃ i rs' b uds ds r ps r', rs = .bor i :: rs' ∧ δ[i]? = some (some (.own b uds)) ∧ rs'.all (notB i) = true ∧ views δ rs' = some ds ∧ fs (.lst uds :: ds) = .ok r ps ∧
    okLs (!rs'.all isV) ps = true ∧ callRes (!rs'.all isV) r = some r' ∧ Q r' (δ.set i (some (.own b ps)))
structure AppK (j : Nat) (r : Rz) (δ : FEnv) (Q : Rz → FEnv → Prop) : Prop where
  ex : ∃ d δ2 b ds, giveN δ r = some (d, δ2) ∧ δ2[j]? = some (some (.own b ds)) ∧ sz (ds.length + 1) = true ∧ Q (.val .non) (δ2.set j (some (.own b (ds ++ [d]))))
structure OwnK (j : Nat) (δ : FEnv) (A : Prop) : Prop where
  ex : ∃ b ds, δ[j]? = some (some (.own b ds)) ∧ A
structure ListRgK (r : Rz) (δ : FEnv) (Q : Rz → FEnv → Prop) : Prop where
  ex : ∃ n, r = .val (.int n) ∧ rgB 0 n = true ∧ Q (.fr (rgD 0 n)) δ
structure SortRgK (js : List Nat) (g : FSem) (r : Rz) (δ : FEnv) (Q : Rz → FEnv → Prop) : Prop where
  ex : ∃ n cs kv, r = .val (.int n) ∧ rgB 0 n = true ∧ capsD δ js = some cs ∧ keysD g cs (rgD 0 n) = some kv ∧ sz (rgD 0 n).length = true ∧ Q (.fr (sortKD kv (rgD 0 n))) δ
structure SeqK (d : D) (A : List D → Prop) : Prop where
  ex : ∃ ds, seqD d = some ds ∧ A ds
structure Rg1K (rs : List Rz) (A : Int → Prop) : Prop where
  ex : ∃ j, rs = [.val (.int j)] ∧ A j
structure Rg2K (rs : List Rz) (A : Int → Int → Prop) : Prop where
  ex : ∃ i j, rs = [.val (.int i), .val (.int j)] ∧ A i j
structure RgK (lo hi : Int) (A : List D → Prop) : Prop where
  ex : -(2 ^ 62) ≤ lo ∧ lo < 2 ^ 62 ∧ -(2 ^ 62) ≤ hi ∧ hi < 2 ^ 62 ∧ (hi - lo).toNat ≤ 16777216 ∧ A (rangeD lo (hi - lo).toNat)
structure EnK (rs : List Rz) (δ : FEnv) (A : List D → FEnv → Prop) : Prop where
  ex : ∃ d δ2 ds, giveAll rs δ = some ([d], δ2) ∧ seqD d = some ds ∧ A ds δ2
structure ZpK (rs : List Rz) (δ : FEnv) (A : List D → List D → FEnv → Prop) : Prop where
  ex : ∃ d d' δ2 ds ds', giveAll rs δ = some ([d, d'], δ2) ∧ seqD d = some ds ∧ seqD d' = some ds' ∧ A ds ds' δ2
structure SetK (i : Nat) (r : Rz) (δ : FEnv) (A : FEnv → Prop) : Prop where
  ex : ∃ δ2, setSlot δ i r = some δ2 ∧ A δ2
structure ParK (i j : Nat) (r r2 : Rz) (δ : FEnv) (A : FEnv → Prop) : Prop where
  ex : ∃ δ3, setPar δ i j r r2 = some δ3 ∧ A δ3
structure AsgK (t : Tz) (r : Rz) (δ : FEnv) (A : FEnv → Prop) : Prop where
  ex : ∃ d δ2 δ3, give δ r = some (d, δ2) ∧ t d δ2 = some δ3 ∧ A δ3
structure SetIxK (j : Nat) (r ri : Rz) (δ : FEnv) (A : FEnv → Prop) : Prop where
  ex : ∃ k d δ3 b ds n, ri = .val (.int k) ∧ giveN δ r = some (d, δ3) ∧ δ3[j]? = some (some (.own b ds)) ∧ ixN ds.length k = some n ∧ A (δ3.set j (some (.own b (ds.set n d))))
section
variable {δ δ1 δ2 : FEnv} {Q : Rz → FEnv → Prop} {QA : List Rz → FEnv → Prop} {QI : List D → FEnv → Prop} {E : ErK} {P : Po} {a b c : Mz} {ms : List Mz} {s u : Sz}
theorem Res.sat_mono {Q' : Rz → FEnv → Prop} {x : Res} (h : x.sat Q E) (k : ∀ r δ, Q r δ → Q' r δ) : x.sat Q' E := by
  with_unfolding_all
    cases x with
  | ok r δ => exact k _ _ h
  | err c d δ => exact h
  | stuck => exact h
theorem ResA.sat_mono {Q' : List Rz → FEnv → Prop} {x : ResA} (h : x.sat QA E) (k : ∀ r δ, QA r δ → Q' r δ) : x.sat Q' E := by
  with_unfolding_all
    cases x with
  | ok r δ => exact k _ _ h
  | err c d δ => exact h
  | stuck => exact h
theorem ResI.sat_mono {Q' : List D → FEnv → Prop} {x : ResI} (h : x.sat QI E) (k : ∀ r δ, QI r δ → Q' r δ) : x.sat Q' E := by
  with_unfolding_all
    cases x with
  | ok r δ => exact k _ _ h
  | err c d δ => exact h
  | stuck => exact h
theorem Out.sat_mono {x : Out} {P P' : Po} (h : x.sat P) (nx : ∀ δ, P.nx δ → P'.nx δ) (rt : ∀ r δ, P.rt r δ → P'.rt r δ) (bk : ∀ δ, P.bk δ → P'.bk δ) (ct : ∀ δ, P.ct δ → P'.ct δ) (er : ∀ c d δ, P.er c d δ → P'.er c d δ) : x.sat P' := by
  with_unfolding_all
    cases x with
  | nx δ => exact nx _ h
  | rt r δ => exact rt _ _ h
  | bk δ => exact bk _ h
  | ct δ => exact ct _ h
  | er c d δ => exact er _ _ _ h
  | stuck => exact h
theorem Res.sat_bind {x : Res} {k : Rz → FEnv → Res} (h : x.sat (fun r δ => (k r δ).sat Q E) E) : (x.bind k).sat Q E := by
  with_unfolding_all
    cases x with
  | ok r δ => exact h
  | err c d δ => exact h
  | stuck => exact h
theorem Res.sat_bindA {x : Res} {k : Rz → FEnv → ResA} (h : x.sat (fun r δ => (k r δ).sat QA E) E) : (x.bindA k).sat QA E := by
  with_unfolding_all
    cases x with
  | ok r δ => exact h
  | err c d δ => exact h
  | stuck => exact h
theorem ResA.sat_bindA {x : ResA} {k : List Rz → FEnv → ResA} (h : x.sat (fun r δ => (k r δ).sat QA E) E) : (x.bindA k).sat QA E := by
  with_unfolding_all
    cases x with
  | ok r δ => exact h
  | err c d δ => exact h
  | stuck => exact h
theorem ResA.sat_bind {x : ResA} {k : List Rz → FEnv → Res} (h : x.sat (fun r δ => (k r δ).sat Q E) E) : (x.bind k).sat Q E := by
  with_unfolding_all
    cases x with
  | ok r δ => exact h
  | err c d δ => exact h
  | stuck => exact h
theorem ResA.sat_bindI {x : ResA} {k : List Rz → FEnv → ResI} (h : x.sat (fun r δ => (k r δ).sat QI E) E) : (x.bindI k).sat QI E := by
  with_unfolding_all
    cases x with
  | ok r δ => exact h
  | err c d δ => exact h
  | stuck => exact h
theorem Res.sat_bindI {x : Res} {k : Rz → FEnv → ResI} (h : x.sat (fun r δ => (k r δ).sat QI E) E) : (x.bindI k).sat QI E := by
  with_unfolding_all
    cases x with
  | ok r δ => exact h
  | err c d δ => exact h
  | stuck => exact h
theorem Res.sat_bindS {x : Res} {k : Rz → FEnv → Out} (h : x.sat (fun r δ => (k r δ).sat P) P.er) : (x.bindS k).sat P := by
  with_unfolding_all
    cases x with
  | ok r δ => exact h
  | err c d δ => exact h
  | stuck => exact h
theorem ResI.sat_bindS {x : ResI} {k : List D → FEnv → Out} (h : x.sat (fun r δ => (k r δ).sat P) P.er) : (x.bindS k).sat P := by
  with_unfolding_all
    cases x with
  | ok r δ => exact h
  | err c d δ => exact h
  | stuck => exact h
/-! #### expressions -/
theorem w_c {d : D} (h : Q (.val d) δ) : (mC d δ).sat Q E := by with_unfolding_all exact h
theorem w_val {i : Nat} {d : D} (e : δ[i]? = some (some (.val d))) (h : Q (.val d) δ) : (mVar i δ).sat Q E := by
  with_unfolding_all
    unfold mVar; rw [e]; exact h
theorem w_own {i : Nat} {b : Bool} {ds : List D} (e : δ[i]? = some (some (.own b ds))) (h : Q (.bor i) δ) : (mVar i δ).sat Q E := by
  with_unfolding_all
    unfold mVar; rw [e]; exact h
theorem w_bin {f : D → D → Option Rz} (h : (a δ).sat (fun r δ1 => (b δ1).sat (fun r2 δ2 => BinK f r r2 δ2 Q) E) E) : (mBin f a b δ).sat Q E := by
  with_unfolding_all
    refine Res.sat_bind (Res.sat_mono h fun r δ1 h => Res.sat_bind (Res.sat_mono h fun r2 δ2 h => ?_))
    obtain ⟨x, y, z, e1, e2, e3, q⟩ := h
    unfold viewB
    rw [e1, e2]
    show (got (f x y) δ2).sat Q E
    rw [e3]
    exact q
theorem w_un {f : D → Option Rz} (h : (a δ).sat (fun r δ1 => UnK f r δ1 Q) E) : (mUn f a δ).sat Q E := by
  with_unfolding_all
    refine Res.sat_bind (Res.sat_mono h fun r δ1 h => ?_)
    obtain ⟨x, z, e1, e3, q⟩ := h
    unfold viewB
    rw [e1]
    show (got (f x) δ1).sat Q E
    rw [e3]
    exact q
theorem w_boolB {r : Rz} {k : Bool → Res} (h : ∃ t, r = .val (.bl t) ∧ (k t).sat Q E) : (boolB r k).sat Q E := by
  with_unfolding_all
    obtain ⟨t, rfl, h⟩ := h
    exact h
theorem w_if (h : (c δ).sat (fun r δ1 => BrK r ((a δ1).sat Q E) ((b δ1).sat Q E)) E) : (mIf c a b δ).sat Q E := by
  with_unfolding_all
    refine Res.sat_bind (Res.sat_mono h fun r δ1 h => ?_)
    obtain ⟨t, rfl, h1, h2⟩ := h
    refine w_boolB ⟨t, rfl, ?_⟩
    cases t with
  | true => rw [if_pos rfl]; exact h1 rfl
  | false => rw [if_neg Bool.false_ne_true]; exact h2 rfl
theorem w_and (h : (a δ).sat (fun r δ1 => BrK r ((b δ1).sat Q E) (Q (.val (.bl false)) δ1)) E) : (mAnd a b δ).sat Q E := by
  with_unfolding_all
    refine Res.sat_bind (Res.sat_mono h fun r δ1 h => ?_)
    obtain ⟨t, rfl, h1, h2⟩ := h
    refine w_boolB ⟨t, rfl, ?_⟩
    cases t with
  | true => rw [if_pos rfl]; exact h1 rfl
  | false => rw [if_neg Bool.false_ne_true]; exact h2 rfl
theorem w_or (h : (a δ).sat (fun r δ1 => BrK r (Q (.val (.bl true)) δ1) ((b δ1).sat Q E)) E) : (mOr a b δ).sat Q E := by
  with_unfolding_all
    refine Res.sat_bind (Res.sat_mono h fun r δ1 h => ?_)
    obtain ⟨t, rfl, h1, h2⟩ := h
    refine w_boolB ⟨t, rfl, ?_⟩
    cases t with
  | true => rw [if_pos rfl]; exact h1 rfl
  | false => rw [if_neg Bool.false_ne_true]; exact h2 rfl
theorem w_not (h : (a δ).sat (fun r δ1 => BoolK r fun t => Q (.val (.bl (!t))) δ1) E) : (mNot a δ).sat Q E := by
  with_unfolding_all
    refine Res.sat_bind (Res.sat_mono h fun r δ1 h => ?_)
    obtain ⟨t, rfl, h1⟩ := h
    exact h1
theorem w_chain {f g : D → D → Option Rz} (h : (a δ).sat (fun r δ1 => (b δ1).sat (fun r2 δ2 => ChK f r r2 δ2 ((c δ2).sat (fun r3 δ3 => BinK g r2 r3 δ3 Q) E) (Q (.val (.bl false)) δ2)) E) E) : (mChain f g a b c δ).sat Q E := by
  with_unfolding_all
    refine Res.sat_bind (Res.sat_mono h fun r δ1 h => Res.sat_bind (Res.sat_mono h fun r2 δ2 h => ?_))
    obtain ⟨x, y, t, e1, e2, e3, h1, h2⟩ := h
    unfold viewB
    rw [e1, e2]
    show ((got (f x y) δ2).bind _).sat Q E
    rw [e3]
    cases t with
  | false => exact h2 rfl
  | true =>
    show ((c δ2).bind _).sat Q E
    refine Res.sat_bind (Res.sat_mono (h1 rfl) fun r3 δ3 h => ?_)
    obtain ⟨y', z, w, e4, e5, e6, q⟩ := h
    rw [e4, e5]
    show (got (g y' z) δ3).sat Q E
    rw [e6]
    exact q
theorem w_anil (h : QA [] δ) : (mArgs [] δ).sat QA E := by with_unfolding_all (unfold mArgs; exact h)
theorem w_acons (h : (a δ).sat (fun r δ1 => (mArgs ms δ1).sat (fun rs δ2 => ArgK r δ2 fun r' => QA (r' :: rs) δ2) E) E) : (mArgs (a :: ms) δ).sat QA E := by
  with_unfolding_all
    rw [mArgs]
    refine Res.sat_bindA (Res.sat_mono h fun r δ1 h => ResA.sat_bindA (ResA.sat_mono h fun rs δ2 h => ?_))
    obtain ⟨r', e, q⟩ := h
    rw [e]
    exact q
theorem w_tup (h : (mArgs ms δ).sat (fun rs δ1 => GiveK rs δ1 fun ds δ2 => Q (.val (.tup ds)) δ2) E) : (mTup ms δ).sat Q E := by
  with_unfolding_all
    refine ResA.sat_bind (ResA.sat_mono h fun rs δ1 h => ?_)
    obtain ⟨ds, δ2, e, e2, q⟩ := h
    unfold gaveB
    rw [e]
    show (if sz ds.length = true then _ else _ : Res).sat Q E
    rw [if_pos e2]
    exact q
theorem w_lst (h : (mArgs ms δ).sat (fun rs δ1 => GiveK rs δ1 fun ds δ2 => Q (.fr ds) δ2) E) : (mLst ms δ).sat Q E := by
  with_unfolding_all
    refine ResA.sat_bind (ResA.sat_mono h fun rs δ1 h => ?_)
    obtain ⟨ds, δ2, e, e2, q⟩ := h
    unfold gaveB
    rw [e]
    show (if sz ds.length = true then _ else _ : Res).sat Q E
    rw [if_pos e2]
    exact q
theorem w_cb {f : List D → Option Rz} (h : (mArgs ms δ).sat (fun rs δ1 => CbK f rs δ1 Q) E) : (mCB f ms δ).sat Q E := by
  with_unfolding_all
    refine ResA.sat_bind (ResA.sat_mono h fun rs δ1 h => ?_)
    obtain ⟨ds, z, e, e2, q⟩ := h
    unfold viewsB
    rw [e]
    show (got (f ds) δ1).sat Q E
    rw [e2]
    exact q
theorem w_sl {lo hi : Option Mz} (h : (a δ).sat (fun r δ1 => (mPart lo (fun l => mPart hi fun u δ3 => viewB δ3 r fun x => got (dSl x l u) δ3) δ1).sat Q E) E) : (mSl a lo hi δ).sat Q E := by with_unfolding_all exact Res.sat_bind h
theorem w_part0 {k : Option Int → FEnv → Res} (h : (k none δ).sat Q E) : (mPart none k δ).sat Q E := by with_unfolding_all exact h
theorem w_part1 {k : Option Int → FEnv → Res} (h : (a δ).sat (fun r δ1 => IntK r fun i => (k (some i) δ1).sat Q E) E) : (mPart (some a) k δ).sat Q E := by
  with_unfolding_all
    refine Res.sat_bind (Res.sat_mono h fun r δ1 h => ?_)
    obtain ⟨t, rfl, h1⟩ := h
    exact h1
theorem w_slEnd {r : Rz} {l u : Option Int} (h : SlK r l u δ Q) : (viewB δ r fun x => got (dSl x l u) δ).sat Q E := by
  with_unfolding_all
    obtain ⟨x, z, e, e2, q⟩ := h
    unfold viewB
    rw [e]
    show (got (dSl x l u) δ).sat Q E
    rw [e2]
    exact q
theorem w_call {fs : FSem} (h : (mArgs ms δ).sat (fun rs δ1 => CallK fs rs δ1 Q) E) : (mCall false fs ms δ).sat Q E := by
  with_unfolding_all
    refine ResA.sat_bind (ResA.sat_mono h fun rs δ1 h => ?_)
    obtain ⟨ds, r, r', e, e2, e3, q⟩ := h
    show (viewsB δ1 rs fun ds => callEnd (!rs.all isV) (fun _ => δ1) (fs ds)).sat Q E
    unfold viewsB
    rw [e]
    show (callEnd (!rs.all isV) (fun _ => δ1) (fs ds)).sat Q E
    rw [e2]
    show (if okLs (!rs.all isV) [] = true then got (callRes (!rs.all isV) r) δ1 else .stuck).sat Q E
    have : okLs (!rs.all isV) [] = true := by
      unfold okLs
      cases rs.all isV <;> rfl
    rw [if_pos this, e3]
    exact q
theorem w_callp {fs : FSem} (h : (mArgs ms δ).sat (fun rs δ1 => CallPK fs rs δ1 Q) E) : (mCall true fs ms δ).sat Q E := by
  with_unfolding_all
    refine ResA.sat_bind (ResA.sat_mono h fun rs δ1 h => ?_)
    obtain ⟨i, rs', b, uds, ds, r, ps, r', rfl, e1, e2, e3, e4, e5, e6, q⟩ := h
    show (lentS δ1[i]? fun b uds => if rs'.all (notB i) = true then viewsB δ1 rs' fun ds => callEnd (!rs'.all isV) (fun ps => δ1.set i (some (.own b ps))) (fs (.lst uds :: ds)) else .stuck).sat Q E
    rw [e1]
    show (if rs'.all (notB i) = true then viewsB δ1 rs' fun ds => callEnd (!rs'.all isV) (fun ps => δ1.set i (some (.own b ps))) (fs (.lst uds :: ds)) else .stuck).sat Q E
    rw [if_pos e2]
    unfold viewsB
    rw [e3]
    show (callEnd (!rs'.all isV) (fun ps => δ1.set i (some (.own b ps))) (fs (.lst uds :: ds))).sat Q E
    rw [e4]
    show (if okLs (!rs'.all isV) ps = true then got (callRes (!rs'.all isV) r) (δ1.set i (some (.own b ps))) else .stuck).sat Q E
    rw [if_pos e5, e6]
    exact q
theorem w_app {j : Nat} (h : OwnK j δ ((a δ).sat (fun r δ1 => AppK j r δ1 Q) E)) : (mApp j a δ).sat Q E := by
  with_unfolding_all
    obtain ⟨b, ds, e0, h⟩ := h
    unfold mApp
    rw [e0]
    refine Res.sat_bind (Res.sat_mono h fun r δ1 h => ?_)
    obtain ⟨d, δ2, b, ds, e1, e2, e3, q⟩ := h
    rw [e1]
    show (ownX Res.stuck δ2[j]? fun b ds => if sz (ds.length + 1) = true then .ok (.val .non) (δ2.set j (some (.own b (ds ++ [d])))) else .stuck).sat Q E
    rw [e2]
    show (if sz (ds.length + 1) = true then Res.ok (.val .non) (δ2.set j (some (.own b (ds ++ [d])))) else .stuck).sat Q E
    rw [if_pos e3]
    exact q
theorem w_listRg {m : Mz} (h : (m δ).sat (fun r δ1 => ListRgK r δ1 Q) E) : (mListRg1 m δ).sat Q E := by
  with_unfolding_all
    refine Res.sat_bind (Res.sat_mono h fun r δ1 h => ?_)
    obtain ⟨n, rfl, e, q⟩ := h
    show (if rgB 0 n = true then Res.ok (.fr (rgD 0 n)) δ1 else .stuck).sat Q E
    rw [if_pos e]
    exact q
theorem w_dget {ks : List Key} {mk : Mz} (h : (mArgs ms δ).sat (fun rs δ1 => GivesK rs δ1 fun ds δ2 => (mk δ2).sat (fun r δ3 => DgK ks ds r δ3 Q) E) E) : (mDGet ks ms mk δ).sat Q E := by
  with_unfolding_all
    refine ResA.sat_bind (ResA.sat_mono h fun rs δ1 h => ?_)
    obtain ⟨ds, δ2, e, h⟩ := h
    rw [e]
    refine Res.sat_bind (Res.sat_mono h fun r δ3 h => ?_)
    obtain ⟨k, d, e1, e2, q⟩ := h
    have : (keyX r fun k => optB (lkK (meK [] (ks.zip ds)) k) fun d => .ok (.val d) δ3) = optB (lkK (meK [] (ks.zip ds)) k) fun d => .ok (.val d) δ3 := by
      unfold rKey at e1
      split at e1
      · cases e1; rfl
      · cases e1; rfl
      · cases e1
    rw [this, e2]
    exact q
theorem w_sortRg {js : List Nat} {g : FSem} {m : Mz} (h : (m δ).sat (fun r δ1 => SortRgK js g r δ1 Q) E) : (mSortRg1 js g m δ).sat Q E := by
  with_unfolding_all
    refine Res.sat_bind (Res.sat_mono h fun r δ1 h => ?_)
    obtain ⟨n, cs, kv, rfl, e, e1, e2, e3, q⟩ := h
    show (if rgB 0 n = true then sortB js g (rgD 0 n) δ1 else .stuck).sat Q E
    rw [if_pos e]
    unfold sortB
    rw [e1]
    show (optX Res.stuck (keysD g cs (rgD 0 n)) fun kv => if sz (rgD 0 n).length = true then .ok (.fr (sortKD kv (rgD 0 n))) δ1 else .stuck).sat Q E
    rw [e2]
    show (if sz (rgD 0 n).length = true then Res.ok (.fr (sortKD kv (rgD 0 n))) δ1 else .stuck).sat Q E
    rw [if_pos e3]
    exact q
/-! #### what is walked -/
theorem w_iVal {m : Mz} (h : (m δ).sat (fun r δ1 => Give1K r δ1 fun d δ2 => SeqK d fun ds => QI ds δ2) E) : (iVal m δ).sat QI E := by
  with_unfolding_all
    refine Res.sat_bindI (Res.sat_mono h fun r δ1 h => ?_)
    obtain ⟨d, δ2, e, ds, e2, q⟩ := h
    rw [e]
    show (seqI d fun ds => .ok ds δ2).sat QI E
    unfold seqI
    rw [e2]
    exact q
theorem w_rg {lo hi : Int} (h : RgK lo hi fun ds => QI ds δ) : (rangeR lo hi δ).sat QI E := by
  with_unfolding_all
    obtain ⟨h1, h2, h3, h4, h5, q⟩ := h
    unfold rangeR
    have a1 : one62 lo = true := by unfold one62; rw [decide_eq_true h1, decide_eq_true h2]; rfl
    have a2 : one62 hi = true := by unfold one62; rw [decide_eq_true h3, decide_eq_true h4]; rfl
    rw [if_pos ⟨a1, a2, decide_eq_true h5⟩]
    exact q
theorem w_iRange1 {m : Mz} (h : (mArgs [m] δ).sat (fun rs δ1 => Rg1K rs fun j => (rangeR 0 j δ1).sat QI E) E) : (iRange1 m δ).sat QI E := by
  with_unfolding_all
    refine ResA.sat_bindI (ResA.sat_mono h fun r δ1 h => ?_)
    obtain ⟨j, rfl, q⟩ := h
    exact q
theorem w_iRange2 {m n : Mz} (h : (mArgs [m, n] δ).sat (fun rs δ1 => Rg2K rs fun i j => (rangeR i j δ1).sat QI E) E) : (iRange2 m n δ).sat QI E := by
  with_unfolding_all
    refine ResA.sat_bindI (ResA.sat_mono h fun r δ1 h => ?_)
    obtain ⟨i, j, rfl, q⟩ := h
    exact q
theorem w_iEnum1 {m : Mz} (h : (mArgs [m] δ).sat (fun rs δ1 => EnK rs δ1 fun ds δ2 => QI (enumD ds) δ2) E) : (iEnum1 m δ).sat QI E := by
  with_unfolding_all
    refine ResA.sat_bindI (ResA.sat_mono h fun r δ1 h => ?_)
    obtain ⟨d, δ2, ds, e, e2, q⟩ := h
    rw [e]
    show (seqI d fun ds => .ok (enumD ds) δ2).sat QI E
    unfold seqI
    rw [e2]
    exact q
theorem w_iZip2 {m n : Mz} (h : (mArgs [m, n] δ).sat (fun rs δ1 => ZpK rs δ1 fun ds ds' δ2 => QI (zipD ds ds') δ2) E) : (iZip2 m n δ).sat QI E := by
  with_unfolding_all
    refine ResA.sat_bindI (ResA.sat_mono h fun r δ1 h => ?_)
    obtain ⟨d, d', δ2, ds, ds', e, e2, e3, q⟩ := h
    rw [e]
    show (seqI d fun xs => seqI d' fun ys => .ok (zipD xs ys) δ2).sat QI E
    unfold seqI
    rw [e2, e3]
    exact q
/-! #### statements -/
theorem w_seq (h : (s δ).sat (P.seq u)) : (sSeq s u δ).sat P := by
  with_unfolding_all
    show ((s δ).then u).sat P
    cases e : s δ with
  | nx δ1 => rw [e] at h; exact h
  | rt r δ1 => rw [e] at h; exact h
  | bk δ1 => rw [e] at h; exact h
  | ct δ1 => rw [e] at h; exact h
  | er c d δ1 => rw [e] at h; exact h
  | stuck => rw [e] at h; exact h
theorem w_set {i : Nat} {m : Mz} (h : (m δ).sat (fun r δ1 => SetK i r δ1 P.nx) P.er) : (sSet i m δ).sat P := by
  with_unfolding_all
    refine Res.sat_bindS (Res.sat_mono h fun r δ1 h => ?_)
    obtain ⟨δ2, e, q⟩ := h
    rw [e]
    exact q
theorem w_par {i j : Nat} (h : (a δ).sat (fun r δ1 => (b δ1).sat (fun r2 δ2 => ParK i j r r2 δ2 P.nx) P.er) P.er) : (sPar i j a b δ).sat P := by
  with_unfolding_all
    refine Res.sat_bindS (Res.sat_mono h fun r δ1 h => Res.sat_bindS (Res.sat_mono h fun r2 δ2 h => ?_))
    obtain ⟨δ3, e, q⟩ := h
    rw [e]
    exact q
theorem w_asgT {t : Tz} {m : Mz} (h : (m δ).sat (fun r δ1 => AsgK t r δ1 P.nx) P.er) : (sAsgT t m δ).sat P := by
  with_unfolding_all
    refine Res.sat_bindS (Res.sat_mono h fun r δ1 h => ?_)
    obtain ⟨d, δ2, δ3, e, e2, q⟩ := h
    rw [e]
    show (outO (t d δ2)).sat P
    rw [e2]
    exact q
theorem w_setIx {j : Nat} {mi me : Mz} (h : (me δ).sat (fun r δ1 => OwnK j δ1 ((mi δ1).sat (fun ri δ2 => SetIxK j r ri δ2 P.nx) P.er)) P.er) : (sSetIx j mi me δ).sat P := by
  with_unfolding_all
    refine Res.sat_bindS (Res.sat_mono h fun r δ1 h => ?_)
    obtain ⟨b', ds', e0, h⟩ := h
    rw [e0]
    refine Res.sat_bindS (Res.sat_mono h fun ri δ2 h => ?_)
    obtain ⟨k, d, δ3, b, ds, n, rfl, e1, e2, e3, q⟩ := h
    show (gvX Out.stuck (giveN δ2 r) fun d δ3 => ownX .stuck δ3[j]? fun b ds => natX .stuck (ixN ds.length k) fun n => .nx (δ3.set j (some (.own b (ds.set n d))))).sat P
    rw [e1]
    show (ownX Out.stuck δ3[j]? fun b ds => natX .stuck (ixN ds.length k) fun n => .nx (δ3.set j (some (.own b (ds.set n d))))).sat P
    rw [e2]
    show (natX Out.stuck (ixN ds.length k) fun n => .nx (δ3.set j (some (.own b (ds.set n d))))).sat P
    rw [e3]
    exact q
theorem w_expr {m : Mz} (h : (m δ).sat (fun _ δ1 => P.nx δ1) P.er) : (sExpr m δ).sat P := by with_unfolding_all exact Res.sat_bindS h
theorem w_ret {m : Mz} (h : (m δ).sat P.rt P.er) : (sRet m δ).sat P := by with_unfolding_all exact Res.sat_bindS h
theorem w_next (h : P.nx δ) : (sNext δ).sat P := by with_unfolding_all exact h
theorem w_break (h : P.bk δ) : (sBreak δ).sat P := by with_unfolding_all exact h
theorem w_cont (h : P.ct δ) : (sCont δ).sat P := by with_unfolding_all exact h
theorem w_sif (h : (c δ).sat (fun r δ1 => BrK r ((s δ1).sat P) ((u δ1).sat P)) P.er) : (sIf c s u δ).sat P := by
  with_unfolding_all
    refine Res.sat_bindS (Res.sat_mono h fun r δ1 h => ?_)
    obtain ⟨t, rfl, h1, h2⟩ := h
    show (if t = true then s δ1 else u δ1).sat P
    cases t with
  | true => rw [if_pos rfl]; exact h1 rfl
  | false => rw [if_neg Bool.false_ne_true]; exact h2 rfl
theorem w_forRun {t : Tz} {body : Sz} (I : Nat → FEnv → Prop) : ∀ (ds : List D) (i : Nat) (δ : FEnv), I i δ →
    (∀ (j : Nat) (d : D) (δ : FEnv), ds[j]? = some d → I (i + j) δ → ∃ δ1, t d δ = some δ1 ∧ (body δ1).sat (P.turn (I (i + j + 1)))) →
    (∀ δ, I (i + ds.length) δ → P.nx δ) → (forRun t body ds δ).sat P
  | [], i, δ, h, _, hf => by with_unfolding_all exact hf δ h
  | d :: ds, i, δ, h, hs, hf => by
    with_unfolding_all
      unfold forRun
      obtain ⟨δ1, e1, h1⟩ := hs 0 d δ rfl h
      rw [e1]
      show ((body δ1).loop fun δ2 => forRun t body ds δ2).sat P
      have go : ∀ δ2, I (i + 0 + 1) δ2 → (forRun t body ds δ2).sat P := fun δ2 h2 => by
        refine w_forRun I ds (i + 1) δ2 h2 (fun j d' δ' hd hI => ?_) (fun δ' hI => ?_)
        · have e : i + 1 + j = i + (j + 1) := by omega
          rw [e] at hI ⊢
          exact hs (j + 1) d' δ' hd hI
        · refine hf δ' ?_
          have e : i + (d :: ds).length = i + 1 + ds.length := by rw [List.length_cons]; omega
          rw [e]; exact hI
      cases e : body δ1 with
      | nx δ2 => rw [e] at h1; exact go δ2 h1
      | ct δ2 => rw [e] at h1; exact go δ2 h1
      | bk δ2 => rw [e] at h1; exact h1
      | rt r δ2 => rw [e] at h1; exact h1
      | er c d δ2 => rw [e] at h1; exact h1
      | stuck => rw [e] at h1; exact h1
/-- a loop by an invariant over how many turns are behind it; ds is what is walked -/
theorem w_for {it : Iz} {t : Tz} {body : Sz} (h : (it δ).sat (fun ds δ1 => ∃ I : Nat → FEnv → Prop, I 0 δ1 ∧
    (∀ (j : Nat) (d : D) (δ : FEnv), ds[j]? = some d → I j δ → ∃ δ1, t d δ = some δ1 ∧ (body δ1).sat (P.turn (I (j + 1)))) ∧
    (∀ δ, I ds.length δ → P.nx δ)) P.er) : (sFor it t body δ).sat P := by
      with_unfolding_all
    refine ResI.sat_bindS (ResI.sat_mono h fun ds δ1 h => ?_)
    obtain ⟨I, h0, hs, hf⟩ := h
    refine w_forRun I ds 0 δ1 h0 (fun j d δ hd hI => ?_) (fun δ hI => hf δ (by rw [Nat.zero_add] at hI; exact hI))
    rw [Nat.zero_add] at hI ⊢
    exact hs j d δ hd hI
theorem w_compRun {t : Tz} {cnd : Option Mz} {e : Mz} {vs : List Nat} (I : Nat → List D → FEnv → Prop) : ∀ (ds : List D) (i : Nat) (acc : List D) (δ : FEnv), I i acc δ →
    (∀ (j : Nat) (d : D) (acc : List D) (δ : FEnv), ds[j]? = some d → I (i + j) acc δ → ∃ δ1, t d δ = some δ1 ∧ (condC cnd δ1 fun b δ2 => .ok [.bl b] δ2).sat (fun ts δ2 =>
      (ts = [.bl true] → (e δ2).sat (fun r δ3 => ∃ y δ4, give δ3 r = some (y, δ4) ∧ I (i + j + 1) (acc ++ [y]) (wipeE δ4 vs)) noE) ∧ (ts = [.bl false] → I (i + j + 1) acc (wipeE δ2 vs))) noE) →
    (compRun t cnd e vs ds acc δ).sat (fun acc δ => I (i + ds.length) acc δ) noE
  | [], i, acc, δ, h, _ => by with_unfolding_all exact h
  | d :: ds, i, acc, δ, h, hs => by
    with_unfolding_all
      unfold compRun
      obtain ⟨δ1, e1, h1⟩ := hs 0 d acc δ rfl h
      rw [e1]
      show (condC cnd δ1 fun b δ2 => if b = true then eltI (e δ2) fun y δ3 => compRun t cnd e vs ds (acc ++ [y]) (wipeE δ3 vs) else compRun t cnd e vs ds acc (wipeE δ2 vs)).sat _ noE
      have go : ∀ acc2 δ2, I (i + 0 + 1) acc2 δ2 → (compRun t cnd e vs ds acc2 δ2).sat (fun acc δ => I (i + (d :: ds).length) acc δ) noE := fun acc2 δ2 h2 => by
        have e : i + (d :: ds).length = i + 1 + ds.length := by rw [List.length_cons]; omega
        rw [e]
        refine w_compRun I ds (i + 1) acc2 δ2 h2 (fun j d' acc' δ' hd hI => ?_)
        have e : i + 1 + j = i + (j + 1) := by omega
        rw [e] at hI ⊢
        exact hs (j + 1) d' acc' δ' hd hI
      have key : ∀ b δ2, (([D.bl b] = [.bl true] → (e δ2).sat (fun r δ3 => ∃ y δ4, give δ3 r = some (y, δ4) ∧ I (i + 0 + 1) (acc ++ [y]) (wipeE δ4 vs)) noE) ∧ ([D.bl b] = [.bl false] → I (i + 0 + 1) acc (wipeE δ2 vs))) →
          (if b = true then eltI (e δ2) fun y δ3 => compRun t cnd e vs ds (acc ++ [y]) (wipeE δ3 vs) else compRun t cnd e vs ds acc (wipeE δ2 vs)).sat (fun acc δ => I (i + (d :: ds).length) acc δ) noE := by
        intro b δ2 ⟨k1, k2⟩
        cases b with
        | false => rw [if_neg Bool.false_ne_true]; exact go _ _ (k2 rfl)
        | true =>
          rw [if_pos rfl]
          have k := k1 rfl
          cases ee : e δ2 with
          | ok r δ3 =>
            rw [ee] at k
            unfold Res.sat at k
            obtain ⟨y, δ4, e4, k⟩ := k
            show (gaveI (give δ3 r) fun y δ3 => compRun t cnd e vs ds (acc ++ [y]) (wipeE δ3 vs)).sat _ noE
            rw [e4]
            exact go _ _ k
          | err c d δ3 => rw [ee] at k; exact k.elim
          | stuck => rw [ee] at k; exact k.elim
      cases cnd with
      | none => exact key true δ1 h1
      | some m =>
        have h1 : (condR (m δ1) fun b δ2 => .ok [.bl b] δ2).sat _ noE := h1
        show (condR (m δ1) fun b δ2 => if b = true then eltI (e δ2) fun y δ3 => compRun t (some m) e vs ds (acc ++ [y]) (wipeE δ3 vs) else compRun t (some m) e vs ds acc (wipeE δ2 vs)).sat _ noE
        unfold condR at h1 ⊢
        split at h1
        · exact key _ _ h1
        · exact h1.elim
theorem w_cond0 {Q : List D → FEnv → Prop} (h : Q [.bl true] δ) : (condC none δ fun b δ2 => .ok [.bl b] δ2).sat Q noE := by with_unfolding_all exact h
theorem w_cond1 {Q : List D → FEnv → Prop} {m : Mz} (h : (m δ).sat (fun r δ1 => BoolK r fun t => Q [.bl t] δ1) noE) : (condC (some m) δ fun b δ2 => .ok [.bl b] δ2).sat Q noE := by
  with_unfolding_all
    show (condR (m δ) fun b δ2 => .ok [.bl b] δ2).sat Q noE
    cases e : m δ with
  | ok r δ1 =>
    rw [e] at h
    unfold Res.sat at h
    obtain ⟨t, rfl, q⟩ := h
    exact q
  | err c d δ1 => rw [e] at h; exact h.elim
  | stuck => rw [e] at h; exact h.elim
/-- a comprehension by an invariant -/
theorem w_comp {it : Iz} {t : Tz} {cnd : Option Mz} {e : Mz} {vs : List Nat} (h : (it δ).sat (fun ds δ1 => noOwn δ1 vs = true ∧ ∃ I : Nat → List D → FEnv → Prop, I 0 [] (wipeE δ1 vs) ∧
    (∀ (j : Nat) (d : D) (acc : List D) (δ : FEnv), ds[j]? = some d → I j acc δ → ∃ δ1, t d δ = some δ1 ∧ (condC cnd δ1 fun b δ2 => .ok [.bl b] δ2).sat (fun ts δ2 =>
      (ts = [.bl true] → (e δ2).sat (fun r δ3 => ∃ y δ4, give δ3 r = some (y, δ4) ∧ I (j + 1) (acc ++ [y]) (wipeE δ4 vs)) noE) ∧ (ts = [.bl false] → I (j + 1) acc (wipeE δ2 vs))) noE) ∧
    (∀ acc δ, I ds.length acc δ → Q (.fr acc) (backE δ1 δ vs))) E) : (mComp it t cnd e vs δ).sat Q E := by
      with_unfolding_all
    unfold mComp
    cases ei : it δ with
  | stuck => rw [ei] at h; exact h
  | err c d δ1 => rw [ei] at h; exact h
  | ok ds δ1 =>
    rw [ei] at h
    unfold ResI.sat at h
    obtain ⟨hno, I, h0, hs, hf⟩ := h
    show (if noOwn δ1 vs = true then (compRun t cnd e vs ds [] (wipeE δ1 vs)).calm.bind fun acc δw => .ok (.fr acc) (backE δ1 δw vs) else .stuck).sat Q E
    rw [if_pos hno]
    have k := w_compRun (t := t) (cnd := cnd) (e := e) (vs := vs) I ds 0 [] (wipeE δ1 vs) h0 (fun j d acc δ hd hI => by rw [Nat.zero_add] at hI ⊢; exact hs j d acc δ hd hI)
    cases er : compRun t cnd e vs ds [] (wipeE δ1 vs) with
    | ok acc δw => rw [er] at k; rw [Nat.zero_add] at k; exact hf _ _ k
    | err c d δw => rw [er] at k; exact k.elim
    | stuck => rw [er] at k; exact k.elim
/-- a comprehension whose elements, and test, change nothing -/
theorem w_compP {it : Iz} {t : Tz} {cnd : Option Mz} {e : Mz} {vs : List Nat} (f : D → D) (p : D → Bool) (h : (it δ).sat (fun ds δ1 => noOwn δ1 vs = true ∧
    (∀ (j : Nat) (d : D), ds[j]? = some d → ∃ δ2, t d (wipeE δ1 vs) = some δ2 ∧ (condC cnd δ2 fun b δ2 => .ok [.bl b] δ2).sat (fun ts δ3 =>
      (ts = [.bl true] → p d = true ∧ (e δ3).sat (fun r δ4 => ∃ δ5, give δ4 r = some (f d, δ5) ∧ wipeE δ5 vs = wipeE δ1 vs) noE) ∧ (ts = [.bl false] → p d = false ∧ wipeE δ3 vs = wipeE δ1 vs)) noE) ∧
    Q (.fr ((ds.filter p).map f)) (backE δ1 (wipeE δ1 vs) vs)) E) : (mComp it t cnd e vs δ).sat Q E := by
      with_unfolding_all
    refine w_comp (ResI.sat_mono h fun ds δ1 h => ?_)
    obtain ⟨hno, hs, hf⟩ := h
    refine ⟨hno, fun i acc δ => acc = ((ds.take i).filter p).map f ∧ δ = wipeE δ1 vs, ⟨rfl, rfl⟩, ?_, ?_⟩
    · rintro j d acc δ hd ⟨rfl, rfl⟩
      obtain ⟨δ2, e1, h1⟩ := hs j d hd
      have hl : j < ds.length := by
        rcases Nat.lt_or_ge j ds.length with z | z
        · exact z
        · rw [List.getElem?_eq_none z] at hd; cases hd
      have ht : ds.take (j + 1) = ds.take j ++ [d] := by
        rw [List.take_succ, hd]; rfl
      refine ⟨δ2, e1, ResI.sat_mono h1 fun ts δ3 h1 => ⟨fun e => ?_, fun e => ?_⟩⟩
      · obtain ⟨hp, h2⟩ := h1.1 e
        refine Res.sat_mono h2 fun r δ4 h2 => ?_
        obtain ⟨δ5, e5, e6⟩ := h2
        refine ⟨f d, δ5, e5, ?_, e6⟩
        rw [ht, List.filter_append, List.map_append, List.filter_cons_of_pos hp]
        rfl
      · obtain ⟨hp, h2⟩ := h1.2 e
        refine ⟨?_, h2⟩
        rw [ht, List.filter_append, List.filter_cons_of_neg (by rw [hp]; exact Bool.false_ne_true)]
        simp
    · rintro acc δ ⟨rfl, rfl⟩
      rw [List.take_length]
      exact hf
end
/-! #### how a step ends -/
section
variable {f g : D → D → Option Rz} {r r2 : Rz} {δ δ2 δ3 : FEnv} {Q : Rz → FEnv → Prop} {x y z : D} {rz : Rz} {A B : Prop} {P : FEnv → Prop} {rs : List Rz} {ds ds' ps : List D} {t : Bool} {p : Prop}
theorem k_bin {z : Rz} (e1 : view δ r = some x) (e2 : view δ r2 = some y) (e3 : f x y = some z) (q : Q z δ) : BinK f r r2 δ Q := ⟨_, _, _, e1, e2, e3, q⟩
theorem k_un {f : D → Option Rz} {z : Rz} (e1 : view δ r = some x) (e3 : f x = some z) (q : Q z δ) : UnK f r δ Q := ⟨_, _, e1, e3, q⟩
theorem k_br (h1 : t = true → A) (h2 : t = false → B) : BrK (.val (.bl t)) A B := ⟨_, rfl, h1, h2⟩
theorem k_dec [Decidable p] (h1 : p → A) (h2 : ¬ p → B) : BrK (.val (.bl (decide p))) A B := ⟨_, rfl, fun h => h1 (of_decide_eq_true h), fun h => h2 (of_decide_eq_false h)⟩
theorem k_decT [Decidable p] (h : p) (h1 : A) : BrK (.val (.bl (decide p))) A B := k_dec (fun _ => h1) fun n => absurd h n
theorem k_decF [Decidable p] (h : ¬ p) (h1 : B) : BrK (.val (.bl (decide p))) A B := k_dec (fun n => absurd n h) fun _ => h1
theorem k_nec [Decidable p] (h1 : ¬ p → A) (h2 : p → B) : BrK (.val (.bl (!decide p))) A B := ⟨_, rfl, fun h => h1 (of_decide_eq_false (by revert h; cases decide p <;> simp)), fun h => h2 (of_decide_eq_true (by revert h; cases decide p <;> simp))⟩
theorem k_t (h : A) : BrK (.val (.bl true)) A B := ⟨_, rfl, fun _ => h, fun h => absurd h (by decide)⟩
theorem k_f (h : B) : BrK (.val (.bl false)) A B := ⟨_, rfl, fun h => absurd h (by decide), fun _ => h⟩
theorem k_bt (h : t = true) (h1 : A) : BrK (.val (.bl t)) A B := ⟨_, rfl, fun _ => h1, fun n => by rw [h] at n; cases n⟩
theorem k_bf (h : t = false) (h1 : B) : BrK (.val (.bl t)) A B := ⟨_, rfl, fun n => by rw [h] at n; (cases n), fun _ => h1⟩
theorem k_nt (h : B) : BrK (.val (.bl (!true))) A B := k_f h
theorem k_nf (h : A) : BrK (.val (.bl (!false))) A B := k_t h
theorem k_decN [Decidable p] (h : p) (h1 : B) : BrK (.val (.bl (!decide p))) A B := k_nec (fun n => absurd h n) fun _ => h1
theorem k_decM [Decidable p] (h : ¬ p) (h1 : A) : BrK (.val (.bl (!decide p))) A B := k_nec (fun _ => h1) fun n => absurd n h
theorem k_bool {A : Bool → Prop} (h : A t) : BoolK (.val (.bl t)) A := ⟨_, rfl, h⟩
theorem k_int {A : Int → Prop} {i : Int} (h : A i) : IntK (.val (.int i)) A := ⟨_, rfl, h⟩
theorem k_ch (e1 : view δ r = some x) (e2 : view δ r2 = some y) (e3 : f x y = some (.val (.bl t))) (h : BrK (.val (.bl t)) A B) : ChK f r r2 δ A B := by
  obtain ⟨_, e, h1, h2⟩ := h
  cases e
  exact ⟨_, _, _, e1, e2, e3, h1, h2⟩
theorem k_arg {A : Rz → Prop} {r' : Rz} (e : norm δ r = some r') (h : A r') : ArgK r δ A := ⟨_, e, h⟩
theorem k_give {A : List D → FEnv → Prop} (e : giveAll rs δ = some (ds, δ2)) (e2 : sz ds.length = true) (h : A ds δ2) : GiveK rs δ A := ⟨_, _, e, e2, h⟩
theorem k_gives {A : List D → FEnv → Prop} (e : giveAll rs δ = some (ds, δ2)) (h : A ds δ2) : GivesK rs δ A := ⟨_, _, e, h⟩
theorem k_dg {ks : List Key} {k : Key} {d : D} (e : rKey r = some k) (e2 : lkK (meK [] (ks.zip ds)) k = some d) (q : Q (.val d) δ) : DgK ks ds r δ Q := ⟨_, _, e, e2, q⟩
theorem k_give1 {A : D → FEnv → Prop} (e : give δ r = some (x, δ2)) (h : A x δ2) : Give1K r δ A := ⟨_, _, e, h⟩
theorem k_cb {f : List D → Option Rz} {z : Rz} (e : views δ rs = some ds) (e2 : f ds = some z) (q : Q z δ) : CbK f rs δ Q := ⟨_, _, e, e2, q⟩
theorem k_sl {l u : Option Int} {z : Rz} (e : view δ r = some x) (e2 : dSl x l u = some z) (q : Q z δ) : SlK r l u δ Q := ⟨_, _, e, e2, q⟩
theorem k_call {fs : FSem} {r r' : Rz} (e : views δ rs = some ds) (e2 : fs ds = .ok r []) (e3 : callRes (!rs.all isV) r = some r') (q : Q r' δ) : CallK fs rs δ Q := ⟨_, _, _, e, e2, e3, q⟩
theorem k_callp {fs : FSem} {r r' : Rz} {i : Nat} {b : Bool} {uds : List D} (e1 : δ[i]? = some (some (.own b uds))) (e2 : rs.all (notB i) = true) (e3 : views δ rs = some ds) (e4 : fs (.lst uds :: ds) = .ok r ps)
    (e5 : okLs (!rs.all isV) ps = true) (e6 : callRes (!rs.all isV) r = some r') (q : Q r' (δ.set i (some (.own b ps)))) : CallPK fs (.bor i :: rs) δ Q := ⟨_, _, _, _, _, _, _, _, rfl, e1, e2, e3, e4, e5, e6, q⟩
theorem k_own {j : Nat} {b : Bool} (e : δ[j]? = some (some (.own b ds))) (h : A) : OwnK j δ A := ⟨_, _, e, h⟩
theorem k_app {j : Nat} {b : Bool} (e : giveN δ r = some (x, δ2)) (e1 : δ2[j]? = some (some (.own b ds))) (e2 : sz (ds.length + 1) = true) (q : Q (.val .non) (δ2.set j (some (.own b (ds ++ [x]))))) : AppK j r δ Q := ⟨_, _, _, _, e, e1, e2, q⟩
theorem k_listRg {n : Int} (e : rgB 0 n = true) (q : Q (.fr (rgD 0 n)) δ) : ListRgK (.val (.int n)) δ Q := ⟨_, rfl, e, q⟩
theorem k_sortRg {js : List Nat} {gs : FSem} {n : Int} {cs : List D} {kv : List (Int × Int)} (e : rgB 0 n = true) (e1 : capsD δ js = some cs) (e2 : keysD gs cs (rgD 0 n) = some kv) (e3 : sz (rgD 0 n).length = true) (q : Q (.fr (sortKD kv (rgD 0 n))) δ) : SortRgK js gs (.val (.int n)) δ Q := ⟨_, _, _, rfl, e, e1, e2, e3, q⟩
theorem k_seq {A : List D → Prop} (e : seqD x = some ds) (h : A ds) : SeqK x A := ⟨_, e, h⟩
theorem k_rg1 {A : Int → Prop} {j : Int} (h : A j) : Rg1K [.val (.int j)] A := ⟨_, rfl, h⟩
theorem k_rg2 {A : Int → Int → Prop} {i j : Int} (h : A i j) : Rg2K [.val (.int i), .val (.int j)] A := ⟨_, _, rfl, h⟩
theorem k_rg {A : List D → Prop} {lo hi : Int} (h1 : -(2 ^ 62) ≤ lo) (h2 : lo < 2 ^ 62) (h3 : -(2 ^ 62) ≤ hi) (h4 : hi < 2 ^ 62) (h5 : (hi - lo).toNat ≤ 16777216) (h : A (rangeD lo (hi - lo).toNat)) : RgK lo hi A := ⟨h1, h2, h3, h4, h5, h⟩
theorem k_en {A : List D → FEnv → Prop} (e : giveAll rs δ = some ([x], δ2)) (e2 : seqD x = some ds) (h : A ds δ2) : EnK rs δ A := ⟨_, _, _, e, e2, h⟩
theorem k_zp {A : List D → List D → FEnv → Prop} (e : giveAll rs δ = some ([x, y], δ2)) (e2 : seqD x = some ds) (e3 : seqD y = some ds') (h : A ds ds' δ2) : ZpK rs δ A := ⟨_, _, _, _, _, e, e2, e3, h⟩
theorem k_set {i : Nat} (e : setSlot δ i r = some δ2) (h : P δ2) : SetK i r δ P := ⟨_, e, h⟩
theorem k_par {i j : Nat} (e : setPar δ i j r r2 = some δ2) (h : P δ2) : ParK i j r r2 δ P := ⟨_, e, h⟩
theorem k_asg {t : Tz} (e : give δ r = some (x, δ2)) (e2 : t x δ2 = some δ3) (h : P δ3) : AsgK t r δ P := ⟨_, _, _, e, e2, h⟩
theorem k_setIx {j n : Nat} {k : Int} {b : Bool} (e : giveN δ r = some (x, δ3)) (e1 : δ3[j]? = some (some (.own b ds))) (e2 : ixN ds.length k = some n) (h : P (δ3.set j (some (.own b (ds.set n x))))) : SetIxK j r (.val (.int k)) δ P := ⟨_, _, _, _, _, _, rfl, e, e1, e2, h⟩
end
/-! #### defs -/
theorem run_of {m : Sz} {pf : Bool} {n : Nat} {ds : List D} {Q : FRes → Prop} (h : (m (envOf pf n ds)).sat (Po.run pf Q)) : Q (runDef m pf n ds) := by
  with_unfolding_all
    unfold runDef
    cases e : m (envOf pf n ds) with
  | nx δ => rw [e] at h; exact h
  | rt r δ => rw [e] at h; exact h
  | bk δ => rw [e] at h; exact h.elim
  | ct δ => rw [e] at h; exact h.elim
  | er c d δ => rw [e] at h; exact h
  | stuck => rw [e] at h; exact h.elim
end DL
/-! DP: lists of ints by Int places, data lemmas for plain laws. -/
namespace DL
open PySem PySem.Spec PyProof.Rows L2
def gI (vs : List Int) (i : Int) : Int := vs.getD i.toNat 0
theorem gI_set {vs : List Int} {b i x : Int} (hb : 0 ≤ b) (hb1 : b < vs.length) (hi : 0 ≤ i) : gI (vs.set b.toNat x) i = if i = b then x else gI vs i := by
  unfold gI
  rw [List.getD_eq_getElem?_getD, List.getD_eq_getElem?_getD, List.getElem?_set]
  by_cases e : i = b
  · subst e
    rw [if_pos rfl, if_pos rfl, if_pos (by omega)]
    rfl
  · rw [if_neg (by omega), if_neg e]
theorem gI_getElem {vs : List Int} {i : Nat} (h : i < vs.length) : gI vs (i : Int) = vs[i] := by
  unfold gI
  rw [Int.toNat_natCast, List.getD_eq_getElem?_getD, List.getElem?_eq_getElem h]
  rfl
theorem gI_get? {vs : List Int} {i : Nat} {x : Int} (h : vs[i]? = some x) : gI vs (i : Int) = x := by
  unfold gI
  rw [Int.toNat_natCast, List.getD_eq_getElem?_getD, h]
  rfl
theorem get?_gI {vs : List Int} {i : Int} (h0 : 0 ≤ i) (h1 : i < vs.length) : vs[i.toNat]? = some (gI vs i) := by
  unfold gI
  have h : i.toNat < vs.length := by omega
  rw [List.getD_eq_getElem?_getD, List.getElem?_eq_getElem h]
  rfl
theorem gI_mem {vs : List Int} {i : Int} (h0 : 0 ≤ i) (h1 : i < vs.length) : gI vs i ∈ vs := List.mem_of_getElem? (get?_gI h0 h1)
theorem mem_gI {vs : List Int} {x : Int} (h : x ∈ vs) : ∃ i : Int, 0 ≤ i ∧ i < vs.length ∧ gI vs i = x := by
  obtain ⟨i, hi, e⟩ := List.getElem_of_mem h
  exact ⟨(i : Int), by omega, by omega, by rw [gI_getElem hi, e]⟩
theorem gI_rep {n : Nat} {x i : Int} (h0 : 0 ≤ i) (h1 : i < n) : gI (List.replicate n x) i = x := by
  unfold gI
  have h : i.toNat < n := by omega
  rw [List.getD_eq_getElem?_getD, List.getElem?_replicate, if_pos h]
  rfl
theorem atI_of {α : Type} {xs : List α} {i : Int} {x : α} (h0 : 0 ≤ i) (h : xs[i.toNat]? = some x) : atI xs i = some x := by
  have hl : i.toNat < xs.length := by
    rcases Nat.lt_or_ge i.toNat xs.length with z | z
    · exact z
    · rw [List.getElem?_eq_none z] at h; cases h
  unfold atI ixN
  rw [if_pos h0, if_pos (by omega)]
  exact h
theorem dIx_tup {ds : List D} {i : Int} {d : D} (h0 : 0 ≤ i) (h : ds[i.toNat]? = some d) : dIx (.tup ds) (.int i) = some (.val d) := by
  show (atI ds i).map Rz.val = _
  rw [atI_of h0 h]; rfl
theorem dIx_lst {ds : List D} {i : Int} {d : D} (h0 : 0 ≤ i) (h : ds[i.toNat]? = some d) : dIx (.lst ds) (.int i) = some (.val d) := by
  show (atI ds i).map Rz.val = _
  rw [atI_of h0 h]; rfl
theorem map_gI {vs : List Int} {i : Int} (h0 : 0 ≤ i) (h1 : i < vs.length) : (vs.map D.int)[i.toNat]? = some (.int (gI vs i)) := by
  rw [List.getElem?_map, get?_gI h0 h1]; rfl
theorem dIx_tupI {vs : List Int} {i : Int} (h0 : 0 ≤ i) (h1 : i < vs.length) : dIx (.tup (vs.map .int)) (.int i) = some (.val (.int (gI vs i))) := dIx_tup h0 (map_gI h0 h1)
theorem dIx_lstI {vs : List Int} {i : Int} (h0 : 0 ≤ i) (h1 : i < vs.length) : dIx (.lst (vs.map .int)) (.int i) = some (.val (.int (gI vs i))) := dIx_lst h0 (map_gI h0 h1)
theorem ixN_ok {n : Nat} {i : Int} (h0 : 0 ≤ i) (h1 : i < n) : ixN n i = some i.toNat := by
  unfold ixN
  rw [if_pos h0, if_pos h1]
theorem map_set_int {vs : List Int} {n : Nat} {x : Int} : (vs.map D.int).set n (.int x) = (vs.set n x).map .int := by
  rw [List.map_set]
theorem boolsD_map : ∀ ns : List Bool, boolsD (ns.map D.bl) = some ns
  | [] => rfl
  | n :: ns => by
    show (boolsD (ns.map D.bl)).map (fun ms => n :: ms) = some (n :: ns)
    rw [boolsD_map ns]; rfl
theorem sumA_tup (vs : List Int) : dSumA [.tup (vs.map D.int)] = some (.val (.int vs.sum)) := by
  show (intsD (vs.map D.int)).map (fun ns => Rz.val (.int ns.sum)) = _
  rw [intsD_map]
  rfl
theorem sumA_lst (vs : List Int) : dSumA [.lst (vs.map D.int)] = some (.val (.int vs.sum)) := by
  unfold dSumA lOr
  show (match (intsD (vs.map D.int)).map (fun ns => Rz.val (.int ns.sum)) with | some r => some r | none => _) = _
  rw [intsD_map]
  rfl
theorem rangeD_get? {lo : Int} {n j : Nat} {d : D} (h : (rangeD lo n)[j]? = some d) : j < n ∧ d = .int (lo + (j : Int)) := by
  unfold rangeD at h
  rw [List.getElem?_map] at h
  obtain ⟨i, e1, e2⟩ := Option.map_eq_some_iff.mp h
  obtain ⟨h1, h2⟩ := List.getElem?_eq_some_iff.mp e1
  rw [List.length_range] at h1
  rw [List.getElem_range] at h2
  subst h2
  exact ⟨h1, e2.symm⟩
theorem range0_get? {n j : Nat} {d : D} (h : (rangeD 0 n)[j]? = some d) : j < n ∧ d = .int (j : Int) := by
  obtain ⟨h1, h2⟩ := rangeD_get? h
  rw [Int.zero_add] at h2
  exact ⟨h1, h2⟩
theorem rangeD_len {lo : Int} {n : Nat} : (rangeD lo n).length = n := by unfold rangeD; rw [List.length_map, List.length_range]
theorem enumD_get? {ds : List D} {j : Nat} {d : D} (h : (enumD ds)[j]? = some d) : ∃ x, ds[j]? = some x ∧ d = .tup [.int (j : Int), x] := by
  unfold enumD at h
  rw [List.getElem?_map] at h
  obtain ⟨p, e1, e2⟩ := Option.map_eq_some_iff.mp h
  rw [List.getElem?_zipIdx] at e1
  obtain ⟨x, e3, e4⟩ := Option.map_eq_some_iff.mp e1
  subst e4
  refine ⟨x, e3, ?_⟩
  rw [← e2]
  simp
theorem enumD_len {ds : List D} : (enumD ds).length = ds.length := by unfold enumD; rw [List.length_map, List.length_zipIdx]
theorem map_get? {α : Type} {f : α → D} {vs : List α} {j : Nat} {d : D} (h : (vs.map f)[j]? = some d) : ∃ x, vs[j]? = some x ∧ d = f x := by
  rw [List.getElem?_map] at h
  obtain ⟨x, e1, e2⟩ := Option.map_eq_some_iff.mp h
  exact ⟨x, e1, e2.symm⟩
theorem enumI_get? {vs : List Int} {j : Nat} {d : D} (h : (enumD (vs.map .int))[j]? = some d) : j < vs.length ∧ d = .tup [.int (j : Int), .int (gI vs (j : Int))] := by
  obtain ⟨x, e, rfl⟩ := enumD_get? h
  obtain ⟨y, e2, rfl⟩ := map_get? e
  refine ⟨(List.getElem?_eq_some_iff.mp e2).1, ?_⟩
  rw [gI_get? e2]
theorem dFdv_ok {i j : Int} (h : divOk j = true) : dFdv (.int i) (.int j) = some (.val (.int (i / j))) := by
  show (if divOk j = true then some (Rz.val (D.int (i / j))) else none) = _
  rw [if_pos h]
theorem dMod_ok {i j : Int} (h : 0 < j) : dMod (.int i) (.int j) = some (.val (.int (i % j))) := by
  show (if decide (0 < j) = true then some (Rz.val (D.int (i % j))) else none) = _
  rw [if_pos (decide_eq_true h)]
theorem dMul_ok {i j : Int} (h : mulOk i j = true) : dMul (.int i) (.int j) = some (.val (.int (i * j))) := by
  simp [dMul, fOr, fI, h]
theorem dPow_ok {i j : Int} (h : powOk i j = true) : dPow (.int i) (.int j) = some (.val (.int (i ^ j.toNat))) := by
  show (if powOk i j = true then some (Rz.val (D.int (i ^ j.toNat))) else none) = _
  rw [if_pos h]
theorem mulOk_of {i j : Int} {a b : Nat} (ha : i.natAbs < 2 ^ a) (hb : j.natAbs < 2 ^ b) (h0 : 0 < a) (h1 : 0 < b) (h : a + b ≤ 1000000) : mulOk i j = true := decide_eq_true (wide_mul ha hb h0 h1 h)
theorem mulOk_100 {i j : Int} (ha : i.natAbs < 2 ^ 200) (hb : j.natAbs < 2 ^ 200) : mulOk i j = true := mulOk_of ha hb (by decide) (by decide) (by decide)
theorem dMul_100 {i j : Int} (ha : i.natAbs < 2 ^ 200) (hb : j.natAbs < 2 ^ 200) : dMul (.int i) (.int j) = some (.val (.int (i * j))) := dMul_ok (mulOk_100 ha hb)
theorem divOk_of {u : Int} (h : 0 < u) (h2 : u < 2 ^ 100) : divOk u = true := by
  have x := PySem.Flt.log2_lt_of (n := u.natAbs) (by decide : 0 < 100) (by omega)
  unfold divOk
  rw [Bool.and_eq_true]
  exact ⟨decide_eq_true h, decide_eq_true (by omega)⟩
theorem dMul_rep {x n : Int} (h0 : 0 ≤ n) (h1 : n ≤ 16777216) : dMul (.lst [.int x]) (.int n) = some (.fr ((List.replicate n.toNat x).map .int)) := by
  have e : repL n.toNat [D.int x] = (List.replicate n.toNat x).map .int := by
    unfold repL
    rw [List.map_replicate]
    induction n.toNat with
    | zero => rfl
    | succ m ih => rw [List.replicate_succ, List.flatten_cons, ih, List.replicate_succ]; rfl
  have s : sz ([D.int x].length * n.toNat) = true := decide_eq_true (by rw [List.length_singleton]; omega)
  show (if sz ([D.int x].length * n.toNat) = true ∧ n < 9223372036854775808 ∧ -9223372036854775808 ≤ n then some (Rz.fr (repL n.toNat [D.int x])) else none) = _
  rw [if_pos ⟨s, by omega, by omega⟩, e]
theorem sz_of {n : Nat} (h : n ≤ 16777216) : sz n = true := decide_eq_true h
theorem eqD_int {i j : Int} : dEq (.int i) (.int j) = some (.val (.bl (decide (i = j)))) := rfl
theorem dAdd_i {i j : Int} : dAdd (.int i) (.int j) = some (.val (.int (i + j))) := rfl
theorem dSub_i {i j : Int} : dSub (.int i) (.int j) = some (.val (.int (i - j))) := rfl
theorem dLt_i {i j : Int} : dLt (.int i) (.int j) = some (.val (.bl (decide (i < j)))) := rfl
theorem dLe_i {i j : Int} : dLe (.int i) (.int j) = some (.val (.bl (decide (i ≤ j)))) := rfl
theorem dGt_i {i j : Int} : dGt (.int i) (.int j) = some (.val (.bl (decide (j < i)))) := rfl
theorem dGe_i {i j : Int} : dGe (.int i) (.int j) = some (.val (.bl (decide (j ≤ i)))) := rfl
theorem dEq_i {i j : Int} : dEq (.int i) (.int j) = some (.val (.bl (decide (i = j)))) := rfl
theorem dNe_i {i j : Int} : dNe (.int i) (.int j) = some (.val (.bl (!decide (i = j)))) := rfl
theorem dEq_s {i j : Str} : dEq (.str i) (.str j) = some (.val (.bl (decide (i = j)))) := rfl
theorem dNe_s {i j : Str} : dNe (.str i) (.str j) = some (.val (.bl (!decide (i = j)))) := rfl
theorem dLen_t {ds : List D} : dLen (.tup ds) = some (.val (.int (ds.length : Int))) := rfl
theorem dLen_l {ds : List D} : dLen (.lst ds) = some (.val (.int (ds.length : Int))) := rfl
theorem dLen_tI {vs : List Int} : d1 dLen [.tup (vs.map .int)] = some (.val (.int (vs.length : Int))) := by
  show some (Rz.val (.int ((vs.map D.int).length : Int))) = _
  rw [List.length_map]
theorem dLen_lI {vs : List Int} : d1 dLen [.lst (vs.map .int)] = some (.val (.int (vs.length : Int))) := by
  show some (Rz.val (.int ((vs.map D.int).length : Int))) = _
  rw [List.length_map]
theorem dIsi_tt {ds : List D} : dIsi "tuple" (.tup ds) = some (.val (.bl true)) := rfl
theorem dIsi_tl {ds : List D} : dIsi "tuple" (.lst ds) = some (.val (.bl false)) := rfl
theorem dIsi_ti {i : Int} : dIsi "tuple" (.int i) = some (.val (.bl false)) := rfl
theorem dIsi_tn : dIsi "tuple" .non = some (.val (.bl false)) := rfl
theorem dIsi_ts {i : Str} : dIsi "tuple" (.str i) = some (.val (.bl false)) := rfl
theorem dIsi_ii {i : Int} : dIsi "int" (.int i) = some (.val (.bl true)) := rfl
theorem dIsi_is {i : Str} : dIsi "int" (.str i) = some (.val (.bl false)) := rfl
theorem dIsi_in : dIsi "int" .non = some (.val (.bl false)) := rfl
theorem dIsi_it {ds : List D} : dIsi "int" (.tup ds) = some (.val (.bl false)) := rfl
theorem dIsi_il {ds : List D} : dIsi "int" (.lst ds) = some (.val (.bl false)) := rfl
theorem dIsi_bi {i : Int} : dIsi "bool" (.int i) = some (.val (.bl false)) := rfl
theorem dIsi_ss {i : Str} : dIsi "str" (.str i) = some (.val (.bl true)) := rfl
theorem dIsi_si {i : Int} : dIsi "str" (.int i) = some (.val (.bl false)) := rfl
theorem dIsi_sn : dIsi "str" .non = some (.val (.bl false)) := rfl
theorem dIsi_st {ds : List D} : dIsi "str" (.tup ds) = some (.val (.bl false)) := rfl
theorem gv_0 {δ : FEnv} : giveAll [] δ = some ([], δ) := rfl
theorem vw_0 {δ : FEnv} : views δ [] = some [] := rfl
theorem gv_1 {δ : FEnv} {a0 : D} : giveAll [.val a0] δ = some ([a0], δ) := rfl
theorem vw_1 {δ : FEnv} {a0 : D} : views δ [.val a0] = some [a0] := rfl
theorem gv_2 {δ : FEnv} {a0 a1 : D} : giveAll [.val a0, .val a1] δ = some ([a0, a1], δ) := rfl
theorem vw_2 {δ : FEnv} {a0 a1 : D} : views δ [.val a0, .val a1] = some [a0, a1] := rfl
theorem gv_3 {δ : FEnv} {a0 a1 a2 : D} : giveAll [.val a0, .val a1, .val a2] δ = some ([a0, a1, a2], δ) := rfl
theorem vw_3 {δ : FEnv} {a0 a1 a2 : D} : views δ [.val a0, .val a1, .val a2] = some [a0, a1, a2] := rfl
theorem gv_4 {δ : FEnv} {a0 a1 a2 a3 : D} : giveAll [.val a0, .val a1, .val a2, .val a3] δ = some ([a0, a1, a2, a3], δ) := rfl
theorem vw_4 {δ : FEnv} {a0 a1 a2 a3 : D} : views δ [.val a0, .val a1, .val a2, .val a3] = some [a0, a1, a2, a3] := rfl
theorem gv_5 {δ : FEnv} {a0 a1 a2 a3 a4 : D} : giveAll [.val a0, .val a1, .val a2, .val a3, .val a4] δ = some ([a0, a1, a2, a3, a4], δ) := rfl
theorem vw_5 {δ : FEnv} {a0 a1 a2 a3 a4 : D} : views δ [.val a0, .val a1, .val a2, .val a3, .val a4] = some [a0, a1, a2, a3, a4] := rfl
theorem gv_6 {δ : FEnv} {a0 a1 a2 a3 a4 a5 : D} : giveAll [.val a0, .val a1, .val a2, .val a3, .val a4, .val a5] δ = some ([a0, a1, a2, a3, a4, a5], δ) := rfl
theorem vw_6 {δ : FEnv} {a0 a1 a2 a3 a4 a5 : D} : views δ [.val a0, .val a1, .val a2, .val a3, .val a4, .val a5] = some [a0, a1, a2, a3, a4, a5] := rfl
theorem gv_7 {δ : FEnv} {a0 a1 a2 a3 a4 a5 a6 : D} : giveAll [.val a0, .val a1, .val a2, .val a3, .val a4, .val a5, .val a6] δ = some ([a0, a1, a2, a3, a4, a5, a6], δ) := rfl
theorem vw_7 {δ : FEnv} {a0 a1 a2 a3 a4 a5 a6 : D} : views δ [.val a0, .val a1, .val a2, .val a3, .val a4, .val a5, .val a6] = some [a0, a1, a2, a3, a4, a5, a6] := rfl
theorem gv_8 {δ : FEnv} {a0 a1 a2 a3 a4 a5 a6 a7 : D} : giveAll [.val a0, .val a1, .val a2, .val a3, .val a4, .val a5, .val a6, .val a7] δ = some ([a0, a1, a2, a3, a4, a5, a6, a7], δ) := rfl
theorem vw_8 {δ : FEnv} {a0 a1 a2 a3 a4 a5 a6 a7 : D} : views δ [.val a0, .val a1, .val a2, .val a3, .val a4, .val a5, .val a6, .val a7] = some [a0, a1, a2, a3, a4, a5, a6, a7] := rfl
theorem pys_int : ∀ xs : List Int, pys (xs.map D.int) = some (xs.map PyData.int)
  | [] => by rw [List.map_nil, List.map_nil, pys]
  | x :: xs => by
    rw [List.map_cons, List.map_cons, pys, pys_int xs, py]
    rfl
theorem eqvAll_int : ∀ xs ys : List Int, PyData.eqvAll (xs.map PyData.int) (ys.map PyData.int) = decide (xs = ys)
  | [], [] => by rw [List.map_nil, PyData.eqvAll]; rfl
  | [], y :: ys => by rw [List.map_nil, List.map_cons, PyData.eqvAll]; rfl
  | x :: xs, [] => by rw [List.map_nil, List.map_cons, PyData.eqvAll]; rfl
  | x :: xs, y :: ys => by
    rw [List.map_cons, List.map_cons, PyData.eqvAll, eqvAll_int xs ys, PyData.eqv]
    by_cases e : x = y
    · subst e; simp
    · simp [e]
theorem canAll_int : ∀ xs : List Int, PyData.canLayAll0 (xs.map PyData.int) = true
  | [] => by rw [List.map_nil, PyData.canLayAll0]
  | x :: xs => by rw [List.map_cons, PyData.canLayAll0, canAll_int xs, PyData.canLay0]; rfl
theorem depthAll_int : ∀ xs : List Int, PyData.depthAll (xs.map PyData.int) ≤ 1
  | [] => by rw [List.map_nil, PyData.depthAll]; omega
  | x :: xs => by
    rw [List.map_cons, PyData.depthAll]
    have := depthAll_int xs
    have h : (PyData.int x).depth ≤ 1 := by simp [PyData.depth]
    simp only [Nat.max_def]
    split <;> omega
theorem shaped_lI (xs : List Int) : SeqAt.shaped (.list (xs.map PyData.int)) = true := by
  unfold SeqAt.shaped
  have := depthAll_int xs
  rw [PyData.canLay0, canAll_int, PyData.depth]
  exact decide_eq_true (by omega)
theorem shaped_tI (xs : List Int) : SeqAt.shaped (.tuple (xs.map PyData.int)) = true := by
  unfold SeqAt.shaped
  have := depthAll_int xs
  rw [PyData.canLay0, canAll_int, PyData.depth]
  exact decide_eq_true (by omega)
theorem eqD_lI (xs ys : List Int) : eqD (.lst (xs.map D.int)) (.lst (ys.map D.int)) = some (decide (xs = ys)) := by
  show (match py (.lst (xs.map D.int)), py (.lst (ys.map D.int)) with
    | some p, some q => if SeqAt.shaped p = true ∧ SeqAt.shaped q = true then some (PyData.eqv p q) else none
    | _, _ => none) = _
  rw [py, py, pys_int, pys_int]
  show (if SeqAt.shaped (.list (xs.map PyData.int)) = true ∧ SeqAt.shaped (.list (ys.map PyData.int)) = true then some (PyData.eqv _ _) else none) = _
  rw [if_pos ⟨shaped_lI xs, shaped_lI ys⟩, PyData.eqv, eqvAll_int]
theorem eqD_tI (xs ys : List Int) : eqD (.tup (xs.map D.int)) (.tup (ys.map D.int)) = some (decide (xs = ys)) := by
  show (match py (.tup (xs.map D.int)), py (.tup (ys.map D.int)) with
    | some p, some q => if SeqAt.shaped p = true ∧ SeqAt.shaped q = true then some (PyData.eqv p q) else none
    | _, _ => none) = _
  rw [py, py, pys_int, pys_int]
  show (if SeqAt.shaped (.tuple (xs.map PyData.int)) = true ∧ SeqAt.shaped (.tuple (ys.map PyData.int)) = true then some (PyData.eqv _ _) else none) = _
  rw [if_pos ⟨shaped_tI xs, shaped_tI ys⟩, PyData.eqv, eqvAll_int]
theorem dEq_lI {xs ys : List Int} : dEq (.lst (xs.map D.int)) (.lst (ys.map D.int)) = some (.val (.bl (decide (xs = ys)))) := by unfold dEq; rw [eqD_lI]; rfl
theorem dNe_lI {xs ys : List Int} : dNe (.lst (xs.map D.int)) (.lst (ys.map D.int)) = some (.val (.bl (!decide (xs = ys)))) := by unfold dNe; rw [eqD_lI]; rfl
theorem dEq_tI {xs ys : List Int} : dEq (.tup (xs.map D.int)) (.tup (ys.map D.int)) = some (.val (.bl (decide (xs = ys)))) := by unfold dEq; rw [eqD_tI]; rfl
theorem dNe_tI {xs ys : List Int} : dNe (.tup (xs.map D.int)) (.tup (ys.map D.int)) = some (.val (.bl (!decide (xs = ys)))) := by unfold dNe; rw [eqD_tI]; rfl
theorem dEq_l0 {xs : List Int} : dEq (.lst (xs.map D.int)) (.lst []) = some (.val (.bl (decide (xs = [])))) := dEq_lI (ys := [])
theorem dNe_l0 {xs : List Int} : dNe (.lst (xs.map D.int)) (.lst []) = some (.val (.bl (!decide (xs = [])))) := dNe_lI (ys := [])
theorem dEq_bb {a b c d : Bool} : dEq (.lst [.bl a, .bl b]) (.lst [.bl c, .bl d]) = some (.val (.bl (a == c && b == d))) := by
  have e : ∀ a b : Bool, py (.lst [.bl a, .bl b]) = some (.list [.bool a, .bool b]) := fun a b => by simp [py, pys]
  have s : ∀ a b : Bool, SeqAt.shaped (.list [.bool a, .bool b]) = true := fun a b => by simp [SeqAt.shaped, PyData.canLay0, PyData.canLayAll0, PyData.depth, PyData.depthAll]
  have q : eqD (.lst [.bl a, .bl b]) (.lst [.bl c, .bl d]) = some (PyData.eqv (.list [.bool a, .bool b]) (.list [.bool c, .bool d])) := by
    show (match py (.lst [.bl a, .bl b]), py (.lst [.bl c, .bl d]) with
      | some p, some q => if SeqAt.shaped p = true ∧ SeqAt.shaped q = true then some (PyData.eqv p q) else none
      | _, _ => none) = _
    rw [e, e]
    exact if_pos ⟨s _ _, s _ _⟩
  unfold dEq
  rw [q]
  simp [PyData.eqv, PyData.eqvAll]
/-- slots that hold no list -/
abbrev ov (g : Option D) : Option SE := g.map SE.val
theorem setE_ov {δ : FEnv} {i : Nat} {g : Option D} {e : SE} (h : δ[i]? = some (ov g)) : setE δ i e = some (δ.set i (some e)) := by
  unfold setE
  rw [h]
  cases g <;> rfl
theorem setV_ov {δ : FEnv} {i : Nat} {g : Option D} {d : D} (h : δ[i]? = some (ov g)) : setSlot δ i (.val d) = some (δ.set i (some (.val d))) := setE_ov h
theorem setF_ov {δ : FEnv} {i : Nat} {g : Option D} {ds : List D} (h : δ[i]? = some (ov g)) : setSlot δ i (.fr ds) = some (δ.set i (some (.own false ds))) := setE_ov h
theorem tg_ov {δ : FEnv} {i : Nat} {g : Option D} {d : D} (h : δ[i]? = some (ov g)) : tgName i d δ = some (δ.set i (some (.val d))) := setE_ov h
theorem tg2_ov {δ : FEnv} {i j : Nat} {g g' : Option D} {x y : D} (hij : i ≠ j) (h : δ[i]? = some (ov g)) (h' : δ[j]? = some (ov g')) : tgTup [tgName i, tgName j] (.tup [x, y]) δ = some ((δ.set i (some (.val x))).set j (some (.val y))) := by
  show (setE δ i (.val x)).bind (fun δ1 => tgAll [tgName j] [y] δ1) = _
  rw [setE_ov h]
  show (setE (δ.set i (some (.val x))) j (.val y)).bind (fun δ1 => tgAll [] [] δ1) = _
  rw [setE_ov (g := g') (by rw [List.getElem?_set_ne hij]; exact h')]
  rfl
theorem setPar_ov {δ : FEnv} {i j : Nat} {g g' : Option D} {x y : D} (hij : i ≠ j) (h : δ[i]? = some (ov g)) (h' : δ[j]? = some (ov g')) : setPar δ i j (.val x) (.val y) = some ((δ.set i (some (.val x))).set j (some (.val y))) := by
  show (setSlot δ i (.val x)).bind (fun δ1 => setSlot δ1 j (.val y)) = _
  rw [setV_ov h]
  show setSlot (δ.set i (some (.val x))) j (.val y) = _
  rw [setV_ov (g := g') (by rw [List.getElem?_set_ne hij]; exact h')]
theorem setE_nt {δ : FEnv} {i : Nat} {o : Option SE} {e : SE} (h : δ[i]? = some o) (hn : ∀ ds, o ≠ some (.own true ds)) : setE δ i e = some (δ.set i (some e)) := by
  unfold setE
  rw [h]
  match o, hn with
  | none, _ => rfl
  | some (.val d), _ => rfl
  | some (.own false ds), _ => rfl
  | some (.own true ds), hn => exact absurd rfl (hn ds)
theorem setV_nt {δ : FEnv} {i : Nat} {o : Option SE} {d : D} (h : δ[i]? = some o) (hn : ∀ ds, o ≠ some (.own true ds)) : setSlot δ i (.val d) = some (δ.set i (some (.val d))) := setE_nt h hn
theorem setF_nt {δ : FEnv} {i : Nat} {o : Option SE} {ds : List D} (h : δ[i]? = some o) (hn : ∀ ds, o ≠ some (.own true ds)) : setSlot δ i (.fr ds) = some (δ.set i (some (.own false ds))) := setE_nt h hn
theorem noOwn_nil {δ : FEnv} : noOwn δ [] = true := rfl
theorem noOwn_ov {δ : FEnv} {i : Nat} {vs : List Nat} {g : Option D} (h : δ[i]? = some (ov g)) (k : noOwn δ vs = true) : noOwn δ (i :: vs) = true := by
  unfold noOwn
  rw [List.all_cons, Bool.and_eq_true]
  refine ⟨?_, k⟩
  rw [h]
  cases g <;> rfl
theorem sum_set {vs : List Int} {i : Nat} {x : Int} (h : i < vs.length) : (vs.set i x).sum = vs.sum + (x - vs[i]) := by
  induction vs generalizing i with
  | nil => simp at h
  | cons v vs ih =>
    cases i with
    | zero => simp; omega
    | succ i =>
      have h' : i < vs.length := by simpa using h
      simp only [List.set_cons_succ, List.sum_cons, List.getElem_cons_succ]
      rw [ih h']
      omega
theorem sum_setI {vs : List Int} {i x : Int} (h0 : 0 ≤ i) (h : i < vs.length) : (vs.set i.toNat x).sum = vs.sum + (x - gI vs i) := by
  have hi : i.toNat < vs.length := by omega
  rw [sum_set hi]
  have e : i = ((i.toNat : Nat) : Int) := by omega
  have := gI_getElem hi
  rw [← e] at this
  rw [this]
theorem gI_ext {vs ws : List Int} (hl : vs.length = ws.length) (h : ∀ i : Int, 0 ≤ i → i < vs.length → gI vs i = gI ws i) : vs = ws := by
  refine List.ext_getElem hl fun i h1 h2 => ?_
  have := h (i : Int) (by omega) (by omega)
  rwa [gI_getElem h1, gI_getElem h2] at this
end DL
/-! DT: the draws that all laws make (_law_pot, _law_take, _law_of, _law_cells), whatever their numbers. -/
namespace DL
open PySem PySem.Spec PyProof.Rows L2
local macro_rules | `(tactic| wtm_at "dl_gv") => `(tactic| first | (with_reducible first | exact gv_0 | exact gv_1 | exact gv_2 | exact gv_3 | exact gv_4 | exact gv_5 | exact gv_6 | exact gv_7 | exact gv_8) | rfl)
local macro_rules | `(tactic| wtm_at "dl_vw") => `(tactic| first | (with_reducible first | exact vw_0 | exact vw_1 | exact vw_2 | exact vw_3 | exact vw_4 | exact vw_5 | exact vw_6 | exact vw_7 | exact vw_8) | rfl)
local macro_rules | `(tactic| wtm_at "dl_sl") => `(tactic| try simp only [List.set_cons_zero, List.set_cons_succ])
local macro_rules | `(tactic| wtm_at "dl_bk") => `(tactic| simp only [backE, wipeE, List.getElem?_cons_zero, List.getElem?_cons_succ, Option.getD_some, List.set_cons_zero, List.set_cons_succ])
local macro_rules | `(tactic| wtm_at "dl_ge") => `(tactic| first | exact Int.le_of_lt (by assumption) | assumption)
local macro_rules | `(tactic| wtm_at "dl_f2") => `(tactic| first
  | (with_reducible first | exact dAdd_i | exact dSub_i | exact dLt_i | exact dLe_i | exact dGt_i | exact dGe_i | exact dEq_i | exact dNe_i | exact dEq_s | exact dNe_s | exact dEq_lI | exact dNe_lI | exact dEq_tI | exact dNe_tI | exact dEq_l0 | exact dNe_l0 | exact dEq_bb | exact dIx_tupI (by omega) (by omega) | exact dIx_lstI (by omega) (by omega) | exact dMul_100 (by omega) (by omega) | exact dMod_ok (by omega) | exact dFdv_ok (divOk_of (by omega) (by omega)) | fail))
local macro_rules | `(tactic| wtm_at "dl_f1") => `(tactic| with_reducible first | exact dIsi_tt | exact dIsi_tl | exact dIsi_ti | exact dIsi_tn | exact dIsi_ts | exact dIsi_ii | exact dIsi_is | exact dIsi_in | exact dIsi_it | exact dIsi_il | exact dIsi_bi | exact dIsi_ss | exact dIsi_si | exact dIsi_sn | exact dIsi_st | fail)
local macro_rules | `(tactic| wtm_at "dl_fc") => `(tactic| first | exact dLen_tI | exact dLen_lI | exact sumA_tup _ | exact sumA_lst _ | rfl)
local macro_rules | `(tactic| wtm_at "dl_e") => `(tactic| first
  | with_reducible refine w_c ?_
  | ((with_reducible refine' w_val ?e ?_); (case e => rfl))
  | ((with_reducible refine' w_own ?e ?_); (case e => rfl))
  | with_reducible refine w_bin ?_ | with_reducible refine w_un ?_ | with_reducible refine w_if ?_ | with_reducible refine w_and ?_ | with_reducible refine w_or ?_ | with_reducible refine w_not ?_ | with_reducible refine w_chain ?_
  | with_reducible refine w_acons ?_ | with_reducible refine w_anil ?_ | with_reducible refine w_tup ?_ | with_reducible refine w_lst ?_ | with_reducible refine w_cb ?_ | with_reducible refine w_sl ?_ | with_reducible refine w_part0 ?_ | with_reducible refine w_part1 ?_ | with_reducible refine w_slEnd ?_
  | with_reducible refine w_call ?_ | with_reducible refine w_callp ?_ | with_reducible refine w_app ?_ | with_reducible refine w_listRg ?_ | with_reducible refine w_dget ?_
  | with_reducible refine w_iVal ?_ | with_reducible refine w_iRange1 ?_ | with_reducible refine w_iRange2 ?_ | with_reducible refine w_iEnum1 ?_ | with_reducible refine w_iZip2 ?_ | with_reducible refine w_rg ?_
  | with_reducible refine w_seq ?_ | with_reducible refine w_set ?_ | with_reducible refine w_par ?_ | with_reducible refine w_asgT ?_ | with_reducible refine w_setIx ?_ | with_reducible refine w_expr ?_ | with_reducible refine w_ret ?_ | with_reducible refine w_next ?_ | with_reducible refine w_sif ?_
  | ((with_reducible refine' k_bin ?e1 ?e2 ?e3 ?_); (case e1 => rfl); (case e2 => rfl); (case e3 => wtm_at "dl_f2"))
  | ((with_reducible refine' k_bin (f := dIx) ?e1 ?e2 ?e3 ?_); (case e1 => rfl); (case e2 => rfl); (case e3 => rfl))
  | ((with_reducible refine' k_bin (f := dIn _) ?e1 ?e2 ?e3 ?_); (case e1 => rfl); (case e2 => rfl); (case e3 => rfl))
  | ((with_reducible refine' k_bin (f := dIs _) ?e1 ?e2 ?e3 ?_); (case e1 => rfl); (case e2 => rfl); (case e3 => rfl))
  | ((with_reducible refine' k_bin (f := dEq) ?e1 ?e2 ?e3 ?_); (case e1 => rfl); (case e2 => rfl); (case e3 => rfl))
  | ((with_reducible refine' k_bin (f := dNe) ?e1 ?e2 ?e3 ?_); (case e1 => rfl); (case e2 => rfl); (case e3 => rfl))
  | ((with_reducible refine' k_bin (f := dAdd) ?e1 ?e2 ?e3 ?_); (case e1 => rfl); (case e2 => rfl); (case e3 => rfl))
  | ((with_reducible refine' k_un ?e1 ?e2 ?_); (case e1 => rfl); (case e2 => wtm_at "dl_f1"))
  | with_reducible refine k_bool ?_ | with_reducible refine k_int ?_
  | ((with_reducible refine' k_ch ?e1 ?e2 ?e3 ?_); (case e1 => rfl); (case e2 => rfl); (case e3 => wtm_at "dl_f2"))
  | ((with_reducible refine' k_arg ?e1 ?_); (case e1 => rfl))
  | ((with_reducible refine' k_give ?e1 ?e2 ?_); (case e1 => wtm_at "dl_gv"); (case e2 => rfl))
  | ((with_reducible refine' k_give1 ?e1 ?_); (case e1 => rfl))
  | ((with_reducible refine' k_gives ?e1 ?_); (case e1 => wtm_at "dl_gv"))
  | ((with_reducible refine' k_cb ?e1 ?e2 ?_); (case e1 => wtm_at "dl_vw"); (case e2 => wtm_at "dl_fc"))
  | ((with_reducible refine' k_sl ?e1 ?e2 ?_); (case e1 => rfl); (case e2 => rfl))
  | ((with_reducible refine' k_own ?e1 ?_); (case e1 => rfl))
  | ((with_reducible refine' k_seq ?e1 ?_); (case e1 => rfl))
  | with_reducible refine k_rg1 ?_ | with_reducible refine k_rg2 ?_
  | with_reducible refine k_rg (by omega) (by omega) (by omega) (by omega) (by omega) ?_
  | ((with_reducible refine' k_en ?e1 ?e2 ?_); (case e1 => wtm_at "dl_gv"); (case e2 => rfl))
  | ((with_reducible refine' k_zp ?e1 ?e2 ?e3 ?_); (case e1 => wtm_at "dl_gv"); (case e2 => rfl); (case e3 => rfl))
  | ((with_reducible refine' k_set ?e1 ?_); (case e1 => first | rfl | exact setV_ov rfl | exact setF_ov rfl); (wtm_at "dl_sl"))
  | ((with_reducible refine' k_par ?e1 ?_); (case e1 => first | rfl | exact setPar_ov (by decide) rfl rfl); (wtm_at "dl_sl"))
  | ((with_reducible refine' k_asg ?e1 ?e2 ?_); (case e1 => rfl); (case e2 => first | rfl | exact tg2_ov (by decide) rfl rfl); (wtm_at "dl_sl"))
  | with_reducible refine k_t ?_ | with_reducible refine k_f ?_ | with_reducible refine k_nt ?_ | with_reducible refine k_nf ?_
  | with_reducible refine k_decT (by omega) ?_ | with_reducible refine k_decF (by omega) ?_ | with_reducible refine k_decN (by omega) ?_ | with_reducible refine k_decM (by omega) ?_ | with_reducible refine k_bt (by decide) ?_ | with_reducible refine k_bf (by decide) ?_)
local macro_rules | `(tactic| wtm_at "dl_w") => `(tactic| repeat (wtm_at "dl_e"))
def mTake (c1 c2 c3 c4 : Int) : Sz := (sSeq (sIf (mBin dGt (mBin dIx (mVar 0) (mC (.int 0))) (mC (.int 0))) (sSeq (sSet 2 (mBin dMod (mCB (d1 dInt) [(mBin dIx (mVar 0) (mC (.int 0)))]) (mVar 1))) (sSeq (sSetIx 0 (mC (.int 0)) (mBin dFdv (mBin dIx (mVar 0) (mC (.int 0))) (mVar 1))) (sRet (mVar 2)))) sNext) (sSeq (sSetIx 0 (mC (.int 2)) (mBin dAdd (mBin dIx (mVar 0) (mC (.int 2))) (mC (.int 1)))) (sSeq (sSet 3 (mBin dIx (mLst [(mC (.int 2147483647)), (mC (.int 2147483629)), (mC (.int 2147483587)), (mC (.int 2147483579)), (mC (.int 2147483563))]) (mBin dMod (mCB (d1 dInt) [(mBin dIx (mVar 0) (mC (.int 2)))]) (mC (.int 5))))) (sSeq (sSet 4 (mBin dMod (mCB (d1 dInt) [(mBin dPow (mCB (d1 dInt) [(mBin dAdd (mBin dAdd (mBin dIx (mVar 0) (mC (.int 1))) (mBin dMul (mBin dMul (mC (.int c1)) (mBin dIx (mVar 0) (mC (.int 2)))) (mBin dIx (mVar 0) (mC (.int 2))))) (mC (.int c2)))]) (mC (.int 3)))]) (mVar 3))) (sSeq (sSet 4 (mBin dMod (mCB (d1 dInt) [(mBin dMul (mVar 4) (mBin dAdd (mBin dMod (mCB (d1 dInt) [(mVar 4)]) (mC (.int c3))) (mBin dMul (mC (.int c4)) (mBin dIx (mVar 0) (mC (.int 2))))))]) (mC (.int 2305843009213693907)))) (sRet (mBin dMod (mCB (d1 dInt) [(mBin dFdv (mVar 4) (mC (.int 128)))]) (mVar 1))))))))
def mOf (fs : FSem) : Sz := (sRet (mBin dIx (mVar 1) (mCall true fs [(mVar 0), (mCB (d1 dLen) [(mVar 1)])])))
def mCells : Sz := (sRet (mListRg1 (mCB (d2 dMax2) [(mC (.int 1)), (mCB (d2 dMin2) [(mVar 1), (mCB (d1 dLen) [(mVar 0)])])])))
def mPot2 (c3 c4 c5 : Int) : Sz := (sSeq (sSet 3 (mBin dMul (mBin dMod (mCB (d1 dInt) [(mCB (d1 dAbs) [(mVar 2)])]) (mBin dPow (mBin dPow (mC (.int 10)) (mC (.int 60))) (mC (.int 5)))) (mCB (d1 dInt) [(mBin dGe (mCB (d1 dAbs) [(mVar 2)]) (mBin dPow (mC (.int 10)) (mC (.int 18))))]))) (sSeq (sSet 4 (mBin dMod (mCB (d1 dInt) [(mVar 2)]) (mC (.int 2305843009213693951)))) (sRet (mLst [(mVar 3), (mBin dMod (mCB (d1 dInt) [(mBin dAdd (mBin dAdd (mBin dMul (mVar 4) (mC (.int c3))) (mBin dMul (mBin dMul (mC (.int c4)) (mVar 1)) (mVar 1))) (mC (.int c5)))]) (mC (.int 2305843009213693921))), (mC (.int 0))]))))
def mPot (c1 c2 c3 c4 c5 : Int) : Sz := (sSeq (sSet 2 (mIf (mBin dLt (mVar 1) (mCB (d1 dLen) [(mVar 0)])) (mBin dIx (mVar 0) (mVar 1)) (mBin dAdd (mBin dAdd (mBin dMod (mCB dSumA [(mSl (mVar 0) none (some (mC (.int 1))))]) (mC (.int 1000003))) (mBin dMul (mC (.int c1)) (mVar 1))) (mC (.int c2))))) (mPot2 c3 c4 c5))
def Cs (c : Int) : Prop := 0 ≤ c ∧ c < 2 ^ 40
section
variable {c1 c2 c3 c4 c5 : Int}
/-- a digit of the own number -/
theorem take_own {p0 p1 p2 u : Int} (h0 : 0 < p0) (hu : 0 < u) (hd : divOk u = true) : runDef (mTake c1 c2 c3 c4) true 5 [.lst [.int p0, .int p1, .int p2], .int u] = .ok (.val (.int (p0 % u))) [.int (p0 / u), .int p1, .int p2] := by
  refine run_of (Q := fun x => x = _) ?_
  show (mTake c1 c2 c3 c4 [some (.own true [.int p0, .int p1, .int p2]), some (.val (.int u)), none, none, none]).sat _
  unfold mTake
  wtm_at "dl_w"
  refine k_bin (by rfl) (by rfl) (dFdv_ok hd) ?_
  wtm_at "dl_w"
  refine k_setIx (by rfl) (by rfl) (by rfl) ?_
  wtm_at "dl_w"
  rfl
def primeD : List D := [.int 2147483647, .int 2147483629, .int 2147483587, .int 2147483579, .int 2147483563]
theorem prime_ix (q : Int) : ∃ p : Int, 0 < p ∧ p < 2147483648 ∧ dIx (.lst primeD) (.int (q % 5)) = some (.val (.int p)) := by
  have h : q % 5 = 0 ∨ q % 5 = 1 ∨ q % 5 = 2 ∨ q % 5 = 3 ∨ q % 5 = 4 := by omega
  rcases h with h | h | h | h | h <;> rw [h]
  · exact ⟨2147483647, by decide, by decide, rfl⟩
  · exact ⟨2147483629, by decide, by decide, rfl⟩
  · exact ⟨2147483587, by decide, by decide, rfl⟩
  · exact ⟨2147483579, by decide, by decide, rfl⟩
  · exact ⟨2147483563, by decide, by decide, rfl⟩
theorem abs_mul_lt {x y : Int} {a b : Nat} (hx : x.natAbs < 2 ^ a) (hy : y.natAbs < 2 ^ b) : (x * y).natAbs < 2 ^ (a + b) := by
  rw [Int.natAbs_mul, Nat.pow_add]
  exact Nat.mul_lt_mul'' hx hy
theorem take_gen {p1 p2 u : Int} (k1 : Cs c1) (k2 : Cs c2) (k3 : Cs c3) (k3' : 0 < c3) (k4 : Cs c4) (h1 : 0 ≤ p1) (h1' : p1 < 2 ^ 61) (h2 : 0 ≤ p2) (h2' : p2 < 2 ^ 60) (hu : 0 < u) : ∃ r, 0 ≤ r ∧ r < u ∧ runDef (mTake c1 c2 c3 c4) true 5 [.lst [.int 0, .int p1, .int p2], .int u] = .ok (.val (.int r)) [.int 0, .int p1, .int (p2 + 1)] := by
  obtain ⟨p, hp0, hp1, hp⟩ := prime_ix (p2 + 1)
  unfold Cs at k1 k2 k3 k4
  have b1 : (c1 * (p2 + 1)).natAbs < 2 ^ 102 := abs_mul_lt (a := 41) (b := 61) (by omega) (by omega)
  have b2 : (c1 * (p2 + 1) * (p2 + 1)).natAbs < 2 ^ 163 := abs_mul_lt (a := 102) (b := 61) b1 (by omega)
  generalize hx : p1 + c1 * (p2 + 1) * (p2 + 1) + c2 = x
  have bx : x.natAbs < 2 ^ 164 := by omega
  have pw : powOk x 3 = true := by
    have l := PySem.Flt.log2_lt_of (by decide : 0 < 164) bx
    unfold powOk
    rw [Bool.and_eq_true]
    exact ⟨rfl, decide_eq_true (by omega)⟩
  generalize hy : x ^ (3 : Int).toNat % p = y
  have y0 : 0 ≤ y := by rw [← hy]; exact Int.emod_nonneg _ (by omega)
  have y1 : y < p := by rw [← hy]; exact Int.emod_lt_of_pos _ hp0
  have z0 : 0 ≤ y % c3 := Int.emod_nonneg _ (by omega)
  have z1 : y % c3 < c3 := Int.emod_lt_of_pos _ k3'
  have b3 : (c4 * (p2 + 1)).natAbs < 2 ^ 102 := abs_mul_lt (a := 41) (b := 61) (by omega) (by omega)
  have b4 : (y % c3 + c4 * (p2 + 1)).natAbs < 2 ^ 110 := by omega
  refine ⟨(y * (y % c3 + c4 * (p2 + 1)) % 2305843009213693907) / 128 % u, Int.emod_nonneg _ (Int.ne_of_gt hu), Int.emod_lt_of_pos _ hu, ?_⟩
  refine run_of (Q := fun x => x = _) ?_
  show (mTake c1 c2 c3 c4 [some (.own true [.int 0, .int p1, .int p2]), some (.val (.int u)), none, none, none]).sat _
  unfold mTake
  wtm_at "dl_w"
  refine k_setIx (by rfl) (by rfl) (by rfl) ?_
  wtm_at "dl_w"
  refine k_bin (by rfl) (by rfl) hp ?_
  wtm_at "dl_w"
  rw [hx]
  refine k_bin (by rfl) (by rfl) (dPow_ok pw) ?_
  wtm_at "dl_w"
  rw [hy]
  wtm_at "dl_w"
  rfl
/-- a pot from which at most n digits have been blended -/
def PotOk (n : Int) (pot : List D) : Prop := ∃ p0 p1 p2 : Int, pot = [.int p0, .int p1, .int p2] ∧ 0 ≤ p0 ∧ 0 ≤ p1 ∧ p1 < 2 ^ 61 ∧ 0 ≤ p2 ∧ p2 ≤ n
theorem PotOk.mono {n m : Int} {pot : List D} (h : PotOk n pot) (hm : n ≤ m) : PotOk m pot := by
  obtain ⟨p0, p1, p2, e, a, b, c, d, f⟩ := h
  exact ⟨p0, p1, p2, e, a, b, c, d, by omega⟩
theorem PotOk.noLs {n : Int} {pot : List D} (h : PotOk n pot) : noLs pot = true := by
  obtain ⟨p0, p1, p2, rfl, _⟩ := h
  rfl
theorem PotOk.okLs {n : Int} {pot : List D} {l : Bool} (h : PotOk n pot) : okLs l pot = true := by
  unfold DL.okLs
  rw [h.noLs, Bool.or_true]
structure TakeOk (f : FSem) : Prop where
  go : ∀ {n u : Int} {pot : List D}, PotOk n pot → n < 2 ^ 60 → 0 < u → u < 2 ^ 100 → ∃ r pot', 0 ≤ r ∧ r < u ∧ f [.lst pot, .int u] = .ok (.val (.int r)) pot' ∧ PotOk (n + 1) pot'
theorem take_any (k1 : Cs c1) (k2 : Cs c2) (k3 : Cs c3) (k3' : 0 < c3) (k4 : Cs c4) : TakeOk (runDef (mTake c1 c2 c3 c4) true 5) := by
  refine ⟨fun {n u pot} h hn hu hu2 => ?_⟩
  obtain ⟨p0, p1, p2, rfl, a, b, c, d, f⟩ := h
  by_cases z : p0 = 0
  · subst z
    obtain ⟨r, h1, h2, h3⟩ := take_gen (p1 := p1) (p2 := p2) k1 k2 k3 k3' k4 b c d (by omega) hu
    exact ⟨r, _, h1, h2, h3, 0, p1, p2 + 1, rfl, by omega, b, c, by omega, by omega⟩
  · exact ⟨p0 % u, _, Int.emod_nonneg _ (by omega), Int.emod_lt_of_pos _ hu, take_own (by omega) hu (divOk_of hu hu2), p0 / u, p1, p2, rfl, Int.ediv_nonneg a (by omega), b, c, d, by omega⟩
/-- one of a list, of a tuple -/
structure OfOk (f : FSem) : Prop where
  lst : ∀ {n : Int} {pot ds : List D}, PotOk n pot → n < 2 ^ 60 → 0 < ds.length → ds.length ≤ 16777216 → ∃ (i : Nat) (d : D) (pot' : List D), ds[i]? = some d ∧ f [.lst pot, .lst ds] = .ok (.val d) pot' ∧ PotOk (n + 1) pot'
  tup : ∀ {n : Int} {pot ds : List D}, PotOk n pot → n < 2 ^ 60 → 0 < ds.length → ds.length ≤ 16777216 → ∃ (i : Nat) (d : D) (pot' : List D), ds[i]? = some d ∧ f [.lst pot, .tup ds] = .ok (.val d) pot' ∧ PotOk (n + 1) pot'
theorem of_any {ft : FSem} (T : TakeOk ft) : OfOk (runDef (mOf ft) true 2) := by
  constructor
  · intro n pot ds h hn h0 h1
    obtain ⟨r, pot', r0, r1, e, h'⟩ := T.go h hn (u := (ds.length : Int)) (by omega) (by omega)
    have hr : r.toNat < ds.length := by omega
    refine ⟨r.toNat, ds[r.toNat], pot', List.getElem?_eq_getElem hr, ?_, h'⟩
    refine run_of (Q := fun x => x = _) ?_
    show (mOf ft [some (.own true pot), some (.val (.lst ds))]).sat _
    unfold mOf
    wtm_at "dl_w"
    refine k_callp (by rfl) (by rfl) (by rfl) e h'.okLs (by rfl) ?_
    refine k_bin (by rfl) (by rfl) (dIx_lst r0 (List.getElem?_eq_getElem hr)) ?_
    rfl
  · intro n pot ds h hn h0 h1
    obtain ⟨r, pot', r0, r1, e, h'⟩ := T.go h hn (u := (ds.length : Int)) (by omega) (by omega)
    have hr : r.toNat < ds.length := by omega
    refine ⟨r.toNat, ds[r.toNat], pot', List.getElem?_eq_getElem hr, ?_, h'⟩
    refine run_of (Q := fun x => x = _) ?_
    show (mOf ft [some (.own true pot), some (.val (.tup ds))]).sat _
    unfold mOf
    wtm_at "dl_w"
    refine k_callp (by rfl) (by rfl) (by rfl) e h'.okLs (by rfl) ?_
    refine k_bin (by rfl) (by rfl) (dIx_tup r0 (List.getElem?_eq_getElem hr)) ?_
    rfl
theorem cells_eq {ns : List Int} {u : Int} (hu : 0 ≤ u) (hu2 : u < 2 ^ 20) : ∃ m : Int, 1 ≤ m ∧ (m ≤ u ∨ m = 1) ∧ runDef mCells false 2 [.scr ns, .int u] = .ok (.fr (rgD 0 m)) [] := by
  refine run_of (Q := fun x => ∃ m : Int, 1 ≤ m ∧ (m ≤ u ∨ m = 1) ∧ x = FRes.ok (.fr (rgD 0 m)) []) ?_
  show (mCells [some (.val (.scr ns)), some (.val (.int u))]).sat _
  unfold mCells
  wtm_at "dl_w"
  refine k_listRg ?_ ?_
  · unfold rgB
    refine decide_eq_true ?_
    split <;> split <;> omega
  · refine ⟨_, ?_, ?_, rfl⟩ <;> split <;> split <;> omega
theorem powOk_10 : powOk 10 60 = true ∧ powOk (10 ^ (60 : Int).toNat) 5 = true ∧ powOk 10 18 = true := by unfold powOk; decide
set_option exponentiation.threshold 2000 in
theorem pow_300 : (0 : Int) < (10 ^ (60 : Int).toNat) ^ (5 : Int).toNat ∧ (10 ^ (60 : Int).toNat : Int) ^ (5 : Int).toNat < 2 ^ 1000 := by decide
theorem dIx_scr {ns : List Int} {i : Int} (h0 : 0 ≤ i) (h1 : i < (ns.length : Int)) : dIx (.scr ns) (.int i) = some (.val (.int (gI ns i))) := by
  show (atI ns i).map (fun n => Rz.val (.int n)) = _
  rw [atI_of h0 (get?_gI h0 h1)]; rfl
theorem pot_eq {ns : List Int} {pl : Int} (k1 : Cs c1) (k2 : Cs c2) (k3 : Cs c3) (k4 : Cs c4) (k5 : Cs c5) (h0 : 0 ≤ pl) (h1 : pl < 2 ^ 20) : ∃ pot, runDef (mPot c1 c2 c3 c4 c5) false 5 [.scr ns, .int pl] = .ok (.fr pot) [] ∧ PotOk 0 pot := by
  unfold Cs at k1 k2 k3 k4 k5
  refine run_of (Q := fun x => ∃ pot, x = FRes.ok (.fr pot) [] ∧ PotOk 0 pot) ?_
  show (mPot c1 c2 c3 c4 c5 [some (.val (.scr ns)), some (.val (.int pl)), none, none, none]).sat _
  unfold mPot
  have rest : ∀ cell : Int, (mPot2 c3 c4 c5 [some (.val (.scr ns)), some (.val (.int pl)), some (.val (.int cell)), none, none]).sat (Po.run false fun x => ∃ pot, x = FRes.ok (.fr pot) [] ∧ PotOk 0 pot) := by
    intro cell
    unfold mPot2
    wtm_at "dl_w"
    refine k_bin (by rfl) (by rfl) (dPow_ok powOk_10.1) ?_
    wtm_at "dl_w"
    refine k_bin (by rfl) (by rfl) (dPow_ok powOk_10.2.1) ?_
    wtm_at "dl_w"
    refine k_bin (by rfl) (by rfl) (dMod_ok pow_300.1) ?_
    wtm_at "dl_w"
    refine k_bin (by rfl) (by rfl) (dPow_ok powOk_10.2.2) ?_
    have tb := pow_300
    generalize hT : ((10 : Int) ^ (60 : Int).toNat) ^ (5 : Int).toNat = T at tb ⊢
    generalize hA : (if cell < 0 then -cell else cell) = a at *
    have m0 := Int.emod_nonneg a (show T ≠ 0 by omega)
    have m1 := Int.emod_lt_of_pos a tb.1
    have s0 := Int.emod_nonneg cell (show (2305843009213693951 : Int) ≠ 0 by decide)
    have s1 := Int.emod_lt_of_pos cell (show (0 : Int) < 2305843009213693951 by decide)
    have b1 : (c4 * pl).natAbs < 2 ^ 60 := abs_mul_lt (a := 40) (b := 20) (by omega) (by omega)
    have q0 : ∀ x : Int, 0 ≤ x % 2305843009213693921 ∧ x % 2305843009213693921 < 2305843009213693921 := fun x => ⟨Int.emod_nonneg x (by decide), Int.emod_lt_of_pos x (by decide)⟩
    wtm_at "dl_w"
    have hb : ∀ b : Bool, 0 ≤ (if b = true then (1 : Int) else 0) ∧ (if b = true then (1 : Int) else 0) ≤ 1 := fun b => by cases b <;> decide
    have hb := hb (decide (10 ^ (18 : Int).toNat ≤ a))
    generalize (if decide (10 ^ (18 : Int).toNat ≤ a) = true then (1 : Int) else 0) = o at *
    refine k_bin (by rfl) (by rfl) (dMul_ok (mulOk_of (a := 1000) (b := 2) (by omega) (by omega) (by decide) (by decide) (by decide))) ?_
    wtm_at "dl_w"
    exact ⟨_, rfl, _, _, _, rfl, Int.mul_nonneg m0 hb.1, (q0 _).1, Int.lt_trans (q0 _).2 (by decide), Int.le_refl _, Int.le_refl _⟩
  wtm_at "dl_w"
  refine k_dec (fun e => ?_) (fun e => ?_)
  · wtm_at "dl_w"
    refine k_bin (by rfl) (by rfl) (dIx_scr h0 e) ?_
    wtm_at "dl_w"
    exact rest _
  · wtm_at "dl_w"
    exact rest _
end
end DL
namespace K52
open PySem PySem.Spec PyProof.Rows L2 LamX NdefX DL
/-! the text by places, the meanings -/
def top (i : Nat) : Stmt := PySem.Challenge.pw_enoughvoices_k52_whole_seats_of_fewer_an.main.body.getD i (.Pass ⟨0, 0, 0, 0⟩)
abbrev s__law_cells : Stmt := top 29
abbrev N__law_cells : List Str := ["script", "upto"]
def m__law_cells : Sz := (sRet (mListRg1 (mCB (d2 dMax2) [(mC (.int 1)), (mCB (d2 dMin2) [(mVar 1), (mCB (d1 dLen) [(mVar 0)])])])))
def F__law_cells : FSem := runDef m__law_cells false 2
abbrev s__law_pot : Stmt := top 26
abbrev N__law_pot : List Str := ["script", "place", "cell", "own", "small"]
def m__law_pot : Sz := (sSeq (sSet 2 (mIf (mBin dLt (mVar 1) (mCB (d1 dLen) [(mVar 0)])) (mBin dIx (mVar 0) (mVar 1)) (mBin dAdd (mBin dAdd (mBin dMod (mCB dSumA [(mSl (mVar 0) none (some (mC (.int 1))))]) (mC (.int 1000003))) (mBin dMul (mC (.int 32947)) (mVar 1))) (mC (.int 10646))))) (sSeq (sSet 3 (mBin dMul (mBin dMod (mCB (d1 dInt) [(mCB (d1 dAbs) [(mVar 2)])]) (mBin dPow (mBin dPow (mC (.int 10)) (mC (.int 60))) (mC (.int 5)))) (mCB (d1 dInt) [(mBin dGe (mCB (d1 dAbs) [(mVar 2)]) (mBin dPow (mC (.int 10)) (mC (.int 18))))]))) (sSeq (sSet 4 (mBin dMod (mCB (d1 dInt) [(mVar 2)]) (mC (.int 2305843009213693951)))) (sRet (mLst [(mVar 3), (mBin dMod (mCB (d1 dInt) [(mBin dAdd (mBin dAdd (mBin dMul (mVar 4) (mC (.int 71993))) (mBin dMul (mBin dMul (mC (.int 14028)) (mVar 1)) (mVar 1))) (mC (.int 7816)))]) (mC (.int 2305843009213693921))), (mC (.int 0))])))))
def F__law_pot : FSem := runDef m__law_pot false 5
abbrev s__law_take : Stmt := top 27
abbrev N__law_take : List Str := ["pot", "upto", "digit", "prime", "blend"]
def m__law_take : Sz := (sSeq (sIf (mBin dGt (mBin dIx (mVar 0) (mC (.int 0))) (mC (.int 0))) (sSeq (sSet 2 (mBin dMod (mCB (d1 dInt) [(mBin dIx (mVar 0) (mC (.int 0)))]) (mVar 1))) (sSeq (sSetIx 0 (mC (.int 0)) (mBin dFdv (mBin dIx (mVar 0) (mC (.int 0))) (mVar 1))) (sRet (mVar 2)))) sNext) (sSeq (sSetIx 0 (mC (.int 2)) (mBin dAdd (mBin dIx (mVar 0) (mC (.int 2))) (mC (.int 1)))) (sSeq (sSet 3 (mBin dIx (mLst [(mC (.int 2147483647)), (mC (.int 2147483629)), (mC (.int 2147483587)), (mC (.int 2147483579)), (mC (.int 2147483563))]) (mBin dMod (mCB (d1 dInt) [(mBin dIx (mVar 0) (mC (.int 2)))]) (mC (.int 5))))) (sSeq (sSet 4 (mBin dMod (mCB (d1 dInt) [(mBin dPow (mCB (d1 dInt) [(mBin dAdd (mBin dAdd (mBin dIx (mVar 0) (mC (.int 1))) (mBin dMul (mBin dMul (mC (.int 82623)) (mBin dIx (mVar 0) (mC (.int 2)))) (mBin dIx (mVar 0) (mC (.int 2))))) (mC (.int 5732)))]) (mC (.int 3)))]) (mVar 3))) (sSeq (sSet 4 (mBin dMod (mCB (d1 dInt) [(mBin dMul (mVar 4) (mBin dAdd (mBin dMod (mCB (d1 dInt) [(mVar 4)]) (mC (.int 15574))) (mBin dMul (mC (.int 364)) (mBin dIx (mVar 0) (mC (.int 2))))))]) (mC (.int 2305843009213693907)))) (sRet (mBin dMod (mCB (d1 dInt) [(mBin dFdv (mVar 4) (mC (.int 128)))]) (mVar 1))))))))
def F__law_take : FSem := runDef m__law_take true 5
abbrev s__law_of : Stmt := top 28
abbrev N__law_of : List Str := ["pot", "some"]
def m__law_of : Sz := (sRet (mBin dIx (mVar 1) (mCall true F__law_take [(mVar 0), (mCB (d1 dLen) [(mVar 1)])])))
def F__law_of : FSem := runDef m__law_of true 2
abbrev s__law_step : Stmt := top 30
abbrev N__law_step : List Str := ["kind", "seats"]
def m__law_step : Sz := (sRet (mDGet [.inr "down", .inr "half", .inr "up"] [(mBin dAdd (mVar 1) (mC (.int 1))), (mBin dAdd (mBin dMul (mC (.int 2)) (mVar 1)) (mC (.int 1))), (mVar 1)] (mVar 0)))
def F__law_step : FSem := runDef m__law_step false 2
abbrev s__law_next : Stmt := top 31
abbrev N__law_next : List Str := ["pot", "votes", "kind", "seats", "best", "at", "one", "here", "there", "none"]
def m__law_next : Sz := (sSeq (sSet 4 (mLst [])) (sSeq (sFor (iEnum1 (mVar 1)) (tgTup [(tgName 5), (tgName 6)]) (sIf (mBin dEq (mVar 4) (mLst [])) (sSet 4 (mLst [(mVar 5)])) (sSeq (sPar 7 8 (mBin dMul (mVar 6) (mCall false F__law_step [(mVar 2), (mBin dIx (mVar 3) (mBin dIx (mVar 4) (mC (.int 0))))])) (mBin dMul (mBin dIx (mVar 1) (mBin dIx (mVar 4) (mC (.int 0)))) (mCall false F__law_step [(mVar 2), (mBin dIx (mVar 3) (mVar 5))]))) (sSeq (sSet 9 (mLst [(mBin dEq (mCall false F__law_step [(mVar 2), (mBin dIx (mVar 3) (mBin dIx (mVar 4) (mC (.int 0))))]) (mC (.int 0))), (mBin dEq (mCall false F__law_step [(mVar 2), (mBin dIx (mVar 3) (mVar 5))]) (mC (.int 0)))])) (sIf (mOr (mBin dEq (mVar 9) (mLst [(mC (.bl true)), (mC (.bl true))])) (mAnd (mBin dEq (mVar 9) (mLst [(mC (.bl false)), (mC (.bl false))])) (mBin dEq (mVar 7) (mVar 8)))) (sExpr (mApp 4 (mVar 5))) (sIf (mOr (mBin dEq (mVar 9) (mLst [(mC (.bl false)), (mC (.bl true))])) (mAnd (mBin dEq (mVar 9) (mLst [(mC (.bl false)), (mC (.bl false))])) (mBin dGt (mVar 7) (mVar 8)))) (sSet 4 (mLst [(mVar 5)])) sNext)))))) (sRet (mCall true F__law_of [(mVar 0), (mVar 4)]))))
def F__law_next : FSem := runDef m__law_next true 10
abbrev s_is_integer : Stmt := top 6
abbrev N_is_integer : List Str := ["value"]
def m_is_integer : Sz := (sRet (mAnd (mUn (dIsi "int") (mVar 0)) (mNot (mUn (dIsi "bool") (mVar 0)))))
def F_is_integer : FSem := runDef m_is_integer false 1
abbrev s_is_between : Stmt := top 7
abbrev N_is_between : List Str := ["value", "least", "most"]
def m_is_between : Sz := (sRet (mAnd (mCall false F_is_integer [(mVar 0)]) (mChain dLe dLe (mVar 1) (mVar 0) (mVar 2))))
def F_is_between : FSem := runDef m_is_between false 3
abbrev s_check_votes : Stmt := top 15
abbrev N_check_votes : List Str := ["votes", "seats", "one"]
def m_check_votes : Sz := (sSeq (sIf (mOr (mNot (mUn (dIsi "tuple") (mVar 0))) (mNot (mChain dLt dLe (mC (.int 0)) (mCB (d1 dLen) [(mVar 0)]) (mC (.int 20))))) sNever sNext) (sSeq (sIf (mNot (mCB (d1 dAll) [(mComp (iVal (mVar 0)) (tgName 2) none (mCall false F_is_between [(mVar 2), (mC (.int 1)), (mC (.int 1000000000))]) [2])])) sNever sNext) (sIf (mNot (mCall false F_is_between [(mVar 1), (mC (.int 0)), (mC (.int 500))])) sNever sNext)))
def F_check_votes : FSem := runDef m_check_votes false 3
abbrev s_check_steps : Stmt := top 21
abbrev N_check_steps : List Str := ["votes", "seats", "kind"]
def m_check_steps : Sz := (sSeq (sExpr (mCall false F_check_votes [(mVar 0), (mVar 1)])) (sIf (mOr (mNot (mUn (dIsi "str") (mVar 2))) (mBin (dIn true) (mVar 2) (mTup [(mC (.str "down")), (mC (.str "half")), (mC (.str "up"))]))) sNever sNext))
def F_check_steps : FSem := runDef m_check_steps false 3
abbrev s_step : Stmt := top 22
abbrev N_step : List Str := ["kind", "seats"]
def m_step : Sz := (sSeq (sIf (mBin dEq (mVar 0) (mC (.str "half"))) (sRet (mBin dAdd (mBin dMul (mC (.int 2)) (mVar 1)) (mC (.int 1)))) sNext) (sRet (mIf (mBin dEq (mVar 0) (mC (.str "down"))) (mBin dAdd (mVar 1) (mC (.int 1))) (mVar 1))))
def F_step : FSem := runDef m_step false 2
abbrev s_by_steps : Stmt := top 23
abbrev N_by_steps : List Str := ["votes", "seats", "kind", "found", "lap", "best", "at"]
def m_by_steps : Sz := (sSeq (sExpr (mCall false F_check_steps [(mVar 0), (mVar 1), (mVar 2)])) (sSeq (sSet 3 (mBin dMul (mLst [(mC (.int 0))]) (mCB (d1 dLen) [(mVar 0)]))) (sSeq (sFor (iRange1 (mVar 1)) (tgName 4) (sSeq (sSet 5 (mC (.int 0))) (sSeq (sFor (iRange2 (mC (.int 1)) (mCB (d1 dLen) [(mVar 0)])) (tgName 6) (sIf (mBin dGt (mBin dMul (mBin dIx (mVar 0) (mVar 6)) (mCall false F_step [(mVar 2), (mBin dIx (mVar 3) (mVar 5))])) (mBin dMul (mBin dIx (mVar 0) (mVar 5)) (mCall false F_step [(mVar 2), (mBin dIx (mVar 3) (mVar 6))]))) (sSet 5 (mVar 6)) sNext)) (sSetIx 3 (mVar 5) (mBin dAdd (mBin dIx (mVar 3) (mVar 5)) (mC (.int 1))))))) (sRet (mCB (d1 dTuple) [(mVar 3)])))))
def F_by_steps : FSem := runDef m_by_steps false 7
abbrev s_are_seats : Stmt := top 20
abbrev N_are_seats : List Str := ["votes", "seats", "value", "one"]
def m_are_seats : Sz := (sSeq (sIf (mOr (mNot (mUn (dIsi "tuple") (mVar 2))) (mBin dNe (mCB (d1 dLen) [(mVar 2)]) (mCB (d1 dLen) [(mVar 0)]))) (sRet (mC (.bl false))) sNext) (sRet (mAnd (mCB (d1 dAll) [(mComp (iVal (mVar 2)) (tgName 3) none (mCall false F_is_between [(mVar 3), (mC (.int 0)), (mVar 1)]) [3])]) (mBin dEq (mCB dSumA [(mVar 2)]) (mVar 1)))))
def F_are_seats : FSem := runDef m_are_seats false 4
abbrev s_shows_by_steps : Stmt := top 24
abbrev N_shows_by_steps : List Str := ["votes", "seats", "kind", "value", "at", "one", "to", "other"]
def m_shows_by_steps : Sz := (sSeq (sExpr (mCall false F_check_steps [(mVar 0), (mVar 1), (mVar 2)])) (sSeq (sIf (mNot (mCall false F_are_seats [(mVar 0), (mVar 1), (mVar 3)])) (sRet (mC (.bl false))) sNext) (sSeq (sFor (iEnum1 (mVar 3)) (tgTup [(tgName 4), (tgName 5)]) (sFor (iEnum1 (mVar 3)) (tgTup [(tgName 6), (tgName 7)]) (sIf (mAnd (mBin dNe (mVar 4) (mVar 6)) (mAnd (mBin dGt (mVar 7) (mC (.int 0))) (mBin dGt (mBin dMul (mBin dIx (mVar 0) (mVar 4)) (mCall false F_step [(mVar 2), (mBin dSub (mVar 7) (mC (.int 1)))])) (mBin dMul (mBin dIx (mVar 0) (mVar 6)) (mCall false F_step [(mVar 2), (mVar 5)]))))) (sRet (mC (.bl false))) sNext))) (sRet (mC (.bl true))))))
def F_shows_by_steps : FSem := runDef m_shows_by_steps false 8
abbrev s__law_is_kind_right : Stmt := top 32
abbrev N__law_is_kind_right : List Str := ["pot", "votes", "kind", "many", "seats", "stops", "number", "told", "value", "some", "few", "mine", "at", "one", "less", "to", "its"]
def m__law_is_kind_right : Sz := (sSeq (sPar 4 5 (mBin dMul (mLst [(mC (.int 0))]) (mCB (d1 dLen) [(mVar 1)])) (mLst [(mCall true F__law_take [(mVar 0), (mBin dAdd (mVar 3) (mC (.int 1)))]), (mVar 3)])) (sSeq (sFor (iRange1 (mBin dAdd (mVar 3) (mC (.int 1)))) (tgName 6) (sSeq (sIf (mBin (dIn false) (mVar 6) (mVar 5)) (sSeq (sSet 7 (mCall false F_by_steps [(mVar 1), (mCB (d1 dInt) [(mVar 6)]), (mVar 2)])) (sFor (iVal (mTup [(mVar 7), (mCB (d1 dTuple) [(mVar 4)])])) (tgName 8) (sSeq (sIf (mBin (dIs true) (mCall false F_shows_by_steps [(mVar 1), (mCB (d1 dInt) [(mVar 6)]), (mVar 2), (mVar 8)]) (mC (.bl true))) (sRet (mC (.bl false))) sNext) (sSeq (sSet 9 (mComp (iRange1 (mCB (d1 dLen) [(mVar 1)])) (tgName 12) (some (mBin dEq (mCall true F__law_take [(mVar 0), (mC (.int 2))]) (mC (.int 0)))) (mVar 12) [12])) (sSeq (sPar 10 11 (mCB (d1 dTuple) [(mComp (iVal (mVar 9)) (tgName 12) none (mBin dIx (mVar 1) (mVar 12)) [12])]) (mCB (d1 dTuple) [(mComp (iVal (mVar 9)) (tgName 12) none (mBin dIx (mVar 8) (mVar 12)) [12])])) (sSeq (sIf (mAnd (mBin dNe (mVar 9) (mLst [])) (mBin (dIs true) (mCall false F_shows_by_steps [(mVar 10), (mCB dSumA [(mVar 11)]), (mVar 2), (mVar 11)]) (mC (.bl true)))) (sRet (mC (.bl false))) sNext) (sFor (iEnum1 (mVar 1)) (tgTup [(tgName 12), (tgName 13)]) (sSeq (sSet 14 (mComp (iEnum1 (mVar 1)) (tgTup [(tgName 15), (tgName 16)]) (some (mAnd (mBin dGt (mVar 13) (mVar 16)) (mBin dLt (mBin dIx (mVar 8) (mVar 12)) (mBin dIx (mVar 8) (mVar 15))))) (mVar 15) [15, 16])) (sIf (mCB (d1 dAny) [(mComp (iVal (mVar 14)) (tgName 15) none (mOr (mBin dNe (mVar 2) (mC (.str "up"))) (mOr (mBin dGt (mBin dIx (mVar 8) (mVar 12)) (mC (.int 0))) (mBin dGt (mBin dIx (mVar 8) (mVar 15)) (mC (.int 1))))) [15])]) (sRet (mC (.bl false))) sNext))))))))) sNext) (sSeq (sSet 12 (mCall true F__law_next [(mVar 0), (mVar 1), (mVar 2), (mVar 4)])) (sSetIx 4 (mVar 12) (mCB (d1 dInt) [(mBin dAdd (mBin dIx (mVar 4) (mVar 12)) (mC (.int 1)))]))))) (sRet (mC (.bl true)))))
def F__law_is_kind_right : FSem := runDef m__law_is_kind_right true 17
abbrev s_dues_of : Stmt := top 16
abbrev N_dues_of : List Str := ["votes", "seats", "whole", "one"]
def m_dues_of : Sz := (sSeq (sSet 2 (mCB dSumA [(mVar 0)])) (sRet (mComp (iVal (mVar 0)) (tgName 3) none (mTup [(mBin dFdv (mBin dMul (mVar 3) (mVar 1)) (mVar 2)), (mBin dMod (mBin dMul (mVar 3) (mVar 1)) (mVar 2))]) [3])))
def F_dues_of : FSem := runDef m_dues_of false 4
abbrev s_due_seats : Stmt := top 17
abbrev N_due_seats : List Str := ["votes", "seats", "rows", "left", "order", "low", "rest", "at"]
def m_due_seats : Sz := (sSeq (sSet 2 (mCall false F_dues_of [(mVar 0), (mVar 1)])) (sSeq (sSet 3 (mBin dSub (mVar 1) (mCB dSumA [(mComp (iVal (mVar 2)) (tgTup [(tgName 5), (tgName 6)]) none (mVar 5) [5, 6])]))) (sSeq (sSet 4 (mSortRg1 [2] (runDef (sRet (mTup [(mBin dSub (mC (.int 0)) (mBin dIx (mBin dIx (mVar 1) (mVar 0)) (mC (.int 1)))), (mVar 0)])) false 2) (mCB (d1 dLen) [(mVar 2)]))) (sRet (mCB (d1 dTuple) [(mComp (iEnum1 (mVar 2)) (tgTup [(tgName 7), (tgTup [(tgName 5), (tgName 6)])]) none (mBin dAdd (mVar 5) (mCB (d1 dInt) [(mBin (dIn false) (mVar 7) (mSl (mVar 4) none (some (mVar 3))))])) [7, 5, 6])])))))
def F_due_seats : FSem := runDef m_due_seats false 8
abbrev s_by_due : Stmt := top 18
abbrev N_by_due : List Str := ["votes", "seats"]
def m_by_due : Sz := (sSeq (sExpr (mCall false F_check_votes [(mVar 0), (mVar 1)])) (sRet (mCall false F_due_seats [(mVar 0), (mVar 1)])))
def F_by_due : FSem := runDef m_by_due false 2
abbrev s_loses : Stmt := top 19
abbrev N_loses : List Str := ["votes", "seats", "here", "there", "at", "one"]
def m_loses : Sz := (sSeq (sExpr (mCall false F_check_votes [(mVar 0), (mVar 1)])) (sSeq (sAsgT (tgTup [(tgName 2), (tgName 3)]) (mTup [(mCall false F_due_seats [(mVar 0), (mVar 1)]), (mCall false F_due_seats [(mVar 0), (mBin dAdd (mVar 1) (mC (.int 1)))])])) (sRet (mCB (d1 dTuple) [(mComp (iEnum1 (mVar 2)) (tgTup [(tgName 4), (tgName 5)]) (some (mBin dLt (mBin dIx (mVar 3) (mVar 4)) (mVar 5))) (mVar 4) [4, 5])]))))
def F_loses : FSem := runDef m_loses false 6
abbrev s__law_right : Stmt := top 33
abbrev N__law_right : List Str := ["pot", "upto", "many", "votes", "kind", "lap", "seats", "told", "more", "at", "one", "whole", "to", "its"]
def m__law_right : Sz := (sSeq (sAsgT (tgTup [(tgName 1), (tgName 2)]) (mTup [(mCall true F__law_of [(mVar 0), (mLst [(mC (.int 9)), (mC (.int 200)), (mBin dPow (mC (.int 10)) (mC (.int 9)))])]), (mBin dAdd (mC (.int 2)) (mCall true F__law_take [(mVar 0), (mC (.int 11))]))])) (sSeq (sSet 3 (mCB (d1 dTuple) [(mComp (iRange1 (mVar 2)) (tgName 9) none (mCB (d1 dInt) [(mBin dAdd (mC (.int 1)) (mCall true F__law_take [(mVar 0), (mVar 1)]))]) [9])])) (sSeq (sFor (iVal (mTup [(mC (.str "down")), (mC (.str "half")), (mC (.str "up"))])) (tgName 4) (sIf (mNot (mCall true F__law_is_kind_right [(mVar 0), (mVar 3), (mVar 4), (mCall true F__law_of [(mVar 0), (mLst [(mC (.int 3)), (mC (.int 20)), (mC (.int 120))])])])) (sRet (mC (.bl false))) sNext)) (sSeq (sFor (iRange1 (mC (.int 4))) (tgName 5) (sSeq (sSet 6 (mCB (d1 dInt) [(mCall true F__law_take [(mVar 0), (mC (.int 60))])])) (sSeq (sAsgT (tgTup [(tgName 7), (tgName 8)]) (mTup [(mCall false F_by_due [(mVar 3), (mVar 6)]), (mCall false F_by_due [(mVar 3), (mBin dAdd (mVar 6) (mC (.int 1)))])])) (sSeq (sFor (iEnum1 (mVar 3)) (tgTup [(tgName 9), (tgName 10)]) (sIf (mCB (d1 dAny) [(mComp (iEnum1 (mVar 3)) (tgTup [(tgName 12), (tgName 13)]) none (mAnd (mBin dGt (mVar 10) (mVar 13)) (mBin dLt (mBin dIx (mVar 7) (mVar 9)) (mBin dIx (mVar 7) (mVar 12)))) [12, 13])]) (sRet (mC (.bl false))) sNext)) (sSeq (sIf (mBin dNe (mCall false F_loses [(mVar 3), (mVar 6)]) (mCB (d1 dTuple) [(mComp (iRange1 (mVar 2)) (tgName 9) (some (mBin dLt (mBin dIx (mVar 8) (mVar 9)) (mBin dIx (mVar 7) (mVar 9)))) (mVar 9) [9])])) (sRet (mC (.bl false))) sNext) (sSeq (sSet 11 (mCB dSumA [(mVar 3)])) (sIf (mNot (mCB (d1 dAll) [(mComp (iZip2 (mVar 3) (mVar 7)) (tgTup [(tgName 10), (tgName 13)]) none (mChain dLe dLe (mBin dFdv (mBin dMul (mVar 10) (mVar 6)) (mVar 11)) (mVar 13) (mBin dAdd (mBin dFdv (mBin dMul (mVar 10) (mVar 6)) (mVar 11)) (mC (.int 1)))) [10, 13])])) (sRet (mC (.bl false))) sNext))))))) (sRet (mC (.bl true)))))))
def F__law_right : FSem := runDef m__law_right true 14
abbrev s_law : Stmt := top 34
abbrev N_law : List Str := ["script", "place", "pot", "lap"]
def m_law : Sz := (sSeq (sFor (iVal (mCall false F__law_cells [(mVar 0), (mC (.int 2))])) (tgName 1) (sSeq (sSet 2 (mCall false F__law_pot [(mVar 0), (mVar 1)])) (sIf (mNot (mCB (d1 dAll) [(mComp (iRange1 (mC (.int 2))) (tgName 3) none (mCall true F__law_right [(mVar 2)]) [3])])) (sRet (mC (.bl false))) sNext))) (sRet (mC (.bl true))))
def F_law : FSem := runDef m_law false 4
/-- where all lies -/
structure Adr where
  a__law_cells : Addr
  d__law_cells : FuncData
  v__law_cells : Value
  a__law_pot : Addr
  d__law_pot : FuncData
  v__law_pot : Value
  a__law_take : Addr
  d__law_take : FuncData
  v__law_take : Value
  a__law_of : Addr
  d__law_of : FuncData
  v__law_of : Value
  a__law_step : Addr
  d__law_step : FuncData
  v__law_step : Value
  a__law_next : Addr
  d__law_next : FuncData
  v__law_next : Value
  a_is_integer : Addr
  d_is_integer : FuncData
  v_is_integer : Value
  a_is_between : Addr
  d_is_between : FuncData
  v_is_between : Value
  a_check_votes : Addr
  d_check_votes : FuncData
  v_check_votes : Value
  a_check_steps : Addr
  d_check_steps : FuncData
  v_check_steps : Value
  a_step : Addr
  d_step : FuncData
  v_step : Value
  a_by_steps : Addr
  d_by_steps : FuncData
  v_by_steps : Value
  a_are_seats : Addr
  d_are_seats : FuncData
  v_are_seats : Value
  a_shows_by_steps : Addr
  d_shows_by_steps : FuncData
  v_shows_by_steps : Value
  a__law_is_kind_right : Addr
  d__law_is_kind_right : FuncData
  v__law_is_kind_right : Value
  a_dues_of : Addr
  d_dues_of : FuncData
  v_dues_of : Value
  a_due_seats : Addr
  d_due_seats : FuncData
  v_due_seats : Value
  a_by_due : Addr
  d_by_due : FuncData
  v_by_due : Value
  a_loses : Addr
  d_loses : FuncData
  v_loses : Value
  a__law_right : Addr
  d__law_right : FuncData
  v__law_right : Value
  a_law : Addr
  d_law : FuncData
  v_law : Value
  p_due_seats : Addr
  c_due_seats : Addr
  t_DOWN : Tok
  t_HALF : Tok
  t_MOST_SEATS : Tok
  t_MOST_VOTES : Tok
  t_MOST_WEIGHTS : Tok
  t_UP : Tok
abbrev gc (K : PySem.W.Frag) (A : Adr) : DL.Ctx := ⟨K, [(A.p_due_seats, fun _ _ => "due_seats.<locals>.<lambda>")], fun _ => 0⟩
/-- what the top has written -/
structure TxtB (mg : Str → Option Value) (A : Adr) : Prop where
  n_abs : mg "abs" = none
  n_all : mg "all" = none
  n_any : mg "any" = none
  n_bool : mg "bool" = none
  n_enumerate : mg "enumerate" = none
  n_int : mg "int" = none
  n_isinstance : mg "isinstance" = none
  n_len : mg "len" = none
  n_list : mg "list" = none
  n_max : mg "max" = none
  n_min : mg "min" = none
  n_range : mg "range" = none
  n_sorted : mg "sorted" = none
  n_str : mg "str" = none
  n_sum : mg "sum" = none
  n_tuple : mg "tuple" = none
  n_zip : mg "zip" = none
  c_DOWN : mg "DOWN" = some (.str "down" A.t_DOWN)
  c_HALF : mg "HALF" = some (.str "half" A.t_HALF)
  c_MOST_SEATS : mg "MOST_SEATS" = some (.int 500 A.t_MOST_SEATS)
  c_MOST_VOTES : mg "MOST_VOTES" = some (.int 1000000000 A.t_MOST_VOTES)
  c_MOST_WEIGHTS : mg "MOST_WEIGHTS" = some (.int 20 A.t_MOST_WEIGHTS)
  c_UP : mg "UP" = some (.str "up" A.t_UP)
structure Txt (K : PySem.W.Frag) (mg : Str → Option Value) (base : Heap) (A : Adr) : Prop extends TxtB mg A where
  x__law_cells : DefT K mg "_law_cells" s__law_cells ["script", "upto"] A.a__law_cells A.d__law_cells A.v__law_cells
  x__law_pot : DefT K mg "_law_pot" s__law_pot ["script", "place"] A.a__law_pot A.d__law_pot A.v__law_pot
  x__law_take : DefT K mg "_law_take" s__law_take ["pot", "upto"] A.a__law_take A.d__law_take A.v__law_take
  x__law_of : DefT K mg "_law_of" s__law_of ["pot", "some"] A.a__law_of A.d__law_of A.v__law_of
  x__law_step : DefT K mg "_law_step" s__law_step ["kind", "seats"] A.a__law_step A.d__law_step A.v__law_step
  x__law_next : DefT K mg "_law_next" s__law_next ["pot", "votes", "kind", "seats"] A.a__law_next A.d__law_next A.v__law_next
  x_is_integer : DefT K mg "is_integer" s_is_integer ["value"] A.a_is_integer A.d_is_integer A.v_is_integer
  x_is_between : DefT K mg "is_between" s_is_between ["value", "least", "most"] A.a_is_between A.d_is_between A.v_is_between
  x_check_votes : DefT K mg "check_votes" s_check_votes ["votes", "seats"] A.a_check_votes A.d_check_votes A.v_check_votes
  x_check_steps : DefT K mg "check_steps" s_check_steps ["votes", "seats", "kind"] A.a_check_steps A.d_check_steps A.v_check_steps
  x_step : DefT K mg "step" s_step ["kind", "seats"] A.a_step A.d_step A.v_step
  x_by_steps : DefT K mg "by_steps" s_by_steps ["votes", "seats", "kind"] A.a_by_steps A.d_by_steps A.v_by_steps
  x_are_seats : DefT K mg "are_seats" s_are_seats ["votes", "seats", "value"] A.a_are_seats A.d_are_seats A.v_are_seats
  x_shows_by_steps : DefT K mg "shows_by_steps" s_shows_by_steps ["votes", "seats", "kind", "value"] A.a_shows_by_steps A.d_shows_by_steps A.v_shows_by_steps
  x__law_is_kind_right : DefT K mg "_law_is_kind_right" s__law_is_kind_right ["pot", "votes", "kind", "many"] A.a__law_is_kind_right A.d__law_is_kind_right A.v__law_is_kind_right
  x_dues_of : DefT K mg "dues_of" s_dues_of ["votes", "seats"] A.a_dues_of A.d_dues_of A.v_dues_of
  x_due_seats : DefT K mg "due_seats" s_due_seats ["votes", "seats"] A.a_due_seats A.d_due_seats A.v_due_seats
  x_by_due : DefT K mg "by_due" s_by_due ["votes", "seats"] A.a_by_due A.d_by_due A.v_by_due
  x_loses : DefT K mg "loses" s_loses ["votes", "seats"] A.a_loses A.d_loses A.v_loses
  x__law_right : DefT K mg "_law_right" s__law_right ["pot"] A.a__law_right A.d__law_right A.v__law_right
  x_law : DefT K mg "law" s_law ["script"] A.a_law A.d_law A.v_law
  tb_due_seats : LamX.TabB base mg A.c_due_seats A.p_due_seats
  cd_due_seats : A.v_due_seats = .ref A.c_due_seats
  tu_due_seats : ∀ p ∈ (gc K A).T, p.1 = A.p_due_seats → p.2 = (fun _ _ => ("due_seats.<locals>.<lambda>" : Str) : Nat → Nat → Str)
section
variable {P : Program} {w : World} {K : PySem.W.Frag} {mg : Str → Option Value} {base : Heap} {A : Adr}
end
end K52
namespace K52
open PySem PySem.Spec PyProof.Rows L2 LamX NdefX DL
section
variable {P : Program} {w : World} {K : PySem.W.Frag} {mg : Str → Option Value} {base : Heap} {A : Adr}
theorem sc__law_cells : FnScope N__law_cells ["script", "upto"] (defScope s__law_cells) := ⟨rfl, rfl, rfl, by decide +kernel, rfl, by decide +kernel, by decide +kernel⟩
theorem ok__law_cells (T : Txt K mg base A) : FnOk P w K mg base (L2.CX P w) 1 A.a__law_cells A.d__law_cells ["script", "upto"] (spOf (gc K A) 2 false F__law_cells) := by
  skip
  refine @fn_okC P w K mg base (gc K A) "_law_cells" "_law_cells" s__law_cells A.a__law_cells A.d__law_cells A.v__law_cells N__law_cells ["script", "upto"] 0 2 m__law_cells false T.x__law_cells.fn sc__law_cells rfl (by decide) (fun Ar outer s H E hr => ?_)
  have nd := sc__law_cells.nd
  have hu := hr.units
  exact (bss_one (bs_ret (be_listRg (by rfl) (by rfl) T.n_list (by rfl) T.n_range (be_cb (call_max2 (by rfl)) cd_max2 (by rfl) T.n_max (by decide +kernel) (ba_cons be_int (ba_cons (be_cb (call_min2 (by rfl)) cd_min2 (by rfl) T.n_min (by decide +kernel) (ba_cons (be_var 1) (ba_cons (be_cb cr_len cd_len (by rfl) T.n_len PySem.boot_len (ba_cons (be_var 0) ba_nil)) ba_nil))) ba_nil))))))
theorem sc__law_pot : FnScope N__law_pot ["script", "place"] (defScope s__law_pot) := ⟨rfl, rfl, rfl, by decide +kernel, rfl, by decide +kernel, by decide +kernel⟩
theorem ok__law_pot (T : Txt K mg base A) : FnOk P w K mg base (L2.CX P w) 1 A.a__law_pot A.d__law_pot ["script", "place"] (spOf (gc K A) 2 false F__law_pot) := by
  skip
  refine @fn_okC P w K mg base (gc K A) "_law_pot" "_law_pot" s__law_pot A.a__law_pot A.d__law_pot A.v__law_pot N__law_pot ["script", "place"] 0 2 m__law_pot false T.x__law_pot.fn sc__law_pot rfl (by decide) (fun Ar outer s H E hr => ?_)
  have nd := sc__law_pot.nd
  have hu := hr.units
  exact (bss_cons (bs_set (i := 2) nd (by rfl) (Or.inl (by rfl)) (be_if (bt_lt (be_var 1) (be_cb cr_len cd_len (by rfl) T.n_len PySem.boot_len (ba_cons (be_var 0) ba_nil))) (be_ix (by rfl) (be_var 0) (be_var 1)) (be_add (by rfl) (be_add (by rfl) (be_mod (be_cb (cr_sumA (by rfl)) cd_sumA (by rfl) T.n_sum (by decide +kernel) (ba_cons (be_sl (by rfl) (be_var 0) bo_none (bo_some be_int)) ba_nil)) be_int) (be_mul be_int (be_var 1))) be_int))) (bss_cons (bs_set (i := 3) nd (by rfl) (Or.inl (by rfl)) (be_mul (be_mod (be_ct call_int1 cd_int (by rfl) T.n_int (by decide +kernel) (ba_cons (be_cb call_abs cd_abs (by rfl) T.n_abs (by decide +kernel) (ba_cons (be_var 2) ba_nil)) ba_nil)) (be_pow (be_pow be_int be_int) be_int)) (be_ct call_int1 cd_int (by rfl) T.n_int (by decide +kernel) (ba_cons (be_ge (be_cb call_abs cd_abs (by rfl) T.n_abs (by decide +kernel) (ba_cons (be_var 2) ba_nil)) (be_pow be_int be_int)) ba_nil)))) (bss_cons (bs_set (i := 4) nd (by rfl) (Or.inl (by rfl)) (be_mod (be_ct call_int1 cd_int (by rfl) T.n_int (by decide +kernel) (ba_cons (be_var 2) ba_nil)) be_int)) (bss_one (bs_ret (be_lst (ba_cons (be_var 3) (ba_cons (be_mod (be_ct call_int1 cd_int (by rfl) T.n_int (by decide +kernel) (ba_cons (be_add (by rfl) (be_add (by rfl) (be_mul (be_var 4) be_int) (be_mul (be_mul be_int (be_var 1)) (be_var 1))) be_int) ba_nil)) be_int) (ba_cons be_int ba_nil)))))))))
theorem sc__law_take : FnScope N__law_take ["pot", "upto"] (defScope s__law_take) := ⟨rfl, rfl, rfl, by decide +kernel, rfl, by decide +kernel, by decide +kernel⟩
theorem ok__law_take (T : Txt K mg base A) : FnOk P w K mg base (L2.CX P w) 1 A.a__law_take A.d__law_take ["pot", "upto"] (spOf (gc K A) 2 true F__law_take) := by
  skip
  refine @fn_okC P w K mg base (gc K A) "_law_take" "_law_take" s__law_take A.a__law_take A.d__law_take A.v__law_take N__law_take ["pot", "upto"] 0 2 m__law_take true T.x__law_take.fn sc__law_take rfl (by decide) (fun Ar outer s H E hr => ?_)
  have nd := sc__law_take.nd
  have hu := hr.units
  exact (bss_cons (bs_if (bt_gt (be_ix (by rfl) (be_var 0) be_int) be_int) (bss_cons (bs_set (i := 2) nd (by rfl) (Or.inl (by rfl)) (be_mod (be_ct call_int1 cd_int (by rfl) T.n_int (by decide +kernel) (ba_cons (be_ix (by rfl) (be_var 0) be_int) ba_nil)) (be_var 1))) (bss_cons (bs_setIx (j := 0) (by rfl) (Or.inl (by rfl)) be_int (be_fdv (be_ix (by rfl) (be_var 0) be_int) (be_var 1))) (bss_one (bs_ret (be_var 2))))) bss_nil) (bss_cons (bs_setIx (j := 0) (by rfl) (Or.inl (by rfl)) be_int (be_add (by rfl) (be_ix (by rfl) (be_var 0) be_int) be_int)) (bss_cons (bs_set (i := 3) nd (by rfl) (Or.inl (by rfl)) (be_ix (by rfl) (be_lst (ba_cons be_int (ba_cons be_int (ba_cons be_int (ba_cons be_int (ba_cons be_int ba_nil)))))) (be_mod (be_ct call_int1 cd_int (by rfl) T.n_int (by decide +kernel) (ba_cons (be_ix (by rfl) (be_var 0) be_int) ba_nil)) be_int))) (bss_cons (bs_set (i := 4) nd (by rfl) (Or.inl (by rfl)) (be_mod (be_ct call_int1 cd_int (by rfl) T.n_int (by decide +kernel) (ba_cons (be_pow (be_ct call_int1 cd_int (by rfl) T.n_int (by decide +kernel) (ba_cons (be_add (by rfl) (be_add (by rfl) (be_ix (by rfl) (be_var 0) be_int) (be_mul (be_mul be_int (be_ix (by rfl) (be_var 0) be_int)) (be_ix (by rfl) (be_var 0) be_int))) be_int) ba_nil)) be_int) ba_nil)) (be_var 3))) (bss_cons (bs_set (i := 4) nd (by rfl) (Or.inl (by rfl)) (be_mod (be_ct call_int1 cd_int (by rfl) T.n_int (by decide +kernel) (ba_cons (be_mul (be_var 4) (be_add (by rfl) (be_mod (be_ct call_int1 cd_int (by rfl) T.n_int (by decide +kernel) (ba_cons (be_var 4) ba_nil)) be_int) (be_mul be_int (be_ix (by rfl) (be_var 0) be_int)))) ba_nil)) be_int)) (bss_one (bs_ret (be_mod (be_ct call_int1 cd_int (by rfl) T.n_int (by decide +kernel) (ba_cons (be_fdv (be_var 4) be_int) ba_nil)) (be_var 1)))))))))
theorem sc__law_of : FnScope N__law_of ["pot", "some"] (defScope s__law_of) := ⟨rfl, rfl, rfl, by decide +kernel, rfl, by decide +kernel, by decide +kernel⟩
theorem ok__law_of (T : Txt K mg base A) : FnOk P w K mg base (L2.CX P w) 2 A.a__law_of A.d__law_of ["pot", "some"] (spOf (gc K A) 2 true F__law_of) := by
  have G__law_take := ok__law_take (P := P) (w := w) T
  refine @fn_okC P w K mg base (gc K A) "_law_of" "_law_of" s__law_of A.a__law_of A.d__law_of A.v__law_of N__law_of ["pot", "some"] 1 2 m__law_of true T.x__law_of.fn sc__law_of rfl (by decide) (fun Ar outer s H E hr => ?_)
  have nd := sc__law_of.nd
  have hu := hr.units
  exact (bss_one (bs_ret (be_ix (by rfl) (be_var 1) (be_call G__law_take (hr.mono (by decide)) (by rfl) T.x__law_take.g T.x__law_take.k T.x__law_take.b (L2.takes_of (by rfl) (by rfl) (by rfl) (by rfl)) (by rfl) (ba_cons (be_var 0) (ba_cons (be_cb cr_len cd_len (by rfl) T.n_len PySem.boot_len (ba_cons (be_var 1) ba_nil)) ba_nil))))))
theorem sc__law_step : FnScope N__law_step ["kind", "seats"] (defScope s__law_step) := ⟨rfl, rfl, rfl, by decide +kernel, rfl, by decide +kernel, by decide +kernel⟩
theorem ok__law_step (T : Txt K mg base A) : FnOk P w K mg base (L2.CX P w) 1 A.a__law_step A.d__law_step ["kind", "seats"] (spOf (gc K A) 2 false F__law_step) := by
  skip
  refine @fn_okC P w K mg base (gc K A) "_law_step" "_law_step" s__law_step A.a__law_step A.d__law_step A.v__law_step N__law_step ["kind", "seats"] 0 2 m__law_step false T.x__law_step.fn sc__law_step rfl (by decide) (fun Ar outer s H E hr => ?_)
  have nd := sc__law_step.nd
  have hu := hr.units
  exact (bss_one (bs_ret (be_dget (hu_of hr) (bp_str (be_add (by rfl) (be_var 1) be_int) (bp_str (be_add (by rfl) (be_mul be_int (be_var 1)) be_int) (bp_str (be_var 1) bp_nil))) (be_var 0) (by rfl) (by decide) (by rfl) (by rfl) (by simp) (by decide))))
theorem sc__law_next : FnScope N__law_next ["pot", "votes", "kind", "seats"] (defScope s__law_next) := ⟨rfl, rfl, rfl, by decide +kernel, rfl, by decide +kernel, by decide +kernel⟩
theorem ok__law_next (T : Txt K mg base A) : FnOk P w K mg base (L2.CX P w) 3 A.a__law_next A.d__law_next ["pot", "votes", "kind", "seats"] (spOf (gc K A) 4 true F__law_next) := by
  have G__law_of := ok__law_of (P := P) (w := w) T
  have G__law_step := ok__law_step (P := P) (w := w) T
  refine @fn_okC P w K mg base (gc K A) "_law_next" "_law_next" s__law_next A.a__law_next A.d__law_next A.v__law_next N__law_next ["pot", "votes", "kind", "seats"] 2 4 m__law_next true T.x__law_next.fn sc__law_next rfl (by decide) (fun Ar outer s H E hr => ?_)
  have nd := sc__law_next.nd
  have hu := hr.units
  exact (bss_cons (bs_set (i := 4) nd (by rfl) (Or.inl (by rfl)) (be_lst ba_nil)) (bss_cons (bs_for (vs := [5, 6]) (L2.passes_of (by rfl)) (by rfl) (bi_enum (by rfl) (by rfl) T.n_enumerate (be_var 1)) (pg_tup (n := 2) (by rfl) (pgs_cons (pg_name (i := 5) nd (by rfl) (Or.inl (by rfl))) (pgs_cons (pg_name (i := 6) nd (by rfl) (Or.inl (by rfl))) pgs_nil))) (tv_tup (n := 2) (by rfl) (tva_cons (tv_name (by decide)) (tva_cons (tv_name (by decide)) tva_nil))) (bss_one (bs_if (bt_eq (by rfl) hu (be_var 4) (be_lst ba_nil)) (bss_one (bs_set (i := 4) nd (by rfl) (Or.inl (by rfl)) (be_lst (ba_cons (be_var 5) ba_nil)))) (bss_cons (bs_par (i := 7) (j := 8) (by rfl) nd (by rfl) (by rfl) (by decide) (by rfl) (by rfl) (be_mul (be_var 6) (be_call G__law_step (hr.mono (by decide)) (by rfl) T.x__law_step.g T.x__law_step.k T.x__law_step.b (L2.takes_of (by rfl) (by rfl) (by rfl) (by rfl)) (by rfl) (ba_cons (be_var 2) (ba_cons (be_ix (by rfl) (be_var 3) (be_ix (by rfl) (be_var 4) be_int)) ba_nil)))) (be_mul (be_ix (by rfl) (be_var 1) (be_ix (by rfl) (be_var 4) be_int)) (be_call G__law_step (hr.mono (by decide)) (by rfl) T.x__law_step.g T.x__law_step.k T.x__law_step.b (L2.takes_of (by rfl) (by rfl) (by rfl) (by rfl)) (by rfl) (ba_cons (be_var 2) (ba_cons (be_ix (by rfl) (be_var 3) (be_var 5)) ba_nil))))) (bss_cons (bs_set (i := 9) nd (by rfl) (Or.inl (by rfl)) (be_lst (ba_cons (be_eq (by rfl) hu (be_call G__law_step (hr.mono (by decide)) (by rfl) T.x__law_step.g T.x__law_step.k T.x__law_step.b (L2.takes_of (by rfl) (by rfl) (by rfl) (by rfl)) (by rfl) (ba_cons (be_var 2) (ba_cons (be_ix (by rfl) (be_var 3) (be_ix (by rfl) (be_var 4) be_int)) ba_nil))) be_int) (ba_cons (be_eq (by rfl) hu (be_call G__law_step (hr.mono (by decide)) (by rfl) T.x__law_step.g T.x__law_step.k T.x__law_step.b (L2.takes_of (by rfl) (by rfl) (by rfl) (by rfl)) (by rfl) (ba_cons (be_var 2) (ba_cons (be_ix (by rfl) (be_var 3) (be_var 5)) ba_nil))) be_int) ba_nil)))) (bss_one (bs_if (bt_w (bw_or (bt_eq (by rfl) hu (be_var 9) (be_lst (ba_cons be_bl (ba_cons be_bl ba_nil)))) (bw_or1 (bt_w (bw_and (bt_eq (by rfl) hu (be_var 9) (be_lst (ba_cons be_bl (ba_cons be_bl ba_nil)))) (bw_and1 (bt_eq (by rfl) hu (be_var 7) (be_var 8)))))))) (bss_one (bs_expr (be_app (j := 4) (by rfl) (by rfl) (Or.inl (by rfl)) (be_var 5)))) (bss_one (bs_if (bt_w (bw_or (bt_eq (by rfl) hu (be_var 9) (be_lst (ba_cons be_bl (ba_cons be_bl ba_nil)))) (bw_or1 (bt_w (bw_and (bt_eq (by rfl) hu (be_var 9) (be_lst (ba_cons be_bl (ba_cons be_bl ba_nil)))) (bw_and1 (bt_gt (be_var 7) (be_var 8)))))))) (bss_one (bs_set (i := 4) nd (by rfl) (Or.inl (by rfl)) (be_lst (ba_cons (be_var 5) ba_nil)))) bss_nil))))))))) (bss_one (bs_ret (be_call G__law_of (hr.mono (by decide)) (by rfl) T.x__law_of.g T.x__law_of.k T.x__law_of.b (L2.takes_of (by rfl) (by rfl) (by rfl) (by rfl)) (by rfl) (ba_cons (be_var 0) (ba_cons (be_var 4) ba_nil)))))))
theorem sc_is_integer : FnScope N_is_integer ["value"] (defScope s_is_integer) := ⟨rfl, rfl, rfl, by decide +kernel, rfl, by decide +kernel, by decide +kernel⟩
theorem ok_is_integer (T : Txt K mg base A) : FnOk P w K mg base (L2.CX P w) 1 A.a_is_integer A.d_is_integer ["value"] (spOf (gc K A) 1 false F_is_integer) := by
  skip
  refine @fn_okC P w K mg base (gc K A) "is_integer" "is_integer" s_is_integer A.a_is_integer A.d_is_integer A.v_is_integer N_is_integer ["value"] 0 1 m_is_integer false T.x_is_integer.fn sc_is_integer rfl (by decide) (fun Ar outer s H E hr => ?_)
  have nd := sc_is_integer.nd
  have hu := hr.units
  exact (bss_one (bs_ret (be_and (be_isi (n := "int") (by rfl) (by rfl) T.n_isinstance (by rfl) T.n_int (by decide +kernel) (by decide) (be_var 0)) (be_one (be_not (be_isi (n := "bool") (by rfl) (by rfl) T.n_isinstance (by rfl) T.n_bool (by decide +kernel) (by decide) (be_var 0)))))))
theorem sc_is_between : FnScope N_is_between ["value", "least", "most"] (defScope s_is_between) := ⟨rfl, rfl, rfl, by decide +kernel, rfl, by decide +kernel, by decide +kernel⟩
theorem ok_is_between (T : Txt K mg base A) : FnOk P w K mg base (L2.CX P w) 2 A.a_is_between A.d_is_between ["value", "least", "most"] (spOf (gc K A) 3 false F_is_between) := by
  have G_is_integer := ok_is_integer (P := P) (w := w) T
  refine @fn_okC P w K mg base (gc K A) "is_between" "is_between" s_is_between A.a_is_between A.d_is_between A.v_is_between N_is_between ["value", "least", "most"] 1 3 m_is_between false T.x_is_between.fn sc_is_between rfl (by decide) (fun Ar outer s H E hr => ?_)
  have nd := sc_is_between.nd
  have hu := hr.units
  exact (bss_one (bs_ret (be_and (be_call G_is_integer (hr.mono (by decide)) (by rfl) T.x_is_integer.g T.x_is_integer.k T.x_is_integer.b (L2.takes_of (by rfl) (by rfl) (by rfl) (by rfl)) (by rfl) (ba_cons (be_var 0) ba_nil)) (be_one (be_chLeLe (be_var 1) (be_var 0) (be_var 2))))))
theorem sc_check_votes : FnScope N_check_votes ["votes", "seats"] (defScope s_check_votes) := ⟨rfl, rfl, rfl, by decide +kernel, rfl, by decide +kernel, by decide +kernel⟩
theorem ok_check_votes (T : Txt K mg base A) : FnOk P w K mg base (L2.CX P w) 3 A.a_check_votes A.d_check_votes ["votes", "seats"] (spOf (gc K A) 2 false F_check_votes) := by
  have G_is_between := ok_is_between (P := P) (w := w) T
  refine @fn_okC P w K mg base (gc K A) "check_votes" "check_votes" s_check_votes A.a_check_votes A.d_check_votes A.v_check_votes N_check_votes ["votes", "seats"] 2 2 m_check_votes false T.x_check_votes.fn sc_check_votes rfl (by decide) (fun Ar outer s H E hr => ?_)
  have nd := sc_check_votes.nd
  have hu := hr.units
  exact (bss_cons (bs_if (bt_w (bw_or (bt_not (bt_val (be_isi (n := "tuple") (by rfl) (by rfl) T.n_isinstance (by rfl) T.n_tuple (by decide +kernel) (by decide) (be_var 0)))) (bw_or1 (bt_not (bt_chLtLe be_int (be_cb cr_len cd_len (by rfl) T.n_len PySem.boot_len (ba_cons (be_var 0) ba_nil)) (be_gi (by rfl) T.c_MOST_WEIGHTS)))))) bss_never bss_nil) (bss_cons (bs_if (bt_not (bt_val (be_cb (cr_all (by rfl)) cd_all (by rfl) T.n_all (by decide +kernel) (ba_cons (be_lc (own := [("one", 2)]) (by rfl) nd (bi_val (by rfl) (be_var 0)) (blk_dec (N := N_check_votes) (sc := defScope s_check_votes) (own := [("one", 2)]) (by decide +kernel)) (fun _ _ _ _ _ => (pg_name (i := 2) nd (by rfl) (Or.inl (by rfl)))) (fun _ _ _ _ _ => bc_none) (fun _ _ _ _ _ => (be_call G_is_between (hr.mono (by decide)) (by rfl) T.x_is_between.g T.x_is_between.k T.x_is_between.b L2.takes0 (by rfl) (ba_cons (be_var 2) (ba_cons be_int (ba_cons (be_gi (by rfl) T.c_MOST_VOTES) ba_nil))))) (tv_name (by decide))) ba_nil)))) bss_never bss_nil) (bss_one (bs_if (bt_not (bt_val (be_call G_is_between (hr.mono (by decide)) (by rfl) T.x_is_between.g T.x_is_between.k T.x_is_between.b (L2.takes_of (by rfl) (by rfl) (by rfl) (by rfl)) (by rfl) (ba_cons (be_var 1) (ba_cons be_int (ba_cons (be_gi (by rfl) T.c_MOST_SEATS) ba_nil)))))) bss_never bss_nil))))
theorem sc_check_steps : FnScope N_check_steps ["votes", "seats", "kind"] (defScope s_check_steps) := ⟨rfl, rfl, rfl, by decide +kernel, rfl, by decide +kernel, by decide +kernel⟩
theorem ok_check_steps (T : Txt K mg base A) : FnOk P w K mg base (L2.CX P w) 4 A.a_check_steps A.d_check_steps ["votes", "seats", "kind"] (spOf (gc K A) 3 false F_check_steps) := by
  have G_check_votes := ok_check_votes (P := P) (w := w) T
  refine @fn_okC P w K mg base (gc K A) "check_steps" "check_steps" s_check_steps A.a_check_steps A.d_check_steps A.v_check_steps N_check_steps ["votes", "seats", "kind"] 3 3 m_check_steps false T.x_check_steps.fn sc_check_steps rfl (by decide) (fun Ar outer s H E hr => ?_)
  have nd := sc_check_steps.nd
  have hu := hr.units
  exact (bss_cons (bs_expr (be_call G_check_votes (hr.mono (by decide)) (by rfl) T.x_check_votes.g T.x_check_votes.k T.x_check_votes.b (L2.takes_of (by rfl) (by rfl) (by rfl) (by rfl)) (by rfl) (ba_cons (be_var 0) (ba_cons (be_var 1) ba_nil)))) (bss_one (bs_if (bt_w (bw_or (bt_not (bt_val (be_isi (n := "str") (by rfl) (by rfl) T.n_isinstance (by rfl) T.n_str (by decide +kernel) (by decide) (be_var 2)))) (bw_or1 (bt_notIn (by rfl) (be_var 2) (be_tu (ba_cons (be_gs (by rfl) T.c_DOWN) (ba_cons (be_gs (by rfl) T.c_HALF) (ba_cons (be_gs (by rfl) T.c_UP) ba_nil)))))))) bss_never bss_nil)))
theorem sc_step : FnScope N_step ["kind", "seats"] (defScope s_step) := ⟨rfl, rfl, rfl, by decide +kernel, rfl, by decide +kernel, by decide +kernel⟩
theorem ok_step (T : Txt K mg base A) : FnOk P w K mg base (L2.CX P w) 1 A.a_step A.d_step ["kind", "seats"] (spOf (gc K A) 2 false F_step) := by
  skip
  refine @fn_okC P w K mg base (gc K A) "step" "step" s_step A.a_step A.d_step A.v_step N_step ["kind", "seats"] 0 2 m_step false T.x_step.fn sc_step rfl (by decide) (fun Ar outer s H E hr => ?_)
  have nd := sc_step.nd
  have hu := hr.units
  exact (bss_cons (bs_if (bt_eq (by rfl) hu (be_var 0) (be_gs (by rfl) T.c_HALF)) (bss_one (bs_ret (be_add (by rfl) (be_mul be_int (be_var 1)) be_int))) bss_nil) (bss_one (bs_ret (be_if (bt_eq (by rfl) hu (be_var 0) (be_gs (by rfl) T.c_DOWN)) (be_add (by rfl) (be_var 1) be_int) (be_var 1)))))
theorem sc_by_steps : FnScope N_by_steps ["votes", "seats", "kind"] (defScope s_by_steps) := ⟨rfl, rfl, rfl, by decide +kernel, rfl, by decide +kernel, by decide +kernel⟩
theorem ok_by_steps (T : Txt K mg base A) : FnOk P w K mg base (L2.CX P w) 5 A.a_by_steps A.d_by_steps ["votes", "seats", "kind"] (spOf (gc K A) 3 false F_by_steps) := by
  have G_check_steps := ok_check_steps (P := P) (w := w) T
  have G_step := ok_step (P := P) (w := w) T
  refine @fn_okC P w K mg base (gc K A) "by_steps" "by_steps" s_by_steps A.a_by_steps A.d_by_steps A.v_by_steps N_by_steps ["votes", "seats", "kind"] 4 3 m_by_steps false T.x_by_steps.fn sc_by_steps rfl (by decide) (fun Ar outer s H E hr => ?_)
  have nd := sc_by_steps.nd
  have hu := hr.units
  exact (bss_cons (bs_expr (be_call G_check_steps (hr.mono (by decide)) (by rfl) T.x_check_steps.g T.x_check_steps.k T.x_check_steps.b (L2.takes_of (by rfl) (by rfl) (by rfl) (by rfl)) (by rfl) (ba_cons (be_var 0) (ba_cons (be_var 1) (ba_cons (be_var 2) ba_nil))))) (bss_cons (bs_set (i := 3) nd (by rfl) (Or.inl (by rfl)) (be_mul (be_lst (ba_cons be_int ba_nil)) (be_cb cr_len cd_len (by rfl) T.n_len PySem.boot_len (ba_cons (be_var 0) ba_nil)))) (bss_cons (bs_for (vs := [4]) (L2.passes_of (by rfl)) (by rfl) (bi_range1 (by rfl) T.n_range (be_var 1)) (pg_name (i := 4) nd (by rfl) (Or.inl (by rfl))) (tv_name (by decide)) (bss_cons (bs_set (i := 5) nd (by rfl) (Or.inl (by rfl)) be_int) (bss_cons (bs_for (vs := [6]) (L2.passes_of (by rfl)) (by rfl) (bi_range2 (by rfl) T.n_range (ba_cons be_int (ba_cons (be_cb cr_len cd_len (by rfl) T.n_len PySem.boot_len (ba_cons (be_var 0) ba_nil)) ba_nil))) (pg_name (i := 6) nd (by rfl) (Or.inl (by rfl))) (tv_name (by decide)) (bss_one (bs_if (bt_gt (be_mul (be_ix (by rfl) (be_var 0) (be_var 6)) (be_call G_step (hr.mono (by decide)) (by rfl) T.x_step.g T.x_step.k T.x_step.b (L2.takes_of (by rfl) (by rfl) (by rfl) (by rfl)) (by rfl) (ba_cons (be_var 2) (ba_cons (be_ix (by rfl) (be_var 3) (be_var 5)) ba_nil)))) (be_mul (be_ix (by rfl) (be_var 0) (be_var 5)) (be_call G_step (hr.mono (by decide)) (by rfl) T.x_step.g T.x_step.k T.x_step.b (L2.takes_of (by rfl) (by rfl) (by rfl) (by rfl)) (by rfl) (ba_cons (be_var 2) (ba_cons (be_ix (by rfl) (be_var 3) (be_var 6)) ba_nil))))) (bss_one (bs_set (i := 5) nd (by rfl) (Or.inl (by rfl)) (be_var 6))) bss_nil))) (bss_one (bs_setIx (j := 3) (by rfl) (Or.inl (by rfl)) (be_var 5) (be_add (by rfl) (be_ix (by rfl) (be_var 3) (be_var 5)) be_int)))))) (bss_one (bs_ret (be_ct call_tuple_of cd_tuple (by rfl) T.n_tuple (by decide +kernel) (ba_cons (be_var 3) ba_nil)))))))
theorem sc_are_seats : FnScope N_are_seats ["votes", "seats", "value"] (defScope s_are_seats) := ⟨rfl, rfl, rfl, by decide +kernel, rfl, by decide +kernel, by decide +kernel⟩
theorem ok_are_seats (T : Txt K mg base A) : FnOk P w K mg base (L2.CX P w) 3 A.a_are_seats A.d_are_seats ["votes", "seats", "value"] (spOf (gc K A) 3 false F_are_seats) := by
  have G_is_between := ok_is_between (P := P) (w := w) T
  refine @fn_okC P w K mg base (gc K A) "are_seats" "are_seats" s_are_seats A.a_are_seats A.d_are_seats A.v_are_seats N_are_seats ["votes", "seats", "value"] 2 3 m_are_seats false T.x_are_seats.fn sc_are_seats rfl (by decide) (fun Ar outer s H E hr => ?_)
  have nd := sc_are_seats.nd
  have hu := hr.units
  exact (bss_cons (bs_if (bt_w (bw_or (bt_not (bt_val (be_isi (n := "tuple") (by rfl) (by rfl) T.n_isinstance (by rfl) T.n_tuple (by decide +kernel) (by decide) (be_var 2)))) (bw_or1 (bt_ne (by rfl) hu (be_cb cr_len cd_len (by rfl) T.n_len PySem.boot_len (ba_cons (be_var 2) ba_nil)) (be_cb cr_len cd_len (by rfl) T.n_len PySem.boot_len (ba_cons (be_var 0) ba_nil)))))) (bss_one (bs_ret be_bl)) bss_nil) (bss_one (bs_ret (be_and (be_cb (cr_all (by rfl)) cd_all (by rfl) T.n_all (by decide +kernel) (ba_cons (be_lc (own := [("one", 3)]) (by rfl) nd (bi_val (by rfl) (be_var 2)) (blk_dec (N := N_are_seats) (sc := defScope s_are_seats) (own := [("one", 3)]) (by decide +kernel)) (fun _ _ _ _ _ => (pg_name (i := 3) nd (by rfl) (Or.inl (by rfl)))) (fun _ _ _ _ _ => bc_none) (fun _ _ _ _ _ => (be_call G_is_between (hr.mono (by decide)) (by rfl) T.x_is_between.g T.x_is_between.k T.x_is_between.b L2.takes0 (by rfl) (ba_cons (be_var 3) (ba_cons be_int (ba_cons (be_var 1) ba_nil))))) (tv_name (by decide))) ba_nil)) (be_one (be_eq (by rfl) hu (be_cb (cr_sumA (by rfl)) cd_sumA (by rfl) T.n_sum (by decide +kernel) (ba_cons (be_var 2) ba_nil)) (be_var 1)))))))
theorem sc_shows_by_steps : FnScope N_shows_by_steps ["votes", "seats", "kind", "value"] (defScope s_shows_by_steps) := ⟨rfl, rfl, rfl, by decide +kernel, rfl, by decide +kernel, by decide +kernel⟩
theorem ok_shows_by_steps (T : Txt K mg base A) : FnOk P w K mg base (L2.CX P w) 5 A.a_shows_by_steps A.d_shows_by_steps ["votes", "seats", "kind", "value"] (spOf (gc K A) 4 false F_shows_by_steps) := by
  have G_are_seats := ok_are_seats (P := P) (w := w) T
  have G_check_steps := ok_check_steps (P := P) (w := w) T
  have G_step := ok_step (P := P) (w := w) T
  refine @fn_okC P w K mg base (gc K A) "shows_by_steps" "shows_by_steps" s_shows_by_steps A.a_shows_by_steps A.d_shows_by_steps A.v_shows_by_steps N_shows_by_steps ["votes", "seats", "kind", "value"] 4 4 m_shows_by_steps false T.x_shows_by_steps.fn sc_shows_by_steps rfl (by decide) (fun Ar outer s H E hr => ?_)
  have nd := sc_shows_by_steps.nd
  have hu := hr.units
  exact (bss_cons (bs_expr (be_call G_check_steps (hr.mono (by decide)) (by rfl) T.x_check_steps.g T.x_check_steps.k T.x_check_steps.b (L2.takes_of (by rfl) (by rfl) (by rfl) (by rfl)) (by rfl) (ba_cons (be_var 0) (ba_cons (be_var 1) (ba_cons (be_var 2) ba_nil))))) (bss_cons (bs_if (bt_not (bt_val (be_call G_are_seats (hr.mono (by decide)) (by rfl) T.x_are_seats.g T.x_are_seats.k T.x_are_seats.b (L2.takes_of (by rfl) (by rfl) (by rfl) (by rfl)) (by rfl) (ba_cons (be_var 0) (ba_cons (be_var 1) (ba_cons (be_var 3) ba_nil)))))) (bss_one (bs_ret be_bl)) bss_nil) (bss_cons (bs_for (vs := [4, 5]) (L2.passes_of (by rfl)) (by rfl) (bi_enum (by rfl) (by rfl) T.n_enumerate (be_var 3)) (pg_tup (n := 2) (by rfl) (pgs_cons (pg_name (i := 4) nd (by rfl) (Or.inl (by rfl))) (pgs_cons (pg_name (i := 5) nd (by rfl) (Or.inl (by rfl))) pgs_nil))) (tv_tup (n := 2) (by rfl) (tva_cons (tv_name (by decide)) (tva_cons (tv_name (by decide)) tva_nil))) (bss_one (bs_for (vs := [6, 7]) (L2.passes_of (by rfl)) (by rfl) (bi_enum (by rfl) (by rfl) T.n_enumerate (be_var 3)) (pg_tup (n := 2) (by rfl) (pgs_cons (pg_name (i := 6) nd (by rfl) (Or.inl (by rfl))) (pgs_cons (pg_name (i := 7) nd (by rfl) (Or.inl (by rfl))) pgs_nil))) (tv_tup (n := 2) (by rfl) (tva_cons (tv_name (by decide)) (tva_cons (tv_name (by decide)) tva_nil))) (bss_one (bs_if (bt_w (bw_and (bt_ne (by rfl) hu (be_var 4) (be_var 6)) (bw_and (bt_gt (be_var 7) be_int) (bw_and1 (bt_gt (be_mul (be_ix (by rfl) (be_var 0) (be_var 4)) (be_call G_step (hr.mono (by decide)) (by rfl) T.x_step.g T.x_step.k T.x_step.b (L2.takes_of (by rfl) (by rfl) (by rfl) (by rfl)) (by rfl) (ba_cons (be_var 2) (ba_cons (be_sub (be_var 7) be_int) ba_nil)))) (be_mul (be_ix (by rfl) (be_var 0) (be_var 6)) (be_call G_step (hr.mono (by decide)) (by rfl) T.x_step.g T.x_step.k T.x_step.b (L2.takes_of (by rfl) (by rfl) (by rfl) (by rfl)) (by rfl) (ba_cons (be_var 2) (ba_cons (be_var 5) ba_nil))))))))) (bss_one (bs_ret be_bl)) bss_nil))))) (bss_one (bs_ret be_bl)))))
theorem sc__law_is_kind_right : FnScope N__law_is_kind_right ["pot", "votes", "kind", "many"] (defScope s__law_is_kind_right) := ⟨rfl, rfl, rfl, by decide +kernel, rfl, by decide +kernel, by decide +kernel⟩
theorem ok__law_is_kind_right (T : Txt K mg base A) : FnOk P w K mg base (L2.CX P w) 6 A.a__law_is_kind_right A.d__law_is_kind_right ["pot", "votes", "kind", "many"] (spOf (gc K A) 4 true F__law_is_kind_right) := by
  have G__law_next := ok__law_next (P := P) (w := w) T
  have G__law_take := ok__law_take (P := P) (w := w) T
  have G_by_steps := ok_by_steps (P := P) (w := w) T
  have G_shows_by_steps := ok_shows_by_steps (P := P) (w := w) T
  refine @fn_okC P w K mg base (gc K A) "_law_is_kind_right" "_law_is_kind_right" s__law_is_kind_right A.a__law_is_kind_right A.d__law_is_kind_right A.v__law_is_kind_right N__law_is_kind_right ["pot", "votes", "kind", "many"] 5 4 m__law_is_kind_right true T.x__law_is_kind_right.fn sc__law_is_kind_right rfl (by decide) (fun Ar outer s H E hr => ?_)
  have nd := sc__law_is_kind_right.nd
  have hu := hr.units
  exact (bss_cons (bs_par (i := 4) (j := 5) (by rfl) nd (by rfl) (by rfl) (by decide) (by rfl) (by rfl) (be_mul (be_lst (ba_cons be_int ba_nil)) (be_cb cr_len cd_len (by rfl) T.n_len PySem.boot_len (ba_cons (be_var 1) ba_nil))) (be_lst (ba_cons (be_call G__law_take (hr.mono (by decide)) (by rfl) T.x__law_take.g T.x__law_take.k T.x__law_take.b (L2.takes_of (by rfl) (by rfl) (by rfl) (by rfl)) (by rfl) (ba_cons (be_var 0) (ba_cons (be_add (by rfl) (be_var 3) be_int) ba_nil))) (ba_cons (be_var 3) ba_nil)))) (bss_cons (bs_for (vs := [6]) (L2.passes_of (by rfl)) (by rfl) (bi_range1 (by rfl) T.n_range (be_add (by rfl) (be_var 3) be_int)) (pg_name (i := 6) nd (by rfl) (Or.inl (by rfl))) (tv_name (by decide)) (bss_cons (bs_if (bt_in (by rfl) (be_var 6) (be_var 5)) (bss_cons (bs_set (i := 7) nd (by rfl) (Or.inl (by rfl)) (be_callK G_by_steps (hr.mono (by decide)) (by rfl) T.x_by_steps.g T.x_by_steps.k T.x_by_steps.kw (L2.takes_of (by rfl) (by rfl) (by rfl) (by rfl)) (by rfl) (bk_cons (be_var 1) (bk_cons (be_ct call_int1 cd_int (by rfl) T.n_int (by decide +kernel) (ba_cons (be_var 6) ba_nil)) (bk_cons (be_var 2) bk_nil))))) (bss_one (bs_for (vs := [8]) (L2.passes_of (by rfl)) (by rfl) (bi_val (by rfl) (be_tu (ba_cons (be_var 7) (ba_cons (be_ct call_tuple_of cd_tuple (by rfl) T.n_tuple (by decide +kernel) (ba_cons (be_var 4) ba_nil)) ba_nil)))) (pg_name (i := 8) nd (by rfl) (Or.inr (by rfl))) (tv_name (by decide)) (bss_cons (bs_if (bt_isNot (be_callK G_shows_by_steps (hr.mono (by decide)) (by rfl) T.x_shows_by_steps.g T.x_shows_by_steps.k T.x_shows_by_steps.kw (L2.takes_of (by rfl) (by rfl) (by rfl) (by rfl)) (by rfl) (bk_cons (be_var 1) (bk_cons (be_ct call_int1 cd_int (by rfl) T.n_int (by decide +kernel) (ba_cons (be_var 6) ba_nil)) (bk_cons (be_var 2) (bk_cons (be_var 8) bk_nil))))) be_bl) (bss_one (bs_ret be_bl)) bss_nil) (bss_cons (bs_setLc (i := 9) (own := [("at", 12)]) (by rfl) nd (by rfl) (by rfl) (sw_true (by rfl) (by rfl) (by rfl) (by decide +kernel)) (bi_range1 (by rfl) T.n_range (be_cb cr_len cd_len (by rfl) T.n_len PySem.boot_len (ba_cons (be_var 1) ba_nil))) (blk_dec (N := N__law_is_kind_right) (sc := defScope s__law_is_kind_right) (own := [("at", 12)]) (by decide +kernel)) (fun _ _ _ _ _ => (pg_name (i := 12) nd (by rfl) (Or.inl (by rfl)))) (fun _ _ _ _ _ => (bc_some (bt_eq (by rfl) hu (be_call G__law_take (hr.mono (by decide)) (by rfl) T.x__law_take.g T.x__law_take.k T.x__law_take.b L2.takes0 (by rfl) (ba_cons (be_var 0) (ba_cons be_int ba_nil))) be_int))) (fun _ _ _ _ _ => (be_var 12)) (tv_name (by decide))) (bss_cons (bs_par (i := 10) (j := 11) (by rfl) nd (by rfl) (by rfl) (by decide) (by rfl) (by rfl) (be_ct call_tuple_of cd_tuple (by rfl) T.n_tuple (by decide +kernel) (ba_cons (be_lc (own := [("at", 12)]) (by rfl) nd (bi_val (by rfl) (be_var 9)) (blk_dec (N := N__law_is_kind_right) (sc := defScope s__law_is_kind_right) (own := [("at", 12)]) (by decide +kernel)) (fun _ _ _ _ _ => (pg_name (i := 12) nd (by rfl) (Or.inl (by rfl)))) (fun _ _ _ _ _ => bc_none) (fun _ _ _ _ _ => (be_ix (by rfl) (be_var 1) (be_var 12))) (tv_name (by decide))) ba_nil)) (be_ct call_tuple_of cd_tuple (by rfl) T.n_tuple (by decide +kernel) (ba_cons (be_lc (own := [("at", 12)]) (by rfl) nd (bi_val (by rfl) (be_var 9)) (blk_dec (N := N__law_is_kind_right) (sc := defScope s__law_is_kind_right) (own := [("at", 12)]) (by decide +kernel)) (fun _ _ _ _ _ => (pg_name (i := 12) nd (by rfl) (Or.inl (by rfl)))) (fun _ _ _ _ _ => bc_none) (fun _ _ _ _ _ => (be_ix (by rfl) (be_var 8) (be_var 12))) (tv_name (by decide))) ba_nil))) (bss_cons (bs_if (bt_w (bw_and (bt_ne (by rfl) hu (be_var 9) (be_lst ba_nil)) (bw_and1 (bt_isNot (be_call G_shows_by_steps (hr.mono (by decide)) (by rfl) T.x_shows_by_steps.g T.x_shows_by_steps.k T.x_shows_by_steps.b (L2.takes_of (by rfl) (by rfl) (by rfl) (by rfl)) (by rfl) (ba_cons (be_var 10) (ba_cons (be_cb (cr_sumA (by rfl)) cd_sumA (by rfl) T.n_sum (by decide +kernel) (ba_cons (be_var 11) ba_nil)) (ba_cons (be_var 2) (ba_cons (be_var 11) ba_nil))))) be_bl)))) (bss_one (bs_ret be_bl)) bss_nil) (bss_one (bs_for (vs := [12, 13]) (L2.passes_of (by rfl)) (by rfl) (bi_enum (by rfl) (by rfl) T.n_enumerate (be_var 1)) (pg_tup (n := 2) (by rfl) (pgs_cons (pg_name (i := 12) nd (by rfl) (Or.inr (by rfl))) (pgs_cons (pg_name (i := 13) nd (by rfl) (Or.inr (by rfl))) pgs_nil))) (tv_tup (n := 2) (by rfl) (tva_cons (tv_name (by decide)) (tva_cons (tv_name (by decide)) tva_nil))) (bss_cons (bs_setLc (i := 14) (own := [("to", 15), ("its", 16)]) (by rfl) nd (by rfl) (by rfl) (sw_true (by rfl) (by rfl) (by rfl) (by decide +kernel)) (bi_enum (by rfl) (by rfl) T.n_enumerate (be_var 1)) (blk_dec (N := N__law_is_kind_right) (sc := defScope s__law_is_kind_right) (own := [("to", 15), ("its", 16)]) (by decide +kernel)) (fun _ _ _ _ _ => (pg_tup (n := 2) (by rfl) (pgs_cons (pg_name (i := 15) nd (by rfl) (Or.inl (by rfl))) (pgs_cons (pg_name (i := 16) nd (by rfl) (Or.inl (by rfl))) pgs_nil)))) (fun _ _ _ _ _ => (bc_some (bt_w (bw_and (bt_gt (be_var 13) (be_var 16)) (bw_and1 (bt_lt (be_ix (by rfl) (be_var 8) (be_var 12)) (be_ix (by rfl) (be_var 8) (be_var 15)))))))) (fun _ _ _ _ _ => (be_var 15)) (tv_tup (n := 2) (by rfl) (tva_cons (tv_name (by decide)) (tva_cons (tv_name (by decide)) tva_nil)))) (bss_one (bs_if (bt_val (be_cb (cr_any (by rfl)) cd_any (by rfl) T.n_any (by decide +kernel) (ba_cons (be_lc (own := [("to", 15)]) (by rfl) nd (bi_val (by rfl) (be_var 14)) (blk_dec (N := N__law_is_kind_right) (sc := defScope s__law_is_kind_right) (own := [("to", 15)]) (by decide +kernel)) (fun _ _ _ _ _ => (pg_name (i := 15) nd (by rfl) (Or.inl (by rfl)))) (fun _ _ _ _ _ => bc_none) (fun _ _ _ _ _ => (be_or (be_ne (by rfl) hu (be_var 2) be_str) (be_or (be_gt (be_ix (by rfl) (be_var 8) (be_var 12)) be_int) (be_one (be_gt (be_ix (by rfl) (be_var 8) (be_var 15)) be_int))))) (tv_name (by decide))) ba_nil))) (bss_one (bs_ret be_bl)) bss_nil)))))))))))) bss_nil) (bss_cons (bs_set (i := 12) nd (by rfl) (Or.inr (by rfl)) (be_call G__law_next (hr.mono (by decide)) (by rfl) T.x__law_next.g T.x__law_next.k T.x__law_next.b (L2.takes_of (by rfl) (by rfl) (by rfl) (by rfl)) (by rfl) (ba_cons (be_var 0) (ba_cons (be_var 1) (ba_cons (be_var 2) (ba_cons (be_var 4) ba_nil)))))) (bss_one (bs_setIx (j := 4) (by rfl) (Or.inl (by rfl)) (be_var 12) (be_ct call_int1 cd_int (by rfl) T.n_int (by decide +kernel) (ba_cons (be_add (by rfl) (be_ix (by rfl) (be_var 4) (be_var 12)) be_int) ba_nil))))))) (bss_one (bs_ret be_bl))))
theorem sc_dues_of : FnScope N_dues_of ["votes", "seats"] (defScope s_dues_of) := ⟨rfl, rfl, rfl, by decide +kernel, rfl, by decide +kernel, by decide +kernel⟩
theorem ok_dues_of (T : Txt K mg base A) : FnOk P w K mg base (L2.CX P w) 1 A.a_dues_of A.d_dues_of ["votes", "seats"] (spOf (gc K A) 2 false F_dues_of) := by
  skip
  refine @fn_okC P w K mg base (gc K A) "dues_of" "dues_of" s_dues_of A.a_dues_of A.d_dues_of A.v_dues_of N_dues_of ["votes", "seats"] 0 2 m_dues_of false T.x_dues_of.fn sc_dues_of rfl (by decide) (fun Ar outer s H E hr => ?_)
  have nd := sc_dues_of.nd
  have hu := hr.units
  exact (bss_cons (bs_set (i := 2) nd (by rfl) (Or.inr (by rfl)) (be_cb (cr_sumA (by rfl)) cd_sumA (by rfl) T.n_sum (by decide +kernel) (ba_cons (be_var 0) ba_nil))) (bss_one (bs_ret (be_lc (own := [("one", 3)]) (by rfl) nd (bi_val (by rfl) (be_var 0)) (blk_dec (N := N_dues_of) (sc := defScope s_dues_of) (own := [("one", 3)]) (by decide +kernel)) (fun _ _ _ _ _ => (pg_name (i := 3) nd (by rfl) (Or.inl (by rfl)))) (fun _ _ _ _ _ => bc_none) (fun _ _ _ _ _ => (be_tu (ba_cons (be_fdv (be_mul (be_var 3) (be_var 1)) (be_var 2)) (ba_cons (be_mod (be_mul (be_var 3) (be_var 1)) (be_var 2)) ba_nil)))) (tv_name (by decide))))))
theorem sc_due_seats : FnScope N_due_seats ["votes", "seats"] (defScope s_due_seats) := ⟨rfl, rfl, rfl, by decide +kernel, rfl, by decide +kernel, by decide +kernel⟩
theorem ok_due_seats (T : Txt K mg base A) : FnOk P w K mg base (L2.CX P w) 5 A.a_due_seats A.d_due_seats ["votes", "seats"] (spOf (gc K A) 2 false F_due_seats) := by
  have G_dues_of := ok_dues_of (P := P) (w := w) T
  refine @fn_okC P w K mg base (gc K A) "due_seats" "due_seats" s_due_seats A.a_due_seats A.d_due_seats A.v_due_seats N_due_seats ["votes", "seats"] 4 2 m_due_seats false T.x_due_seats.fn sc_due_seats rfl (by decide) (fun Ar outer s H E hr => ?_)
  have nd := sc_due_seats.nd
  have hu := hr.units
  exact (bss_cons (bs_set (i := 2) nd (by rfl) (Or.inr (by rfl)) (be_call G_dues_of (hr.mono (by decide)) (by rfl) T.x_dues_of.g T.x_dues_of.k T.x_dues_of.b (L2.takes_of (by rfl) (by rfl) (by rfl) (by rfl)) (by rfl) (ba_cons (be_var 0) (ba_cons (be_var 1) ba_nil)))) (bss_cons (bs_set (i := 3) nd (by rfl) (Or.inr (by rfl)) (be_sub (be_var 1) (be_cb (cr_sumA (by rfl)) cd_sumA (by rfl) T.n_sum (by decide +kernel) (ba_cons (be_lc (own := [("low", 5), ("rest", 6)]) (by rfl) nd (bi_val (by rfl) (be_var 2)) (blk_dec (N := N_due_seats) (sc := defScope s_due_seats) (own := [("low", 5), ("rest", 6)]) (by decide +kernel)) (fun _ _ _ _ _ => (pg_tup (n := 2) (by rfl) (pgs_cons (pg_name (i := 5) nd (by rfl) (Or.inl (by rfl))) (pgs_cons (pg_name (i := 6) nd (by rfl) (Or.inl (by rfl))) pgs_nil)))) (fun _ _ _ _ _ => bc_none) (fun _ _ _ _ _ => (be_var 5)) (tv_tup (n := 2) (by rfl) (tva_cons (tv_name (by decide)) (tva_cons (tv_name (by decide)) tva_nil)))) ba_nil)))) (bss_cons (bs_set (i := 4) nd (by rfl) (Or.inr (by rfl)) (be_sortRg (n := 2) (js := [2]) (fr := ["rows"]) (y := "at") (Nl := ["at", "rows"]) (k := 1) (ml := (mTup [(mBin dSub (mC (.int 0)) (mBin dIx (mBin dIx (mVar 1) (mVar 0)) (mC (.int 1)))), (mVar 0)])) (by rfl) (sc := defScope s_due_seats) (by rfl) (by decide +kernel) (by decide +kernel) (by rfl) (by rfl) T.n_sorted (by rfl) T.n_range (be_cb cr_len cd_len (by rfl) T.n_len PySem.boot_len (ba_cons (be_var 2) ba_nil)) T.tb_due_seats T.cd_due_seats (by simp [gc]) (by rfl) T.tu_due_seats (by rfl) (by rfl) (by rfl) (by decide) (hr.mono (by decide)) (fun _ _ _ _ _ _ => (by rfl)) (fun c2 f2 A2 outer2 s2 H2 E hr2 => (be_tu (ba_cons (be_sub be_int (be_ix (by rfl) (be_ix (by rfl) (be_var 1) (be_var 0)) be_int)) (ba_cons (be_var 0) ba_nil)))))) (bss_one (bs_ret (be_ct call_tuple_of cd_tuple (by rfl) T.n_tuple (by decide +kernel) (ba_cons (be_lc (own := [("at", 7), ("low", 5), ("rest", 6)]) (by rfl) nd (bi_enum (by rfl) (by rfl) T.n_enumerate (be_var 2)) (blk_dec (N := N_due_seats) (sc := defScope s_due_seats) (own := [("at", 7), ("low", 5), ("rest", 6)]) (by decide +kernel)) (fun _ _ _ _ _ => (pg_tup (n := 2) (by rfl) (pgs_cons (pg_name (i := 7) nd (by rfl) (Or.inl (by rfl))) (pgs_cons (pg_tup (n := 2) (by rfl) (pgs_cons (pg_name (i := 5) nd (by rfl) (Or.inl (by rfl))) (pgs_cons (pg_name (i := 6) nd (by rfl) (Or.inl (by rfl))) pgs_nil))) pgs_nil)))) (fun _ _ _ _ _ => bc_none) (fun _ _ _ _ _ => (be_add (by rfl) (be_var 5) (be_ct call_int1 cd_int (by rfl) T.n_int (by decide +kernel) (ba_cons (be_in (by rfl) (be_var 7) (be_sl (by rfl) (be_var 4) bo_none (bo_some (be_var 3)))) ba_nil)))) (tv_tup (n := 2) (by rfl) (tva_cons (tv_name (by decide)) (tva_cons (tv_tup (n := 2) (by rfl) (tva_cons (tv_name (by decide)) (tva_cons (tv_name (by decide)) tva_nil))) tva_nil)))) ba_nil)))))))
theorem sc_by_due : FnScope N_by_due ["votes", "seats"] (defScope s_by_due) := ⟨rfl, rfl, rfl, by decide +kernel, rfl, by decide +kernel, by decide +kernel⟩
theorem ok_by_due (T : Txt K mg base A) : FnOk P w K mg base (L2.CX P w) 6 A.a_by_due A.d_by_due ["votes", "seats"] (spOf (gc K A) 2 false F_by_due) := by
  have G_check_votes := ok_check_votes (P := P) (w := w) T
  have G_due_seats := ok_due_seats (P := P) (w := w) T
  refine @fn_okC P w K mg base (gc K A) "by_due" "by_due" s_by_due A.a_by_due A.d_by_due A.v_by_due N_by_due ["votes", "seats"] 5 2 m_by_due false T.x_by_due.fn sc_by_due rfl (by decide) (fun Ar outer s H E hr => ?_)
  have nd := sc_by_due.nd
  have hu := hr.units
  exact (bss_cons (bs_expr (be_call G_check_votes (hr.mono (by decide)) (by rfl) T.x_check_votes.g T.x_check_votes.k T.x_check_votes.b (L2.takes_of (by rfl) (by rfl) (by rfl) (by rfl)) (by rfl) (ba_cons (be_var 0) (ba_cons (be_var 1) ba_nil)))) (bss_one (bs_ret (be_call G_due_seats (hr.mono (by decide)) (by rfl) T.x_due_seats.g T.x_due_seats.k T.x_due_seats.b (L2.takes_of (by rfl) (by rfl) (by rfl) (by rfl)) (by rfl) (ba_cons (be_var 0) (ba_cons (be_var 1) ba_nil))))))
theorem sc_loses : FnScope N_loses ["votes", "seats"] (defScope s_loses) := ⟨rfl, rfl, rfl, by decide +kernel, rfl, by decide +kernel, by decide +kernel⟩
theorem ok_loses (T : Txt K mg base A) : FnOk P w K mg base (L2.CX P w) 6 A.a_loses A.d_loses ["votes", "seats"] (spOf (gc K A) 2 false F_loses) := by
  have G_check_votes := ok_check_votes (P := P) (w := w) T
  have G_due_seats := ok_due_seats (P := P) (w := w) T
  refine @fn_okC P w K mg base (gc K A) "loses" "loses" s_loses A.a_loses A.d_loses A.v_loses N_loses ["votes", "seats"] 5 2 m_loses false T.x_loses.fn sc_loses rfl (by decide) (fun Ar outer s H E hr => ?_)
  have nd := sc_loses.nd
  have hu := hr.units
  exact (bss_cons (bs_expr (be_call G_check_votes (hr.mono (by decide)) (by rfl) T.x_check_votes.g T.x_check_votes.k T.x_check_votes.b (L2.takes_of (by rfl) (by rfl) (by rfl) (by rfl)) (by rfl) (ba_cons (be_var 0) (ba_cons (be_var 1) ba_nil)))) (bss_cons (bs_asgT (vs := [2, 3]) (pg_tup (n := 2) (by rfl) (pgs_cons (pg_name (i := 2) nd (by rfl) (Or.inl (by rfl))) (pgs_cons (pg_name (i := 3) nd (by rfl) (Or.inr (by rfl))) pgs_nil))) (tv_tup (n := 2) (by rfl) (tva_cons (tv_name (by decide)) (tva_cons (tv_name (by decide)) tva_nil))) (be_tu (ba_cons (be_call G_due_seats (hr.mono (by decide)) (by rfl) T.x_due_seats.g T.x_due_seats.k T.x_due_seats.b (L2.takes_of (by rfl) (by rfl) (by rfl) (by rfl)) (by rfl) (ba_cons (be_var 0) (ba_cons (be_var 1) ba_nil))) (ba_cons (be_call G_due_seats (hr.mono (by decide)) (by rfl) T.x_due_seats.g T.x_due_seats.k T.x_due_seats.b (L2.takes_of (by rfl) (by rfl) (by rfl) (by rfl)) (by rfl) (ba_cons (be_var 0) (ba_cons (be_add (by rfl) (be_var 1) be_int) ba_nil))) ba_nil)))) (bss_one (bs_ret (be_ct call_tuple_of cd_tuple (by rfl) T.n_tuple (by decide +kernel) (ba_cons (be_lc (own := [("at", 4), ("one", 5)]) (by rfl) nd (bi_enum (by rfl) (by rfl) T.n_enumerate (be_var 2)) (blk_dec (N := N_loses) (sc := defScope s_loses) (own := [("at", 4), ("one", 5)]) (by decide +kernel)) (fun _ _ _ _ _ => (pg_tup (n := 2) (by rfl) (pgs_cons (pg_name (i := 4) nd (by rfl) (Or.inl (by rfl))) (pgs_cons (pg_name (i := 5) nd (by rfl) (Or.inl (by rfl))) pgs_nil)))) (fun _ _ _ _ _ => (bc_some (bt_lt (be_ix (by rfl) (be_var 3) (be_var 4)) (be_var 5)))) (fun _ _ _ _ _ => (be_var 4)) (tv_tup (n := 2) (by rfl) (tva_cons (tv_name (by decide)) (tva_cons (tv_name (by decide)) tva_nil)))) ba_nil))))))
theorem sc__law_right : FnScope N__law_right ["pot"] (defScope s__law_right) := ⟨rfl, rfl, rfl, by decide +kernel, rfl, by decide +kernel, by decide +kernel⟩
theorem ok__law_right (T : Txt K mg base A) : FnOk P w K mg base (L2.CX P w) 7 A.a__law_right A.d__law_right ["pot"] (spOf (gc K A) 1 true F__law_right) := by
  have G__law_is_kind_right := ok__law_is_kind_right (P := P) (w := w) T
  have G__law_of := ok__law_of (P := P) (w := w) T
  have G__law_take := ok__law_take (P := P) (w := w) T
  have G_by_due := ok_by_due (P := P) (w := w) T
  have G_loses := ok_loses (P := P) (w := w) T
  refine @fn_okC P w K mg base (gc K A) "_law_right" "_law_right" s__law_right A.a__law_right A.d__law_right A.v__law_right N__law_right ["pot"] 6 1 m__law_right true T.x__law_right.fn sc__law_right rfl (by decide) (fun Ar outer s H E hr => ?_)
  have nd := sc__law_right.nd
  have hu := hr.units
  exact (bss_cons (bs_asgT (vs := [1, 2]) (pg_tup (n := 2) (by rfl) (pgs_cons (pg_name (i := 1) nd (by rfl) (Or.inr (by rfl))) (pgs_cons (pg_name (i := 2) nd (by rfl) (Or.inl (by rfl))) pgs_nil))) (tv_tup (n := 2) (by rfl) (tva_cons (tv_name (by decide)) (tva_cons (tv_name (by decide)) tva_nil))) (be_tu (ba_cons (be_call G__law_of (hr.mono (by decide)) (by rfl) T.x__law_of.g T.x__law_of.k T.x__law_of.b (L2.takes_of (by rfl) (by rfl) (by rfl) (by rfl)) (by rfl) (ba_cons (be_var 0) (ba_cons (be_lst (ba_cons be_int (ba_cons be_int (ba_cons (be_pow be_int be_int) ba_nil)))) ba_nil))) (ba_cons (be_add (by rfl) be_int (be_call G__law_take (hr.mono (by decide)) (by rfl) T.x__law_take.g T.x__law_take.k T.x__law_take.b (L2.takes_of (by rfl) (by rfl) (by rfl) (by rfl)) (by rfl) (ba_cons (be_var 0) (ba_cons be_int ba_nil)))) ba_nil)))) (bss_cons (bs_set (i := 3) nd (by rfl) (Or.inl (by rfl)) (be_ct call_tuple_of cd_tuple (by rfl) T.n_tuple (by decide +kernel) (ba_cons (be_lc (own := [("at", 9)]) (by rfl) nd (bi_range1 (by rfl) T.n_range (be_var 2)) (blk_dec (N := N__law_right) (sc := defScope s__law_right) (own := [("at", 9)]) (by decide +kernel)) (fun _ _ _ _ _ => (pg_name (i := 9) nd (by rfl) (Or.inl (by rfl)))) (fun _ _ _ _ _ => bc_none) (fun _ _ _ _ _ => (be_ct call_int1 cd_int (by rfl) T.n_int (by decide +kernel) (ba_cons (be_add (by rfl) be_int (be_call G__law_take (hr.mono (by decide)) (by rfl) T.x__law_take.g T.x__law_take.k T.x__law_take.b L2.takes0 (by rfl) (ba_cons (be_var 0) (ba_cons (be_var 1) ba_nil)))) ba_nil))) (tv_name (by decide))) ba_nil))) (bss_cons (bs_for (vs := [4]) (L2.passes_of (by rfl)) (by rfl) (bi_val (by rfl) (be_tu (ba_cons be_str (ba_cons be_str (ba_cons be_str ba_nil))))) (pg_name (i := 4) nd (by rfl) (Or.inl (by rfl))) (tv_name (by decide)) (bss_one (bs_if (bt_not (bt_val (be_call G__law_is_kind_right (hr.mono (by decide)) (by rfl) T.x__law_is_kind_right.g T.x__law_is_kind_right.k T.x__law_is_kind_right.b (L2.takes_of (by rfl) (by rfl) (by rfl) (by rfl)) (by rfl) (ba_cons (be_var 0) (ba_cons (be_var 3) (ba_cons (be_var 4) (ba_cons (be_call G__law_of (hr.mono (by decide)) (by rfl) T.x__law_of.g T.x__law_of.k T.x__law_of.b (L2.takes_of (by rfl) (by rfl) (by rfl) (by rfl)) (by rfl) (ba_cons (be_var 0) (ba_cons (be_lst (ba_cons be_int (ba_cons be_int (ba_cons be_int ba_nil)))) ba_nil))) ba_nil))))))) (bss_one (bs_ret be_bl)) bss_nil))) (bss_cons (bs_for (vs := [5]) (L2.passes_of (by rfl)) (by rfl) (bi_range1 (by rfl) T.n_range be_int) (pg_name (i := 5) nd (by rfl) (Or.inl (by rfl))) (tv_name (by decide)) (bss_cons (bs_set (i := 6) nd (by rfl) (Or.inr (by rfl)) (be_ct call_int1 cd_int (by rfl) T.n_int (by decide +kernel) (ba_cons (be_call G__law_take (hr.mono (by decide)) (by rfl) T.x__law_take.g T.x__law_take.k T.x__law_take.b (L2.takes_of (by rfl) (by rfl) (by rfl) (by rfl)) (by rfl) (ba_cons (be_var 0) (ba_cons be_int ba_nil))) ba_nil))) (bss_cons (bs_asgT (vs := [7, 8]) (pg_tup (n := 2) (by rfl) (pgs_cons (pg_name (i := 7) nd (by rfl) (Or.inr (by rfl))) (pgs_cons (pg_name (i := 8) nd (by rfl) (Or.inr (by rfl))) pgs_nil))) (tv_tup (n := 2) (by rfl) (tva_cons (tv_name (by decide)) (tva_cons (tv_name (by decide)) tva_nil))) (be_tu (ba_cons (be_call G_by_due (hr.mono (by decide)) (by rfl) T.x_by_due.g T.x_by_due.k T.x_by_due.b (L2.takes_of (by rfl) (by rfl) (by rfl) (by rfl)) (by rfl) (ba_cons (be_var 3) (ba_cons (be_var 6) ba_nil))) (ba_cons (be_call G_by_due (hr.mono (by decide)) (by rfl) T.x_by_due.g T.x_by_due.k T.x_by_due.b (L2.takes_of (by rfl) (by rfl) (by rfl) (by rfl)) (by rfl) (ba_cons (be_var 3) (ba_cons (be_add (by rfl) (be_var 6) be_int) ba_nil))) ba_nil)))) (bss_cons (bs_for (vs := [9, 10]) (L2.passes_of (by rfl)) (by rfl) (bi_enum (by rfl) (by rfl) T.n_enumerate (be_var 3)) (pg_tup (n := 2) (by rfl) (pgs_cons (pg_name (i := 9) nd (by rfl) (Or.inr (by rfl))) (pgs_cons (pg_name (i := 10) nd (by rfl) (Or.inr (by rfl))) pgs_nil))) (tv_tup (n := 2) (by rfl) (tva_cons (tv_name (by decide)) (tva_cons (tv_name (by decide)) tva_nil))) (bss_one (bs_if (bt_val (be_cb (cr_any (by rfl)) cd_any (by rfl) T.n_any (by decide +kernel) (ba_cons (be_lc (own := [("to", 12), ("its", 13)]) (by rfl) nd (bi_enum (by rfl) (by rfl) T.n_enumerate (be_var 3)) (blk_dec (N := N__law_right) (sc := defScope s__law_right) (own := [("to", 12), ("its", 13)]) (by decide +kernel)) (fun _ _ _ _ _ => (pg_tup (n := 2) (by rfl) (pgs_cons (pg_name (i := 12) nd (by rfl) (Or.inl (by rfl))) (pgs_cons (pg_name (i := 13) nd (by rfl) (Or.inl (by rfl))) pgs_nil)))) (fun _ _ _ _ _ => bc_none) (fun _ _ _ _ _ => (be_and (be_gt (be_var 10) (be_var 13)) (be_one (be_lt (be_ix (by rfl) (be_var 7) (be_var 9)) (be_ix (by rfl) (be_var 7) (be_var 12)))))) (tv_tup (n := 2) (by rfl) (tva_cons (tv_name (by decide)) (tva_cons (tv_name (by decide)) tva_nil)))) ba_nil))) (bss_one (bs_ret be_bl)) bss_nil))) (bss_cons (bs_if (bt_ne (by rfl) hu (be_call G_loses (hr.mono (by decide)) (by rfl) T.x_loses.g T.x_loses.k T.x_loses.b (L2.takes_of (by rfl) (by rfl) (by rfl) (by rfl)) (by rfl) (ba_cons (be_var 3) (ba_cons (be_var 6) ba_nil))) (be_ct call_tuple_of cd_tuple (by rfl) T.n_tuple (by decide +kernel) (ba_cons (be_lc (own := [("at", 9)]) (by rfl) nd (bi_range1 (by rfl) T.n_range (be_var 2)) (blk_dec (N := N__law_right) (sc := defScope s__law_right) (own := [("at", 9)]) (by decide +kernel)) (fun _ _ _ _ _ => (pg_name (i := 9) nd (by rfl) (Or.inl (by rfl)))) (fun _ _ _ _ _ => (bc_some (bt_lt (be_ix (by rfl) (be_var 8) (be_var 9)) (be_ix (by rfl) (be_var 7) (be_var 9))))) (fun _ _ _ _ _ => (be_var 9)) (tv_name (by decide))) ba_nil))) (bss_one (bs_ret be_bl)) bss_nil) (bss_cons (bs_set (i := 11) nd (by rfl) (Or.inr (by rfl)) (be_cb (cr_sumA (by rfl)) cd_sumA (by rfl) T.n_sum (by decide +kernel) (ba_cons (be_var 3) ba_nil))) (bss_one (bs_if (bt_not (bt_val (be_cb (cr_all (by rfl)) cd_all (by rfl) T.n_all (by decide +kernel) (ba_cons (be_lc (own := [("one", 10), ("its", 13)]) (by rfl) nd (bi_zip (by rfl) (by rfl) T.n_zip (ba_cons (be_var 3) (ba_cons (be_var 7) ba_nil))) (blk_dec (N := N__law_right) (sc := defScope s__law_right) (own := [("one", 10), ("its", 13)]) (by decide +kernel)) (fun _ _ _ _ _ => (pg_tup (n := 2) (by rfl) (pgs_cons (pg_name (i := 10) nd (by rfl) (Or.inl (by rfl))) (pgs_cons (pg_name (i := 13) nd (by rfl) (Or.inl (by rfl))) pgs_nil)))) (fun _ _ _ _ _ => bc_none) (fun _ _ _ _ _ => (be_chLeLe (be_fdv (be_mul (be_var 10) (be_var 6)) (be_var 11)) (be_var 13) (be_add (by rfl) (be_fdv (be_mul (be_var 10) (be_var 6)) (be_var 11)) be_int))) (tv_tup (n := 2) (by rfl) (tva_cons (tv_name (by decide)) (tva_cons (tv_name (by decide)) tva_nil)))) ba_nil)))) (bss_one (bs_ret be_bl)) bss_nil)))))))) (bss_one (bs_ret be_bl))))))
theorem sc_law : FnScope N_law ["script"] (defScope s_law) := ⟨rfl, rfl, rfl, by decide +kernel, rfl, by decide +kernel, by decide +kernel⟩
theorem ok_law (T : Txt K mg base A) : FnOk P w K mg base (L2.CX P w) 8 A.a_law A.d_law ["script"] (spOf (gc K A) 1 false F_law) := by
  have G__law_cells := ok__law_cells (P := P) (w := w) T
  have G__law_pot := ok__law_pot (P := P) (w := w) T
  have G__law_right := ok__law_right (P := P) (w := w) T
  refine @fn_okC P w K mg base (gc K A) "law" "law" s_law A.a_law A.d_law A.v_law N_law ["script"] 7 1 m_law false T.x_law.fn sc_law rfl (by decide) (fun Ar outer s H E hr => ?_)
  have nd := sc_law.nd
  have hu := hr.units
  exact (bss_cons (bs_for (vs := [1]) (L2.passes_of (by rfl)) (by rfl) (bi_val (by rfl) (be_call G__law_cells (hr.mono (by decide)) (by rfl) T.x__law_cells.g T.x__law_cells.k T.x__law_cells.b (L2.takes_of (by rfl) (by rfl) (by rfl) (by rfl)) (by rfl) (ba_cons (be_var 0) (ba_cons be_int ba_nil)))) (pg_name (i := 1) nd (by rfl) (Or.inl (by rfl))) (tv_name (by decide)) (bss_cons (bs_set (i := 2) nd (by rfl) (Or.inr (by rfl)) (be_call G__law_pot (hr.mono (by decide)) (by rfl) T.x__law_pot.g T.x__law_pot.k T.x__law_pot.b (L2.takes_of (by rfl) (by rfl) (by rfl) (by rfl)) (by rfl) (ba_cons (be_var 0) (ba_cons (be_var 1) ba_nil)))) (bss_one (bs_if (bt_not (bt_val (be_cb (cr_all (by rfl)) cd_all (by rfl) T.n_all (by decide +kernel) (ba_cons (be_lc (own := [("lap", 3)]) (by rfl) nd (bi_range1 (by rfl) T.n_range be_int) (blk_dec (N := N_law) (sc := defScope s_law) (own := [("lap", 3)]) (by decide +kernel)) (fun _ _ _ _ _ => (pg_name (i := 3) nd (by rfl) (Or.inl (by rfl)))) (fun _ _ _ _ _ => bc_none) (fun _ _ _ _ _ => (be_call G__law_right (hr.mono (by decide)) (by rfl) T.x__law_right.g T.x__law_right.k T.x__law_right.b L2.takes0 (by rfl) (ba_cons (be_var 2) ba_nil))) (tv_name (by decide))) ba_nil)))) (bss_one (bs_ret be_bl)) bss_nil)))) (bss_one (bs_ret be_bl)))
end
end K52
namespace K52
open PySem PySem.Spec PyProof.Rows L2 LamX NdefX DL
/-- what the head shows, put together -/
theorem all_mk {l : PySem.W.OpenLaw} {w : World} {K : PySem.W.Frag} {h : Heap} {mg : Str → Option Value} {fa A0 A1 A2 A3 A4 A5 A6 A7 A8 A9 A10 A11 A12 A13 A14 A15 A16 A17 A18 A19 A20 : Addr} (X : K.In h) (G : h.Ns mainGlobals mg) (hfa : mg "law" = some (.ref fa))
    {od0 an0 od1 an1 od2 an2 od3 an3 od4 an4 od5 an5 od6 an6 od7 an7 od8 an8 od9 an9 od10 an10 od11 an11 od12 an12 od13 an13 od14 an14 od15 an15 od16 an16 od17 an17 od18 an18 od19 an19 od20 an20 : Option Addr} {sl0 sl1 sl2 sl3 sl4 sl5 sl6 sl7 sl8 sl9 sl10 sl11 sl12 sl13 sl14 sl15 sl16 sl17 sl18 sl19 sl20 : Array (Option Value)} {oc0 kV0 dc0 pm0 cd0 ct0 oc1 kV1 dc1 pm1 cd1 ct1 oc2 kV2 dc2 pm2 cd2 ct2 oc3 kV3 dc3 pm3 cd3 ct3 oc4 kV4 dc4 pm4 cd4 ct4 oc5 kV5 dc5 pm5 cd5 ct5 oc6 kV6 dc6 pm6 cd6 ct6 oc7 kV7 dc7 pm7 cd7 ct7 oc8 kV8 dc8 pm8 cd8 ct8 oc9 kV9 dc9 pm9 cd9 ct9 oc10 kV10 dc10 pm10 cd10 ct10 oc11 kV11 dc11 pm11 cd11 ct11 oc12 kV12 dc12 pm12 cd12 ct12 oc13 kV13 dc13 pm13 cd13 ct13 oc14 kV14 dc14 pm14 cd14 ct14 oc15 kV15 dc15 pm15 cd15 ct15 oc16 kV16 dc16 pm16 cd16 ct16 oc17 kV17 dc17 pm17 cd17 ct17 oc18 kV18 dc18 pm18 cd18 ct18 oc19 kV19 dc19 pm19 cd19 ct19 oc20 kV20 dc20 pm20 cd20 ct20 : Value} {tt0 tt1 tt2 tt3 tt4 tt5 : Tok} {lc0 lp0 : Addr}
    (a0 : PySem.W.nsIn K mainGlobals "_law_cells" = some (some (.ref A0))) (l0 : K.lookup A0 = some ⟨oc0, od0, .func (PySem.W.fnOf "_law_cells" "_law_cells" (defArgs s__law_cells) (defBody s__law_cells) (defScope s__law_cells) .none kV0 dc0 pm0 an0 cd0 ct0), sl0⟩) (c0 : PySem.W.codeIn K cd0 "_law_cells" = true) (k0 : PySem.W.keepIn K (.ref A0) = true)
    (a1 : PySem.W.nsIn K mainGlobals "_law_pot" = some (some (.ref A1))) (l1 : K.lookup A1 = some ⟨oc1, od1, .func (PySem.W.fnOf "_law_pot" "_law_pot" (defArgs s__law_pot) (defBody s__law_pot) (defScope s__law_pot) .none kV1 dc1 pm1 an1 cd1 ct1), sl1⟩) (c1 : PySem.W.codeIn K cd1 "_law_pot" = true) (k1 : PySem.W.keepIn K (.ref A1) = true)
    (a2 : PySem.W.nsIn K mainGlobals "_law_take" = some (some (.ref A2))) (l2 : K.lookup A2 = some ⟨oc2, od2, .func (PySem.W.fnOf "_law_take" "_law_take" (defArgs s__law_take) (defBody s__law_take) (defScope s__law_take) .none kV2 dc2 pm2 an2 cd2 ct2), sl2⟩) (c2 : PySem.W.codeIn K cd2 "_law_take" = true) (k2 : PySem.W.keepIn K (.ref A2) = true)
    (a3 : PySem.W.nsIn K mainGlobals "_law_of" = some (some (.ref A3))) (l3 : K.lookup A3 = some ⟨oc3, od3, .func (PySem.W.fnOf "_law_of" "_law_of" (defArgs s__law_of) (defBody s__law_of) (defScope s__law_of) .none kV3 dc3 pm3 an3 cd3 ct3), sl3⟩) (c3 : PySem.W.codeIn K cd3 "_law_of" = true) (k3 : PySem.W.keepIn K (.ref A3) = true)
    (a4 : PySem.W.nsIn K mainGlobals "_law_step" = some (some (.ref A4))) (l4 : K.lookup A4 = some ⟨oc4, od4, .func (PySem.W.fnOf "_law_step" "_law_step" (defArgs s__law_step) (defBody s__law_step) (defScope s__law_step) .none kV4 dc4 pm4 an4 cd4 ct4), sl4⟩) (c4 : PySem.W.codeIn K cd4 "_law_step" = true) (k4 : PySem.W.keepIn K (.ref A4) = true)
    (a5 : PySem.W.nsIn K mainGlobals "_law_next" = some (some (.ref A5))) (l5 : K.lookup A5 = some ⟨oc5, od5, .func (PySem.W.fnOf "_law_next" "_law_next" (defArgs s__law_next) (defBody s__law_next) (defScope s__law_next) .none kV5 dc5 pm5 an5 cd5 ct5), sl5⟩) (c5 : PySem.W.codeIn K cd5 "_law_next" = true) (k5 : PySem.W.keepIn K (.ref A5) = true)
    (a6 : PySem.W.nsIn K mainGlobals "is_integer" = some (some (.ref A6))) (l6 : K.lookup A6 = some ⟨oc6, od6, .func (PySem.W.fnOf "is_integer" "is_integer" (defArgs s_is_integer) (defBody s_is_integer) (defScope s_is_integer) .none kV6 dc6 pm6 an6 cd6 ct6), sl6⟩) (c6 : PySem.W.codeIn K cd6 "is_integer" = true) (k6 : PySem.W.keepIn K (.ref A6) = true)
    (a7 : PySem.W.nsIn K mainGlobals "is_between" = some (some (.ref A7))) (l7 : K.lookup A7 = some ⟨oc7, od7, .func (PySem.W.fnOf "is_between" "is_between" (defArgs s_is_between) (defBody s_is_between) (defScope s_is_between) .none kV7 dc7 pm7 an7 cd7 ct7), sl7⟩) (c7 : PySem.W.codeIn K cd7 "is_between" = true) (k7 : PySem.W.keepIn K (.ref A7) = true)
    (a8 : PySem.W.nsIn K mainGlobals "check_votes" = some (some (.ref A8))) (l8 : K.lookup A8 = some ⟨oc8, od8, .func (PySem.W.fnOf "check_votes" "check_votes" (defArgs s_check_votes) (defBody s_check_votes) (defScope s_check_votes) .none kV8 dc8 pm8 an8 cd8 ct8), sl8⟩) (c8 : PySem.W.codeIn K cd8 "check_votes" = true) (k8 : PySem.W.keepIn K (.ref A8) = true)
    (a9 : PySem.W.nsIn K mainGlobals "check_steps" = some (some (.ref A9))) (l9 : K.lookup A9 = some ⟨oc9, od9, .func (PySem.W.fnOf "check_steps" "check_steps" (defArgs s_check_steps) (defBody s_check_steps) (defScope s_check_steps) .none kV9 dc9 pm9 an9 cd9 ct9), sl9⟩) (c9 : PySem.W.codeIn K cd9 "check_steps" = true) (k9 : PySem.W.keepIn K (.ref A9) = true)
    (a10 : PySem.W.nsIn K mainGlobals "step" = some (some (.ref A10))) (l10 : K.lookup A10 = some ⟨oc10, od10, .func (PySem.W.fnOf "step" "step" (defArgs s_step) (defBody s_step) (defScope s_step) .none kV10 dc10 pm10 an10 cd10 ct10), sl10⟩) (c10 : PySem.W.codeIn K cd10 "step" = true) (k10 : PySem.W.keepIn K (.ref A10) = true)
    (a11 : PySem.W.nsIn K mainGlobals "by_steps" = some (some (.ref A11))) (l11 : K.lookup A11 = some ⟨oc11, od11, .func (PySem.W.fnOf "by_steps" "by_steps" (defArgs s_by_steps) (defBody s_by_steps) (defScope s_by_steps) .none kV11 dc11 pm11 an11 cd11 ct11), sl11⟩) (c11 : PySem.W.codeIn K cd11 "by_steps" = true) (k11 : PySem.W.keepIn K (.ref A11) = true)
    (a12 : PySem.W.nsIn K mainGlobals "are_seats" = some (some (.ref A12))) (l12 : K.lookup A12 = some ⟨oc12, od12, .func (PySem.W.fnOf "are_seats" "are_seats" (defArgs s_are_seats) (defBody s_are_seats) (defScope s_are_seats) .none kV12 dc12 pm12 an12 cd12 ct12), sl12⟩) (c12 : PySem.W.codeIn K cd12 "are_seats" = true) (k12 : PySem.W.keepIn K (.ref A12) = true)
    (a13 : PySem.W.nsIn K mainGlobals "shows_by_steps" = some (some (.ref A13))) (l13 : K.lookup A13 = some ⟨oc13, od13, .func (PySem.W.fnOf "shows_by_steps" "shows_by_steps" (defArgs s_shows_by_steps) (defBody s_shows_by_steps) (defScope s_shows_by_steps) .none kV13 dc13 pm13 an13 cd13 ct13), sl13⟩) (c13 : PySem.W.codeIn K cd13 "shows_by_steps" = true) (k13 : PySem.W.keepIn K (.ref A13) = true)
    (a14 : PySem.W.nsIn K mainGlobals "_law_is_kind_right" = some (some (.ref A14))) (l14 : K.lookup A14 = some ⟨oc14, od14, .func (PySem.W.fnOf "_law_is_kind_right" "_law_is_kind_right" (defArgs s__law_is_kind_right) (defBody s__law_is_kind_right) (defScope s__law_is_kind_right) .none kV14 dc14 pm14 an14 cd14 ct14), sl14⟩) (c14 : PySem.W.codeIn K cd14 "_law_is_kind_right" = true) (k14 : PySem.W.keepIn K (.ref A14) = true)
    (a15 : PySem.W.nsIn K mainGlobals "dues_of" = some (some (.ref A15))) (l15 : K.lookup A15 = some ⟨oc15, od15, .func (PySem.W.fnOf "dues_of" "dues_of" (defArgs s_dues_of) (defBody s_dues_of) (defScope s_dues_of) .none kV15 dc15 pm15 an15 cd15 ct15), sl15⟩) (c15 : PySem.W.codeIn K cd15 "dues_of" = true) (k15 : PySem.W.keepIn K (.ref A15) = true)
    (a16 : PySem.W.nsIn K mainGlobals "due_seats" = some (some (.ref A16))) (l16 : K.lookup A16 = some ⟨oc16, od16, .func (PySem.W.fnOf "due_seats" "due_seats" (defArgs s_due_seats) (defBody s_due_seats) (defScope s_due_seats) .none kV16 dc16 pm16 an16 cd16 ct16), sl16⟩) (c16 : PySem.W.codeIn K cd16 "due_seats" = true) (k16 : PySem.W.keepIn K (.ref A16) = true)
    (a17 : PySem.W.nsIn K mainGlobals "by_due" = some (some (.ref A17))) (l17 : K.lookup A17 = some ⟨oc17, od17, .func (PySem.W.fnOf "by_due" "by_due" (defArgs s_by_due) (defBody s_by_due) (defScope s_by_due) .none kV17 dc17 pm17 an17 cd17 ct17), sl17⟩) (c17 : PySem.W.codeIn K cd17 "by_due" = true) (k17 : PySem.W.keepIn K (.ref A17) = true)
    (a18 : PySem.W.nsIn K mainGlobals "loses" = some (some (.ref A18))) (l18 : K.lookup A18 = some ⟨oc18, od18, .func (PySem.W.fnOf "loses" "loses" (defArgs s_loses) (defBody s_loses) (defScope s_loses) .none kV18 dc18 pm18 an18 cd18 ct18), sl18⟩) (c18 : PySem.W.codeIn K cd18 "loses" = true) (k18 : PySem.W.keepIn K (.ref A18) = true)
    (a19 : PySem.W.nsIn K mainGlobals "_law_right" = some (some (.ref A19))) (l19 : K.lookup A19 = some ⟨oc19, od19, .func (PySem.W.fnOf "_law_right" "_law_right" (defArgs s__law_right) (defBody s__law_right) (defScope s__law_right) .none kV19 dc19 pm19 an19 cd19 ct19), sl19⟩) (c19 : PySem.W.codeIn K cd19 "_law_right" = true) (k19 : PySem.W.keepIn K (.ref A19) = true)
    (a20 : PySem.W.nsIn K mainGlobals "law" = some (some (.ref A20))) (l20 : K.lookup A20 = some ⟨oc20, od20, .func (PySem.W.fnOf "law" "law" (defArgs s_law) (defBody s_law) (defScope s_law) .none kV20 dc20 pm20 an20 cd20 ct20), sl20⟩) (c20 : PySem.W.codeIn K cd20 "law" = true) (k20 : PySem.W.keepIn K (.ref A20) = true)
    (z0 : PySem.W.nsIn K mainGlobals "abs" = some none)
    (z1 : PySem.W.nsIn K mainGlobals "all" = some none)
    (z2 : PySem.W.nsIn K mainGlobals "any" = some none)
    (z3 : PySem.W.nsIn K mainGlobals "bool" = some none)
    (z4 : PySem.W.nsIn K mainGlobals "enumerate" = some none)
    (z5 : PySem.W.nsIn K mainGlobals "int" = some none)
    (z6 : PySem.W.nsIn K mainGlobals "isinstance" = some none)
    (z7 : PySem.W.nsIn K mainGlobals "len" = some none)
    (z8 : PySem.W.nsIn K mainGlobals "list" = some none)
    (z9 : PySem.W.nsIn K mainGlobals "max" = some none)
    (z10 : PySem.W.nsIn K mainGlobals "min" = some none)
    (z11 : PySem.W.nsIn K mainGlobals "range" = some none)
    (z12 : PySem.W.nsIn K mainGlobals "sorted" = some none)
    (z13 : PySem.W.nsIn K mainGlobals "str" = some none)
    (z14 : PySem.W.nsIn K mainGlobals "sum" = some none)
    (z15 : PySem.W.nsIn K mainGlobals "tuple" = some none)
    (z16 : PySem.W.nsIn K mainGlobals "zip" = some none)
    (w0 : PySem.W.nsIn K mainGlobals "DOWN" = some (some (.str "down" tt0)))
    (w1 : PySem.W.nsIn K mainGlobals "HALF" = some (some (.str "half" tt1)))
    (w2 : PySem.W.nsIn K mainGlobals "MOST_SEATS" = some (some (.int 500 tt2)))
    (w3 : PySem.W.nsIn K mainGlobals "MOST_VOTES" = some (some (.int 1000000000 tt3)))
    (w4 : PySem.W.nsIn K mainGlobals "MOST_WEIGHTS" = some (some (.int 20 tt4)))
    (w5 : PySem.W.nsIn K mainGlobals "UP" = some (some (.str "up" tt5)))
    (m0 : h.get? lp0 = some { cls := .none, data := .fields #[] }) (e0 : cd16 = .ref lc0) (t0 : PySem.W.codeHdIn K lc0 lp0 = true) (n0 : K.lookup lp0 = none)
    (plain : ∀ ns : List Int, ns.length ≤ 63 → (∀ z ∈ ns, Builtin.Int.intBits z ≤ 1048576) → F_law [.scr ns] = .ok (.val (.bl true)) []) : LawAtS l w K (L2.CX l.prog w) 8 63 "script" mg fa h := by
  have e0 : A20 = fa := by
    have q := hfa.symm.trans (PySem.W.mg_of X G a20)
    simpa using q.symm
  subst e0
  let A : Adr := ⟨A0, (PySem.W.fnOf "_law_cells" "_law_cells" (defArgs s__law_cells) (defBody s__law_cells) (defScope s__law_cells) .none kV0 dc0 pm0 an0 cd0 ct0), cd0, A1, (PySem.W.fnOf "_law_pot" "_law_pot" (defArgs s__law_pot) (defBody s__law_pot) (defScope s__law_pot) .none kV1 dc1 pm1 an1 cd1 ct1), cd1, A2, (PySem.W.fnOf "_law_take" "_law_take" (defArgs s__law_take) (defBody s__law_take) (defScope s__law_take) .none kV2 dc2 pm2 an2 cd2 ct2), cd2, A3, (PySem.W.fnOf "_law_of" "_law_of" (defArgs s__law_of) (defBody s__law_of) (defScope s__law_of) .none kV3 dc3 pm3 an3 cd3 ct3), cd3, A4, (PySem.W.fnOf "_law_step" "_law_step" (defArgs s__law_step) (defBody s__law_step) (defScope s__law_step) .none kV4 dc4 pm4 an4 cd4 ct4), cd4, A5, (PySem.W.fnOf "_law_next" "_law_next" (defArgs s__law_next) (defBody s__law_next) (defScope s__law_next) .none kV5 dc5 pm5 an5 cd5 ct5), cd5, A6, (PySem.W.fnOf "is_integer" "is_integer" (defArgs s_is_integer) (defBody s_is_integer) (defScope s_is_integer) .none kV6 dc6 pm6 an6 cd6 ct6), cd6, A7, (PySem.W.fnOf "is_between" "is_between" (defArgs s_is_between) (defBody s_is_between) (defScope s_is_between) .none kV7 dc7 pm7 an7 cd7 ct7), cd7, A8, (PySem.W.fnOf "check_votes" "check_votes" (defArgs s_check_votes) (defBody s_check_votes) (defScope s_check_votes) .none kV8 dc8 pm8 an8 cd8 ct8), cd8, A9, (PySem.W.fnOf "check_steps" "check_steps" (defArgs s_check_steps) (defBody s_check_steps) (defScope s_check_steps) .none kV9 dc9 pm9 an9 cd9 ct9), cd9, A10, (PySem.W.fnOf "step" "step" (defArgs s_step) (defBody s_step) (defScope s_step) .none kV10 dc10 pm10 an10 cd10 ct10), cd10, A11, (PySem.W.fnOf "by_steps" "by_steps" (defArgs s_by_steps) (defBody s_by_steps) (defScope s_by_steps) .none kV11 dc11 pm11 an11 cd11 ct11), cd11, A12, (PySem.W.fnOf "are_seats" "are_seats" (defArgs s_are_seats) (defBody s_are_seats) (defScope s_are_seats) .none kV12 dc12 pm12 an12 cd12 ct12), cd12, A13, (PySem.W.fnOf "shows_by_steps" "shows_by_steps" (defArgs s_shows_by_steps) (defBody s_shows_by_steps) (defScope s_shows_by_steps) .none kV13 dc13 pm13 an13 cd13 ct13), cd13, A14, (PySem.W.fnOf "_law_is_kind_right" "_law_is_kind_right" (defArgs s__law_is_kind_right) (defBody s__law_is_kind_right) (defScope s__law_is_kind_right) .none kV14 dc14 pm14 an14 cd14 ct14), cd14, A15, (PySem.W.fnOf "dues_of" "dues_of" (defArgs s_dues_of) (defBody s_dues_of) (defScope s_dues_of) .none kV15 dc15 pm15 an15 cd15 ct15), cd15, A16, (PySem.W.fnOf "due_seats" "due_seats" (defArgs s_due_seats) (defBody s_due_seats) (defScope s_due_seats) .none kV16 dc16 pm16 an16 cd16 ct16), cd16, A17, (PySem.W.fnOf "by_due" "by_due" (defArgs s_by_due) (defBody s_by_due) (defScope s_by_due) .none kV17 dc17 pm17 an17 cd17 ct17), cd17, A18, (PySem.W.fnOf "loses" "loses" (defArgs s_loses) (defBody s_loses) (defScope s_loses) .none kV18 dc18 pm18 an18 cd18 ct18), cd18, A19, (PySem.W.fnOf "_law_right" "_law_right" (defArgs s__law_right) (defBody s__law_right) (defScope s__law_right) .none kV19 dc19 pm19 an19 cd19 ct19), cd19, A20, (PySem.W.fnOf "law" "law" (defArgs s_law) (defBody s_law) (defScope s_law) .none kV20 dc20 pm20 an20 cd20 ct20), cd20, lp0, lc0, tt0, tt1, tt2, tt3, tt4, tt5⟩
  have TB : TxtB mg A := ⟨PySem.W.mg_none_of X G z0, PySem.W.mg_none_of X G z1, PySem.W.mg_none_of X G z2, PySem.W.mg_none_of X G z3, PySem.W.mg_none_of X G z4, PySem.W.mg_none_of X G z5, PySem.W.mg_none_of X G z6, PySem.W.mg_none_of X G z7, PySem.W.mg_none_of X G z8, PySem.W.mg_none_of X G z9, PySem.W.mg_none_of X G z10, PySem.W.mg_none_of X G z11, PySem.W.mg_none_of X G z12, PySem.W.mg_none_of X G z13, PySem.W.mg_none_of X G z14, PySem.W.mg_none_of X G z15, PySem.W.mg_none_of X G z16, PySem.W.mg_of X G w0, PySem.W.mg_of X G w1, PySem.W.mg_of X G w2, PySem.W.mg_of X G w3, PySem.W.mg_of X G w4, PySem.W.mg_of X G w5⟩
  have D0 := DefT.of (st := s__law_cells) (ps := ["script", "upto"]) X G a0 l0 c0 k0 (fun us hl => match us, hl with | [_, _], _ => rfl) (fun us hl => match us, hl with | [_, _], _ => rfl)
  have D1 := DefT.of (st := s__law_pot) (ps := ["script", "place"]) X G a1 l1 c1 k1 (fun us hl => match us, hl with | [_, _], _ => rfl) (fun us hl => match us, hl with | [_, _], _ => rfl)
  have D2 := DefT.of (st := s__law_take) (ps := ["pot", "upto"]) X G a2 l2 c2 k2 (fun us hl => match us, hl with | [_, _], _ => rfl) (fun us hl => match us, hl with | [_, _], _ => rfl)
  have D3 := DefT.of (st := s__law_of) (ps := ["pot", "some"]) X G a3 l3 c3 k3 (fun us hl => match us, hl with | [_, _], _ => rfl) (fun us hl => match us, hl with | [_, _], _ => rfl)
  have D4 := DefT.of (st := s__law_step) (ps := ["kind", "seats"]) X G a4 l4 c4 k4 (fun us hl => match us, hl with | [_, _], _ => rfl) (fun us hl => match us, hl with | [_, _], _ => rfl)
  have D5 := DefT.of (st := s__law_next) (ps := ["pot", "votes", "kind", "seats"]) X G a5 l5 c5 k5 (fun us hl => match us, hl with | [_, _, _, _], _ => rfl) (fun us hl => match us, hl with | [_, _, _, _], _ => rfl)
  have D6 := DefT.of (st := s_is_integer) (ps := ["value"]) X G a6 l6 c6 k6 (fun us hl => match us, hl with | [_], _ => rfl) (fun us hl => match us, hl with | [_], _ => rfl)
  have D7 := DefT.of (st := s_is_between) (ps := ["value", "least", "most"]) X G a7 l7 c7 k7 (fun us hl => match us, hl with | [_, _, _], _ => rfl) (fun us hl => match us, hl with | [_, _, _], _ => rfl)
  have D8 := DefT.of (st := s_check_votes) (ps := ["votes", "seats"]) X G a8 l8 c8 k8 (fun us hl => match us, hl with | [_, _], _ => rfl) (fun us hl => match us, hl with | [_, _], _ => rfl)
  have D9 := DefT.of (st := s_check_steps) (ps := ["votes", "seats", "kind"]) X G a9 l9 c9 k9 (fun us hl => match us, hl with | [_, _, _], _ => rfl) (fun us hl => match us, hl with | [_, _, _], _ => rfl)
  have D10 := DefT.of (st := s_step) (ps := ["kind", "seats"]) X G a10 l10 c10 k10 (fun us hl => match us, hl with | [_, _], _ => rfl) (fun us hl => match us, hl with | [_, _], _ => rfl)
  have D11 := DefT.of (st := s_by_steps) (ps := ["votes", "seats", "kind"]) X G a11 l11 c11 k11 (fun us hl => match us, hl with | [_, _, _], _ => rfl) (fun us hl => match us, hl with | [_, _, _], _ => rfl)
  have D12 := DefT.of (st := s_are_seats) (ps := ["votes", "seats", "value"]) X G a12 l12 c12 k12 (fun us hl => match us, hl with | [_, _, _], _ => rfl) (fun us hl => match us, hl with | [_, _, _], _ => rfl)
  have D13 := DefT.of (st := s_shows_by_steps) (ps := ["votes", "seats", "kind", "value"]) X G a13 l13 c13 k13 (fun us hl => match us, hl with | [_, _, _, _], _ => rfl) (fun us hl => match us, hl with | [_, _, _, _], _ => rfl)
  have D14 := DefT.of (st := s__law_is_kind_right) (ps := ["pot", "votes", "kind", "many"]) X G a14 l14 c14 k14 (fun us hl => match us, hl with | [_, _, _, _], _ => rfl) (fun us hl => match us, hl with | [_, _, _, _], _ => rfl)
  have D15 := DefT.of (st := s_dues_of) (ps := ["votes", "seats"]) X G a15 l15 c15 k15 (fun us hl => match us, hl with | [_, _], _ => rfl) (fun us hl => match us, hl with | [_, _], _ => rfl)
  have D16 := DefT.of (st := s_due_seats) (ps := ["votes", "seats"]) X G a16 l16 c16 k16 (fun us hl => match us, hl with | [_, _], _ => rfl) (fun us hl => match us, hl with | [_, _], _ => rfl)
  have D17 := DefT.of (st := s_by_due) (ps := ["votes", "seats"]) X G a17 l17 c17 k17 (fun us hl => match us, hl with | [_, _], _ => rfl) (fun us hl => match us, hl with | [_, _], _ => rfl)
  have D18 := DefT.of (st := s_loses) (ps := ["votes", "seats"]) X G a18 l18 c18 k18 (fun us hl => match us, hl with | [_, _], _ => rfl) (fun us hl => match us, hl with | [_, _], _ => rfl)
  have D19 := DefT.of (st := s__law_right) (ps := ["pot"]) X G a19 l19 c19 k19 (fun us hl => match us, hl with | [_], _ => rfl) (fun us hl => match us, hl with | [_], _ => rfl)
  have D20 := DefT.of (st := s_law) (ps := ["script"]) X G a20 l20 c20 k20 (fun us hl => match us, hl with | [_], _ => rfl) (fun us hl => match us, hl with | [_], _ => rfl)
  refine ⟨A.d_law, [(lc0, lp0)], spOf (gc K A) 1 false F_law, ?_, ?_, ?_, fun s u => (match D20.b s [u] with | h => ?_), fun H a ns hl hbt hT hS => sp_law hl ?_ hS (plain ns hl hbt), fun base X2 G2 hTB => ok_law (A := A) { toTxtB := TB, x__law_cells := D0, x__law_pot := D1, x__law_take := D2, x__law_of := D3, x__law_step := D4, x__law_next := D5, x_is_integer := D6, x_is_between := D7, x_check_votes := D8, x_check_steps := D9, x_step := D10, x_by_steps := D11, x_are_seats := D12, x_shows_by_steps := D13, x__law_is_kind_right := D14, x_dues_of := D15, x_due_seats := D16, x_by_due := D17, x_loses := D18, x__law_right := D19, x_law := D20, tb_due_seats := hTB (lc0, lp0) (by simp), cd_due_seats := e0, tu_due_seats := (fun p hp _ => by rw [List.mem_singleton.mp hp]) }⟩
  · intro p hp; rw [List.mem_singleton.mp hp]; exact m0
  · intro p hp; rw [List.mem_singleton.mp hp]; exact n0
  · intro p hp; rw [List.mem_singleton.mp hp]; exact PySem.W.codeHd_of_K X t0
  · exact .of_eq rfl
  · intro p hp; rw [List.mem_singleton.mp hp]; exact hT (lc0, lp0) List.mem_cons_self
end K52
namespace K52
open PySem PySem.Spec PyProof.Rows L2 DL
/-! the mathematics of seats by steps -/
def isKind (k : Str) : Prop := k = ("down" : Str) ∨ k = ("half" : Str) ∨ k = ("up" : Str)
def stepZ (k : Str) (s : Int) : Int := if k = ("half" : Str) then 2 * s + 1 else if k = ("down" : Str) then s + 1 else s
theorem step_mono {k : Str} {s t : Int} (h : s ≤ t) : stepZ k s ≤ stepZ k t := by
  unfold stepZ
  split
  · omega
  · split <;> omega
theorem step_nn {k : Str} {s : Int} (h : 0 ≤ s) : 0 ≤ stepZ k s := by
  unfold stepZ
  split
  · omega
  · split <;> omega
theorem step_le {k : Str} {s : Int} (h : 0 ≤ s) : s ≤ stepZ k s ∧ stepZ k s ≤ 2 * s + 1 := by
  unfold stepZ
  split
  · omega
  · split <;> omega
/-- no two could be better -/
def Good (k : Str) (vs fs : List Int) : Prop := ∀ i j : Int, 0 ≤ i → i < vs.length → 0 ≤ j → j < vs.length → i ≠ j → 0 < gI fs j → gI vs i * stepZ k (gI fs j - 1) ≤ gI vs j * stepZ k (gI fs i)
/-- a is no worse than b -/
def Geq (k : Str) (vs fs : List Int) (a b : Int) : Prop := gI vs b * stepZ k (gI fs a) ≤ gI vs a * stepZ k (gI fs b)
structure SeatsOk (vs fs : List Int) (s : Int) : Prop where
  len : fs.length = vs.length
  nn : ∀ f ∈ fs, 0 ≤ f
  sum : fs.sum = s
/-- the votes that the program accepts -/
def VotesOk (vs : List Int) : Prop := 0 < vs.length ∧ vs.length ≤ 20 ∧ ∀ v ∈ vs, 1 ≤ v ∧ v ≤ 1000000000
section
variable {k : Str} {vs fs : List Int} {a b c i s : Int}
theorem VotesOk.at (h : VotesOk vs) (h0 : 0 ≤ i) (h1 : i < vs.length) : 1 ≤ gI vs i ∧ gI vs i ≤ 1000000000 := h.2.2 _ (gI_mem h0 h1)
theorem SeatsOk.at (h : SeatsOk vs fs s) (h0 : 0 ≤ i) (h1 : i < vs.length) : 0 ≤ gI fs i := h.nn _ (gI_mem h0 (by rw [h.len]; exact h1))
theorem sum_ge_mem : ∀ {fs : List Int}, (∀ f ∈ fs, 0 ≤ f) → ∀ x ∈ fs, x ≤ fs.sum ∧ 0 ≤ fs.sum
  | [], _, x, h => by cases h
  | f :: fs, hn, x, h => by
    have h0 : 0 ≤ fs.sum := by
      cases fs with
      | nil => simp
      | cons y ys => exact (sum_ge_mem (fun z hz => hn z (List.mem_cons_of_mem _ hz)) y List.mem_cons_self).2
    have hf := hn f List.mem_cons_self
    rw [List.sum_cons]
    rcases List.mem_cons.mp h with rfl | h
    · exact ⟨by omega, by omega⟩
    · have := (sum_ge_mem (fun z hz => hn z (List.mem_cons_of_mem _ hz)) x h).1
      exact ⟨by omega, by omega⟩
theorem SeatsOk.le (h : SeatsOk vs fs s) (h0 : 0 ≤ i) (h1 : i < vs.length) : gI fs i ≤ s := by
  rw [← h.sum]
  exact (sum_ge_mem h.nn _ (gI_mem h0 (by rw [h.len]; exact h1))).1
theorem Geq.trans (hv : VotesOk vs) (ha : 0 ≤ a ∧ a < vs.length) (hb : 0 ≤ b ∧ b < vs.length) (hc : 0 ≤ c ∧ c < vs.length) (h1 : Geq k vs fs a b) (h2 : Geq k vs fs b c) : Geq k vs fs a c := by
  unfold Geq at *
  have va := (hv.at ha.1 ha.2).1
  have vb := (hv.at hb.1 hb.2).1
  have vc := (hv.at hc.1 hc.2).1
  generalize gI vs a = x at *
  generalize gI vs b = y at *
  generalize gI vs c = z at *
  generalize stepZ k (gI fs a) = p at *
  generalize stepZ k (gI fs b) = q at *
  generalize stepZ k (gI fs c) = r at *
  -- y p ≤ x q, z q ≤ y r, want z p ≤ x r
  have e1 : z * (y * p) ≤ z * (x * q) := Int.mul_le_mul_of_nonneg_left h1 (by omega)
  have e2 : x * (z * q) ≤ x * (y * r) := Int.mul_le_mul_of_nonneg_left h2 (by omega)
  have e3 : y * (z * p) = z * (y * p) := by rw [← Int.mul_assoc, ← Int.mul_assoc, Int.mul_comm y z]
  have e4 : z * (x * q) = x * (z * q) := by rw [← Int.mul_assoc, ← Int.mul_assoc, Int.mul_comm z x]
  have e5 : x * (y * r) = y * (x * r) := by rw [← Int.mul_assoc, ← Int.mul_assoc, Int.mul_comm x y]
  have : y * (z * p) ≤ y * (x * r) := by omega
  exact Int.le_of_mul_le_mul_left this (by omega)
/-- one seat more for one that is no worse than any other -/
theorem Good.step (hv : VotesOk vs) (hs : SeatsOk vs fs s) (hg : Good k vs fs) (hb : 0 ≤ b ∧ b < vs.length) (hbest : ∀ i : Int, 0 ≤ i → i < vs.length → Geq k vs fs b i) : Good k vs (fs.set b.toNat (gI fs b + 1)) := by
  have lb : b < fs.length := by rw [hs.len]; exact hb.2
  intro i j hi hi1 hj hj1 hij h0
  rw [gI_set hb.1 lb hj] at h0 ⊢
  rw [gI_set hb.1 lb hi]
  by_cases ej : j = b
  · subst ej
    rw [if_pos rfl] at h0 ⊢
    rw [if_neg hij, Int.add_sub_cancel]
    exact hbest i hi hi1
  · rw [if_neg ej] at h0 ⊢
    by_cases ei : i = b
    · subst ei
      rw [if_pos rfl]
      refine Int.le_trans (hg i j hi hi1 hj hj1 hij h0) ?_
      exact Int.mul_le_mul_of_nonneg_left (step_mono (by omega)) (by have := hv.at hj hj1; omega)
    · rw [if_neg ei]
      exact hg i j hi hi1 hj hj1 hij h0
theorem SeatsOk.step (hs : SeatsOk vs fs s) (hb : 0 ≤ b ∧ b < vs.length) : SeatsOk vs (fs.set b.toNat (gI fs b + 1)) (s + 1) := by
  have lb : b < fs.length := by rw [hs.len]; exact hb.2
  refine ⟨by rw [List.length_set]; exact hs.len, fun f hf => ?_, ?_⟩
  · rcases List.mem_or_eq_of_mem_set hf with h | h
    · exact hs.nn f h
    · subst h
      have := hs.at hb.1 hb.2
      omega
  · rw [sum_setI hb.1 lb, hs.sum]; omega
theorem good0 : Good k vs (List.replicate vs.length 0) := by
  intro i j hi hi1 hj hj1 _ h
  rw [gI_rep hj hj1] at h
  omega
theorem seats0 : SeatsOk vs (List.replicate vs.length 0) 0 := by
  refine ⟨by simp, fun f hf => ?_, ?_⟩
  · rw [List.eq_of_mem_replicate hf]
    exact Int.le_refl _
  · generalize vs.length = n
    induction n with
    | zero => rfl
    | succ n ih => rw [List.replicate_succ, List.sum_cons, ih]; rfl
/-- whoever has more votes has no fewer, but for a step of 0 -/
theorem Good.more (hv : VotesOk vs) (hs : SeatsOk vs fs s) (hk : isKind k) (hg : Good k vs fs) {i j : Int} (hi : 0 ≤ i ∧ i < vs.length) (hj : 0 ≤ j ∧ j < vs.length) (h1 : gI vs j < gI vs i) (h2 : gI fs i < gI fs j) :
    k = ("up" : Str) ∧ gI fs i = 0 ∧ gI fs j = 1 := by
  have ne : i ≠ j := fun e => by subst e; omega
  have f0 := hs.at hi.1 hi.2
  have h := hg i j hi.1 hi.2 hj.1 hj.2 ne (by omega)
  have vi := (hv.at hi.1 hi.2).1
  have vj := (hv.at hj.1 hj.2).1
  generalize gI vs i = x at *
  generalize gI vs j = y at *
  generalize gI fs i = p at *
  generalize gI fs j = q at *
  have m : stepZ k p ≤ stepZ k (q - 1) := step_mono (by omega)
  have n := step_nn (k := k) f0
  -- x σ(q-1) ≤ y σ(p)
  have a1 : x * stepZ k p ≤ x * stepZ k (q - 1) := Int.mul_le_mul_of_nonneg_left m (by omega)
  have a2 : (y + 1) * stepZ k p ≤ x * stepZ k p := Int.mul_le_mul_of_nonneg_right (by omega) n
  rw [Int.add_mul] at a2
  have z : stepZ k p = 0 := by omega
  rw [z, Int.mul_zero] at h
  have z2 : stepZ k (q - 1) ≤ 0 := by
    rcases Int.lt_or_le 0 (stepZ k (q - 1)) with w | w
    · have := Int.mul_pos (show 0 < x by omega) w
      omega
    · exact w
  rcases hk with rfl | rfl | rfl
  · have e : stepZ ("down" : Str) p = p + 1 := rfl
    omega
  · have e : stepZ ("half" : Str) p = 2 * p + 1 := rfl
    omega
  · have e : stepZ ("up" : Str) p = p := rfl
    have e2 : stepZ ("up" : Str) (q - 1) = q - 1 := rfl
    refine ⟨rfl, by omega, by omega⟩
end
end K52
namespace K52
open PySem PySem.Spec PyProof.Rows L2 DL
local macro_rules | `(tactic| wtm_at "dl_gv") => `(tactic| first | (with_reducible first | exact gv_0 | exact gv_1 | exact gv_2 | exact gv_3 | exact gv_4 | exact gv_5 | exact gv_6 | exact gv_7 | exact gv_8) | rfl)
local macro_rules | `(tactic| wtm_at "dl_vw") => `(tactic| first | (with_reducible first | exact vw_0 | exact vw_1 | exact vw_2 | exact vw_3 | exact vw_4 | exact vw_5 | exact vw_6 | exact vw_7 | exact vw_8) | rfl)
local macro_rules | `(tactic| wtm_at "dl_sl") => `(tactic| try simp only [List.set_cons_zero, List.set_cons_succ])
local macro_rules | `(tactic| wtm_at "dl_bk") => `(tactic| simp only [backE, wipeE, List.getElem?_cons_zero, List.getElem?_cons_succ, Option.getD_some, List.set_cons_zero, List.set_cons_succ])
local macro_rules | `(tactic| wtm_at "dl_ge") => `(tactic| first | exact Int.le_of_lt (by assumption) | assumption)
local macro_rules | `(tactic| wtm_at "dl_f2") => `(tactic| first
  | (with_reducible first | exact dAdd_i | exact dSub_i | exact dLt_i | exact dLe_i | exact dGt_i | exact dGe_i | exact dEq_i | exact dNe_i | exact dEq_s | exact dNe_s | exact dEq_lI | exact dNe_lI | exact dEq_tI | exact dNe_tI | exact dEq_l0 | exact dNe_l0 | exact dEq_bb | exact dIx_tupI (by omega) (by omega) | exact dIx_lstI (by omega) (by omega) | exact dMul_100 (by omega) (by omega) | exact dMod_ok (by omega) | exact dFdv_ok (divOk_of (by omega) (by omega)) | fail))
local macro_rules | `(tactic| wtm_at "dl_f1") => `(tactic| with_reducible first | exact dIsi_tt | exact dIsi_tl | exact dIsi_ti | exact dIsi_tn | exact dIsi_ts | exact dIsi_ii | exact dIsi_is | exact dIsi_in | exact dIsi_it | exact dIsi_il | exact dIsi_bi | exact dIsi_ss | exact dIsi_si | exact dIsi_sn | exact dIsi_st | fail)
local macro_rules | `(tactic| wtm_at "dl_fc") => `(tactic| first | exact dLen_tI | exact dLen_lI | exact sumA_tup _ | exact sumA_lst _ | rfl)
local macro_rules | `(tactic| wtm_at "dl_e") => `(tactic| first
  | with_reducible refine w_c ?_
  | ((with_reducible refine' w_val ?e ?_); (case e => rfl))
  | ((with_reducible refine' w_own ?e ?_); (case e => rfl))
  | with_reducible refine w_bin ?_ | with_reducible refine w_un ?_ | with_reducible refine w_if ?_ | with_reducible refine w_and ?_ | with_reducible refine w_or ?_ | with_reducible refine w_not ?_ | with_reducible refine w_chain ?_
  | with_reducible refine w_acons ?_ | with_reducible refine w_anil ?_ | with_reducible refine w_tup ?_ | with_reducible refine w_lst ?_ | with_reducible refine w_cb ?_ | with_reducible refine w_sl ?_ | with_reducible refine w_part0 ?_ | with_reducible refine w_part1 ?_ | with_reducible refine w_slEnd ?_
  | with_reducible refine w_call ?_ | with_reducible refine w_callp ?_ | with_reducible refine w_app ?_ | with_reducible refine w_listRg ?_ | with_reducible refine w_dget ?_
  | with_reducible refine w_iVal ?_ | with_reducible refine w_iRange1 ?_ | with_reducible refine w_iRange2 ?_ | with_reducible refine w_iEnum1 ?_ | with_reducible refine w_iZip2 ?_ | with_reducible refine w_rg ?_
  | with_reducible refine w_seq ?_ | with_reducible refine w_set ?_ | with_reducible refine w_par ?_ | with_reducible refine w_asgT ?_ | with_reducible refine w_setIx ?_ | with_reducible refine w_expr ?_ | with_reducible refine w_ret ?_ | with_reducible refine w_next ?_ | with_reducible refine w_sif ?_
  | ((with_reducible refine' k_bin ?e1 ?e2 ?e3 ?_); (case e1 => rfl); (case e2 => rfl); (case e3 => wtm_at "dl_f2"))
  | ((with_reducible refine' k_bin (f := dIx) ?e1 ?e2 ?e3 ?_); (case e1 => rfl); (case e2 => rfl); (case e3 => rfl))
  | ((with_reducible refine' k_bin (f := dIn _) ?e1 ?e2 ?e3 ?_); (case e1 => rfl); (case e2 => rfl); (case e3 => rfl))
  | ((with_reducible refine' k_bin (f := dIs _) ?e1 ?e2 ?e3 ?_); (case e1 => rfl); (case e2 => rfl); (case e3 => rfl))
  | ((with_reducible refine' k_bin (f := dEq) ?e1 ?e2 ?e3 ?_); (case e1 => rfl); (case e2 => rfl); (case e3 => rfl))
  | ((with_reducible refine' k_bin (f := dNe) ?e1 ?e2 ?e3 ?_); (case e1 => rfl); (case e2 => rfl); (case e3 => rfl))
  | ((with_reducible refine' k_bin (f := dAdd) ?e1 ?e2 ?e3 ?_); (case e1 => rfl); (case e2 => rfl); (case e3 => rfl))
  | ((with_reducible refine' k_un ?e1 ?e2 ?_); (case e1 => rfl); (case e2 => wtm_at "dl_f1"))
  | with_reducible refine k_bool ?_ | with_reducible refine k_int ?_
  | ((with_reducible refine' k_ch ?e1 ?e2 ?e3 ?_); (case e1 => rfl); (case e2 => rfl); (case e3 => wtm_at "dl_f2"))
  | ((with_reducible refine' k_arg ?e1 ?_); (case e1 => rfl))
  | ((with_reducible refine' k_give ?e1 ?e2 ?_); (case e1 => wtm_at "dl_gv"); (case e2 => rfl))
  | ((with_reducible refine' k_give1 ?e1 ?_); (case e1 => rfl))
  | ((with_reducible refine' k_gives ?e1 ?_); (case e1 => wtm_at "dl_gv"))
  | ((with_reducible refine' k_cb ?e1 ?e2 ?_); (case e1 => wtm_at "dl_vw"); (case e2 => wtm_at "dl_fc"))
  | ((with_reducible refine' k_sl ?e1 ?e2 ?_); (case e1 => rfl); (case e2 => rfl))
  | ((with_reducible refine' k_own ?e1 ?_); (case e1 => rfl))
  | ((with_reducible refine' k_seq ?e1 ?_); (case e1 => rfl))
  | with_reducible refine k_rg1 ?_ | with_reducible refine k_rg2 ?_
  | with_reducible refine k_rg (by omega) (by omega) (by omega) (by omega) (by omega) ?_
  | ((with_reducible refine' k_en ?e1 ?e2 ?_); (case e1 => wtm_at "dl_gv"); (case e2 => rfl))
  | ((with_reducible refine' k_zp ?e1 ?e2 ?e3 ?_); (case e1 => wtm_at "dl_gv"); (case e2 => rfl); (case e3 => rfl))
  | ((with_reducible refine' k_set ?e1 ?_); (case e1 => first | rfl | exact setV_ov rfl | exact setF_ov rfl); (wtm_at "dl_sl"))
  | ((with_reducible refine' k_par ?e1 ?_); (case e1 => first | rfl | exact setPar_ov (by decide) rfl rfl); (wtm_at "dl_sl"))
  | ((with_reducible refine' k_asg ?e1 ?e2 ?_); (case e1 => rfl); (case e2 => first | rfl | exact tg2_ov (by decide) rfl rfl); (wtm_at "dl_sl"))
  | with_reducible refine k_t ?_ | with_reducible refine k_f ?_ | with_reducible refine k_nt ?_ | with_reducible refine k_nf ?_
  | with_reducible refine k_decT (by omega) ?_ | with_reducible refine k_decF (by omega) ?_ | with_reducible refine k_decN (by omega) ?_ | with_reducible refine k_decM (by omega) ?_ | with_reducible refine k_bt (by decide) ?_ | with_reducible refine k_bf (by decide) ?_)
local macro_rules | `(tactic| wtm_at "dl_w") => `(tactic| repeat (wtm_at "dl_e"))
section
variable {k : Str} {vs fs : List Int} {s : Int}
theorem is_integer_int (i : Int) : F_is_integer [.int i] = .ok (.val (.bl true)) [] := by rfl
theorem between_true {i lo hi : Int} (h1 : lo ≤ i) (h2 : i ≤ hi) : F_is_between [.int i, .int lo, .int hi] = .ok (.val (.bl true)) [] := by
  refine run_of (Q := fun x => x = _) ?_
  show (m_is_between [some (.val (.int i)), some (.val (.int lo)), some (.val (.int hi))]).sat _
  unfold m_is_between
  wtm_at "dl_w"
  refine k_call (by rfl) (is_integer_int i) (by rfl) ?_
  wtm_at "dl_w"
  show FRes.ok (.val (.bl (decide (i ≤ hi)))) [] = _
  rw [decide_eq_true h2]
theorem all_true {α : Type} {xs : List α} : d1 dAll [.lst (xs.map fun _ => D.bl true)] = some (.val (.bl true)) := by
  have e : (xs.map fun _ => D.bl true) = (xs.map fun _ => true).map D.bl := by rw [List.map_map]; rfl
  show (boolsD (xs.map fun _ => D.bl true)).map (fun ns => Rz.val (.bl (ns.all id))) = _
  rw [e, bools_map]
  show some (Rz.val (.bl ((xs.map fun _ => true).all id))) = _
  rw [List.all_map, show xs.all (id ∘ fun _ => true) = true from List.all_eq_true.mpr (fun _ _ => rfl)]
theorem filter_true {α : Type} (xs : List α) : xs.filter (fun _ => true) = xs := List.filter_eq_self.mpr fun _ _ => rfl
theorem check_votes_ok (hv : VotesOk vs) (h0 : 0 ≤ s) (h1 : s ≤ 500) : F_check_votes [.tup (vs.map .int), .int s] = .ok (.val .non) [] := by
  have l1 := hv.1
  have l2 := hv.2.1
  refine run_of (Q := fun x => x = _) ?_
  show (m_check_votes [some (.val (.tup (vs.map .int))), some (.val (.int s)), none]).sat _
  unfold m_check_votes
  wtm_at "dl_w"
  refine w_compP (fun _ => .bl true) (fun _ => true) ?_
  wtm_at "dl_w"
  refine ⟨rfl, fun j d hd => ⟨_, rfl, ?_⟩, ?_⟩
  · refine w_cond0 ⟨fun _ => ⟨rfl, ?_⟩, fun e => by cases e⟩
    obtain ⟨x, hx, rfl⟩ := map_get? hd
    have hb := hv.2.2 x (List.mem_of_getElem? hx)
    wtm_at "dl_w"
    refine k_call (by rfl) (between_true hb.1 hb.2) (by rfl) ?_
    exact ⟨_, rfl, rfl⟩
  · rw [filter_true]
    wtm_at "dl_w"
    refine k_cb (by rfl) all_true ?_
    wtm_at "dl_w"
    refine k_call (by rfl) (between_true h0 h1) (by rfl) ?_
    wtm_at "dl_w"
    rfl
theorem check_steps_ok (hv : VotesOk vs) (h0 : 0 ≤ s) (h1 : s ≤ 500) (hk : isKind k) : F_check_steps [.tup (vs.map .int), .int s, .str k] = .ok (.val .non) [] := by
  refine run_of (Q := fun x => x = _) ?_
  show (m_check_steps [some (.val (.tup (vs.map .int))), some (.val (.int s)), some (.val (.str k))]).sat _
  unfold m_check_steps
  wtm_at "dl_w"
  refine k_call (by rfl) (check_votes_ok hv h0 h1) (by rfl) ?_
  wtm_at "dl_w"
  rcases hk with rfl | rfl | rfl <;> (refine k_f ?_; wtm_at "dl_w"; rfl)
theorem step_eq (h : s.natAbs < 2 ^ 100) : F_step [.str k, .int s] = .ok (.val (.int (stepZ k s))) [] := by
  refine run_of (Q := fun x => x = _) ?_
  show (m_step [some (.val (.str k)), some (.val (.int s))]).sat _
  unfold m_step stepZ
  wtm_at "dl_w"
  refine k_dec (fun e => ?_) (fun e => ?_)
  · wtm_at "dl_w"
    rw [if_pos e]; rfl
  · wtm_at "dl_w"
    rw [if_neg e]
    refine k_dec (fun e => ?_) (fun e => ?_)
    · wtm_at "dl_w"
      rw [if_pos e]; rfl
    · wtm_at "dl_w"
      rw [if_neg e]; rfl
theorem law_step_eq (hk : isKind k) (h : s.natAbs < 2 ^ 100) : F__law_step [.str k, .int s] = .ok (.val (.int (stepZ k s))) [] := by
  refine run_of (Q := fun x => x = _) ?_
  show (m__law_step [some (.val (.str k)), some (.val (.int s))]).sat _
  unfold m__law_step stepZ
  wtm_at "dl_w"
  rcases hk with rfl | rfl | rfl <;> (refine k_dg (by rfl) (by rfl) ?_; rfl)

theorem dMul_v {i : Int} {x : Int} (hv : VotesOk vs) (h0 : 0 ≤ i) (h1 : i < vs.length) (hx : 0 ≤ x) (hx2 : x < 100000) : dMul (.int (gI vs i)) (.int x) = some (.val (.int (gI vs i * x))) := by
  have := hv.at h0 h1
  exact dMul_100 (by omega) (by omega)
theorem by_steps_ok (hv : VotesOk vs) (h0 : 0 ≤ s) (h1 : s ≤ 500) (hk : isKind k) : ∃ fs, F_by_steps [.tup (vs.map .int), .int s, .str k] = .ok (.val (.tup (fs.map .int))) [] ∧ SeatsOk vs fs s ∧ Good k vs fs := by
  have l1 := hv.1
  have l2 := hv.2.1
  refine run_of (Q := fun x => ∃ fs, x = FRes.ok (.val (.tup (List.map D.int fs))) [] ∧ SeatsOk vs fs s ∧ Good k vs fs) ?_
  show (m_by_steps [some (.val (.tup (vs.map .int))), some (.val (.int s)), some (.val (.str k)), none, none, none, none]).sat _
  unfold m_by_steps
  wtm_at "dl_w"
  refine k_call (by rfl) (check_steps_ok hv h0 h1 hk) (by rfl) ?_
  wtm_at "dl_w"
  refine k_bin (by rfl) (by rfl) (dMul_rep (by omega) (by omega)) ?_
  wtm_at "dl_w"
  refine w_for ?_
  wtm_at "dl_w"
  refine ⟨fun j δ => ∃ fs o4 o5 o6, δ = [some (.val (.tup (vs.map .int))), some (.val (.int s)), some (.val (.str k)), some (.own false (List.map D.int fs)), ov o4, ov o5, ov o6] ∧ SeatsOk vs fs (j : Int) ∧ Good k vs fs, ?_, ?_, ?_⟩
  · refine ⟨List.replicate vs.length 0, none, none, none, rfl, seats0, good0⟩
  · rintro j d δ hd ⟨fs, o4, o5, o6, rfl, hs, hg⟩
    obtain ⟨hj, rfl⟩ := rangeD_get? hd
    refine ⟨_, tg_ov rfl, ?_⟩
    wtm_at "dl_w"
    refine w_for ?_
    wtm_at "dl_w"
    refine ⟨fun i δ => ∃ b o6, δ = [some (.val (.tup (vs.map .int))), some (.val (.int s)), some (.val (.str k)), some (.own false (List.map D.int fs)), some (.val (.int (0 + (j : Int)))), some (.val (.int b)), ov o6] ∧ (0 ≤ b ∧ b < vs.length) ∧ ∀ x : Int, 0 ≤ x → x < 1 + (i : Int) → Geq k vs fs b x, ?_, ?_, ?_⟩
    · refine ⟨0, o6, rfl, by omega, fun x hx hx1 => ?_⟩
      have : x = 0 := by omega
      subst this
      exact Int.le_refl _
    · rintro i d δ hd ⟨b, o6, rfl, hb, hbest⟩
      obtain ⟨hi, rfl⟩ := rangeD_get? hd
      refine ⟨_, tg_ov rfl, ?_⟩
      have lf := hs.len
      have f1 := hs.at hb.1 hb.2
      have f2 := hs.le hb.1 hb.2
      have g1 := hs.at (i := 1 + (i : Int)) (by omega) (by omega)
      have g2 := hs.le (i := 1 + (i : Int)) (by omega) (by omega)
      have a1 := step_le (k := k) f1
      have a2 := step_le (k := k) g1
      wtm_at "dl_w"
      refine k_call (by rfl) (step_eq (by omega)) (by rfl) ?_
      wtm_at "dl_w"
      refine k_bin (by rfl) (by rfl) (dMul_v hv (by omega) (by omega) (by omega) (by omega)) ?_
      wtm_at "dl_w"
      refine k_call (by rfl) (step_eq (by omega)) (by rfl) ?_
      wtm_at "dl_w"
      refine k_bin (by rfl) (by rfl) (dMul_v hv (by omega) (by omega) (by omega) (by omega)) ?_
      wtm_at "dl_w"
      refine k_dec (fun e => ?_) (fun e => ?_)
      · wtm_at "dl_w"
        refine ⟨1 + (i : Int), some (.int (1 + (i : Int))), rfl, by omega, fun x hx hx1 => ?_⟩
        by_cases ex : x = 1 + (i : Int)
        · subst ex; exact Int.le_refl _
        · exact Geq.trans hv (by omega) hb (by omega) (Int.le_of_lt e) (hbest x hx (by omega))
      · wtm_at "dl_w"
        refine ⟨b, some (.int (1 + (i : Int))), rfl, hb, fun x hx hx1 => ?_⟩
        by_cases ex : x = 1 + (i : Int)
        · subst ex; exact Int.not_lt.mp e
        · exact hbest x hx (by omega)
    · rintro δ ⟨b, o6, rfl, hb, hbest⟩
      have lf := hs.len
      rw [rangeD_len] at hbest
      have hbest : ∀ x : Int, 0 ≤ x → x < vs.length → Geq k vs fs b x := fun x h1 h2 => hbest x h1 (by omega)
      wtm_at "dl_w"
      refine k_setIx (by rfl) (by rfl) (ixN_ok hb.1 (by rw [List.length_map]; omega)) ?_
      refine ⟨fs.set b.toNat (gI fs b + 1), some (.int (0 + (j : Int))), some (.int b), o6, ?_, ?_, hg.step hv hs hb hbest⟩
      · show List.set _ 3 _ = _
        rw [map_set_int]; rfl
      · have := hs.step hb
        rw [show ((j + 1 : Nat) : Int) = (j : Int) + 1 by omega]
        exact this
  · rintro δ ⟨fs, o4, o5, o6, rfl, hs, hg⟩
    rw [rangeD_len, show (((s - 0).toNat : Nat) : Int) = s by omega] at hs
    wtm_at "dl_w"
    exact ⟨fs, rfl, hs, hg⟩
theorem are_seats_ok (hv : VotesOk vs) (hs : SeatsOk vs fs s) : F_are_seats [.tup (vs.map .int), .int s, .tup (fs.map .int)] = .ok (.val (.bl true)) [] := by
  have lf := hs.len
  refine run_of (Q := fun x => x = _) ?_
  show (m_are_seats [some (.val (.tup (vs.map .int))), some (.val (.int s)), some (.val (.tup (fs.map .int))), none]).sat _
  unfold m_are_seats
  wtm_at "dl_w"
  refine w_compP (fun _ => .bl true) (fun _ => true) ?_
  wtm_at "dl_w"
  refine ⟨rfl, fun j d hd => ⟨_, rfl, ?_⟩, ?_⟩
  · refine w_cond0 ⟨fun _ => ⟨rfl, ?_⟩, fun e => by cases e⟩
    obtain ⟨x, hx, rfl⟩ := map_get? hd
    have hm := List.mem_of_getElem? hx
    have hb := hs.nn x hm
    have hb2 := (sum_ge_mem hs.nn x hm).1
    rw [hs.sum] at hb2
    wtm_at "dl_w"
    refine k_call (by rfl) (between_true hb hb2) (by rfl) ?_
    exact ⟨_, rfl, rfl⟩
  · rw [filter_true]
    wtm_at "dl_w"
    refine k_cb (by rfl) all_true ?_
    wtm_at "dl_w"
    show FRes.ok (.val (.bl (decide (fs.sum = s)))) [] = _
    rw [hs.sum, decide_eq_true rfl]
theorem shows_ok (hv : VotesOk vs) (h0 : 0 ≤ s) (h1 : s ≤ 500) (hk : isKind k) (hs : SeatsOk vs fs s) (hg : Good k vs fs) : F_shows_by_steps [.tup (vs.map .int), .int s, .str k, .tup (fs.map .int)] = .ok (.val (.bl true)) [] := by
  have lf := hs.len
  refine run_of (Q := fun x => x = _) ?_
  show (m_shows_by_steps [some (.val (.tup (vs.map .int))), some (.val (.int s)), some (.val (.str k)), some (.val (.tup (fs.map .int))), none, none, none, none]).sat _
  unfold m_shows_by_steps
  wtm_at "dl_w"
  refine k_call (by rfl) (check_steps_ok hv h0 h1 hk) (by rfl) ?_
  wtm_at "dl_w"
  refine k_call (by rfl) (are_seats_ok hv hs) (by rfl) ?_
  wtm_at "dl_w"
  refine w_for ?_
  wtm_at "dl_w"
  refine ⟨fun j δ => ∃ o4 o5 o6 o7, δ = [some (.val (.tup (vs.map .int))), some (.val (.int s)), some (.val (.str k)), some (.val (.tup (fs.map .int))), ov o4, ov o5, ov o6, ov o7], ⟨none, none, none, none, rfl⟩, ?_, ?_⟩
  · rintro j d δ hd ⟨o4, o5, o6, o7, rfl⟩
    obtain ⟨hj, rfl⟩ := enumI_get? hd
    refine ⟨_, tg2_ov (by decide) rfl rfl, ?_⟩
    refine w_for ?_
    wtm_at "dl_w"
    refine ⟨fun i δ => ∃ o6 o7, δ = [some (.val (.tup (vs.map .int))), some (.val (.int s)), some (.val (.str k)), some (.val (.tup (fs.map .int))), some (.val (.int (j : Int))), some (.val (.int (gI fs (j : Int)))), ov o6, ov o7], ⟨o6, o7, rfl⟩, ?_, ?_⟩
    · rintro i d δ hd ⟨o6, o7, rfl⟩
      obtain ⟨hi, rfl⟩ := enumI_get? hd
      refine ⟨_, tg2_ov (by decide) rfl rfl, ?_⟩
      have f1 := hs.at (i := (j : Int)) (by omega) (by omega)
      have f2 := hs.le (i := (j : Int)) (by omega) (by omega)
      have g1 := hs.at (i := (i : Int)) (by omega) (by omega)
      have g2 := hs.le (i := (i : Int)) (by omega) (by omega)
      have fin : ∃ o6' o7', List.set (List.set [some (SE.val (.tup (vs.map .int))), some (.val (.int s)), some (.val (.str k)), some (.val (.tup (fs.map .int))), some (.val (.int (j : Int))), some (.val (.int (gI fs (j : Int)))), ov o6, ov o7] 6 (some (.val (.int (i : Int))))) 7 (some (.val (.int (gI fs (i : Int))))) = [some (.val (.tup (vs.map .int))), some (.val (.int s)), some (.val (.str k)), some (.val (.tup (fs.map .int))), some (.val (.int (j : Int))), some (.val (.int (gI fs (j : Int)))), ov o6', ov o7'] := ⟨some (.int i), some (.int (gI fs (i : Int))), rfl⟩
      wtm_at "dl_w"
      refine k_nec (fun ne => ?_) (fun e => ?_)
      · wtm_at "dl_w"
        refine k_dec (fun pos => ?_) (fun e => ?_)
        · have a1 := step_le (k := k) f1
          have a2 := step_le (k := k) (s := gI fs (i : Int) - 1) (by omega)
          wtm_at "dl_w"
          refine k_call (by rfl) (step_eq (by omega)) (by rfl) ?_
          wtm_at "dl_w"
          refine k_bin (by rfl) (by rfl) (dMul_v hv (by omega) (by omega) (by omega) (by omega)) ?_
          wtm_at "dl_w"
          refine k_call (by rfl) (step_eq (by omega)) (by rfl) ?_
          wtm_at "dl_w"
          refine k_bin (by rfl) (by rfl) (dMul_v hv (by omega) (by omega) (by omega) (by omega)) ?_
          wtm_at "dl_w"
          refine k_decF (Int.not_lt.mpr (hg (j : Int) (i : Int) (by omega) (by omega) (by omega) (by omega) ne pos)) ?_
          wtm_at "dl_w"
          exact fin
        · wtm_at "dl_w"
          exact fin
      · wtm_at "dl_w"
        exact fin
    · rintro δ ⟨o6, o7, rfl⟩
      exact ⟨some (.int (j : Int)), some (.int (gI fs (j : Int))), o6, o7, rfl⟩
  · rintro δ ⟨o4, o5, o6, o7, rfl⟩
    wtm_at "dl_w"
    rfl
end
end K52
namespace K52
open PySem PySem.Spec PyProof.Rows L2 DL
local macro_rules | `(tactic| wtm_at "dl_gv") => `(tactic| first | (with_reducible first | exact gv_0 | exact gv_1 | exact gv_2 | exact gv_3 | exact gv_4 | exact gv_5 | exact gv_6 | exact gv_7 | exact gv_8) | rfl)
local macro_rules | `(tactic| wtm_at "dl_vw") => `(tactic| first | (with_reducible first | exact vw_0 | exact vw_1 | exact vw_2 | exact vw_3 | exact vw_4 | exact vw_5 | exact vw_6 | exact vw_7 | exact vw_8) | rfl)
local macro_rules | `(tactic| wtm_at "dl_sl") => `(tactic| try simp only [List.set_cons_zero, List.set_cons_succ])
local macro_rules | `(tactic| wtm_at "dl_bk") => `(tactic| simp only [backE, wipeE, List.getElem?_cons_zero, List.getElem?_cons_succ, Option.getD_some, List.set_cons_zero, List.set_cons_succ])
local macro_rules | `(tactic| wtm_at "dl_ge") => `(tactic| first | exact Int.le_of_lt (by assumption) | assumption)
local macro_rules | `(tactic| wtm_at "dl_f2") => `(tactic| first
  | (with_reducible first | exact dAdd_i | exact dSub_i | exact dLt_i | exact dLe_i | exact dGt_i | exact dGe_i | exact dEq_i | exact dNe_i | exact dEq_s | exact dNe_s | exact dEq_lI | exact dNe_lI | exact dEq_tI | exact dNe_tI | exact dEq_l0 | exact dNe_l0 | exact dEq_bb | exact dIx_tupI (by omega) (by omega) | exact dIx_lstI (by omega) (by omega) | exact dMul_100 (by omega) (by omega) | exact dMod_ok (by omega) | exact dFdv_ok (divOk_of (by omega) (by omega)) | fail))
local macro_rules | `(tactic| wtm_at "dl_f1") => `(tactic| with_reducible first | exact dIsi_tt | exact dIsi_tl | exact dIsi_ti | exact dIsi_tn | exact dIsi_ts | exact dIsi_ii | exact dIsi_is | exact dIsi_in | exact dIsi_it | exact dIsi_il | exact dIsi_bi | exact dIsi_ss | exact dIsi_si | exact dIsi_sn | exact dIsi_st | fail)
local macro_rules | `(tactic| wtm_at "dl_fc") => `(tactic| first | exact dLen_tI | exact dLen_lI | exact sumA_tup _ | exact sumA_lst _ | rfl)
local macro_rules | `(tactic| wtm_at "dl_e") => `(tactic| first
  | with_reducible refine w_c ?_
  | ((with_reducible refine' w_val ?e ?_); (case e => rfl))
  | ((with_reducible refine' w_own ?e ?_); (case e => rfl))
  | with_reducible refine w_bin ?_ | with_reducible refine w_un ?_ | with_reducible refine w_if ?_ | with_reducible refine w_and ?_ | with_reducible refine w_or ?_ | with_reducible refine w_not ?_ | with_reducible refine w_chain ?_
  | with_reducible refine w_acons ?_ | with_reducible refine w_anil ?_ | with_reducible refine w_tup ?_ | with_reducible refine w_lst ?_ | with_reducible refine w_cb ?_ | with_reducible refine w_sl ?_ | with_reducible refine w_part0 ?_ | with_reducible refine w_part1 ?_ | with_reducible refine w_slEnd ?_
  | with_reducible refine w_call ?_ | with_reducible refine w_callp ?_ | with_reducible refine w_app ?_ | with_reducible refine w_listRg ?_ | with_reducible refine w_dget ?_
  | with_reducible refine w_iVal ?_ | with_reducible refine w_iRange1 ?_ | with_reducible refine w_iRange2 ?_ | with_reducible refine w_iEnum1 ?_ | with_reducible refine w_iZip2 ?_ | with_reducible refine w_rg ?_
  | with_reducible refine w_seq ?_ | with_reducible refine w_set ?_ | with_reducible refine w_par ?_ | with_reducible refine w_asgT ?_ | with_reducible refine w_setIx ?_ | with_reducible refine w_expr ?_ | with_reducible refine w_ret ?_ | with_reducible refine w_next ?_ | with_reducible refine w_sif ?_
  | ((with_reducible refine' k_bin ?e1 ?e2 ?e3 ?_); (case e1 => rfl); (case e2 => rfl); (case e3 => wtm_at "dl_f2"))
  | ((with_reducible refine' k_bin (f := dIx) ?e1 ?e2 ?e3 ?_); (case e1 => rfl); (case e2 => rfl); (case e3 => rfl))
  | ((with_reducible refine' k_bin (f := dIn _) ?e1 ?e2 ?e3 ?_); (case e1 => rfl); (case e2 => rfl); (case e3 => rfl))
  | ((with_reducible refine' k_bin (f := dIs _) ?e1 ?e2 ?e3 ?_); (case e1 => rfl); (case e2 => rfl); (case e3 => rfl))
  | ((with_reducible refine' k_bin (f := dEq) ?e1 ?e2 ?e3 ?_); (case e1 => rfl); (case e2 => rfl); (case e3 => rfl))
  | ((with_reducible refine' k_bin (f := dNe) ?e1 ?e2 ?e3 ?_); (case e1 => rfl); (case e2 => rfl); (case e3 => rfl))
  | ((with_reducible refine' k_bin (f := dAdd) ?e1 ?e2 ?e3 ?_); (case e1 => rfl); (case e2 => rfl); (case e3 => rfl))
  | ((with_reducible refine' k_un ?e1 ?e2 ?_); (case e1 => rfl); (case e2 => wtm_at "dl_f1"))
  | with_reducible refine k_bool ?_ | with_reducible refine k_int ?_
  | ((with_reducible refine' k_ch ?e1 ?e2 ?e3 ?_); (case e1 => rfl); (case e2 => rfl); (case e3 => wtm_at "dl_f2"))
  | ((with_reducible refine' k_arg ?e1 ?_); (case e1 => rfl))
  | ((with_reducible refine' k_give ?e1 ?e2 ?_); (case e1 => wtm_at "dl_gv"); (case e2 => rfl))
  | ((with_reducible refine' k_give1 ?e1 ?_); (case e1 => rfl))
  | ((with_reducible refine' k_gives ?e1 ?_); (case e1 => wtm_at "dl_gv"))
  | ((with_reducible refine' k_cb ?e1 ?e2 ?_); (case e1 => wtm_at "dl_vw"); (case e2 => wtm_at "dl_fc"))
  | ((with_reducible refine' k_sl ?e1 ?e2 ?_); (case e1 => rfl); (case e2 => rfl))
  | ((with_reducible refine' k_own ?e1 ?_); (case e1 => rfl))
  | ((with_reducible refine' k_seq ?e1 ?_); (case e1 => rfl))
  | with_reducible refine k_rg1 ?_ | with_reducible refine k_rg2 ?_
  | with_reducible refine k_rg (by omega) (by omega) (by omega) (by omega) (by omega) ?_
  | ((with_reducible refine' k_en ?e1 ?e2 ?_); (case e1 => wtm_at "dl_gv"); (case e2 => rfl))
  | ((with_reducible refine' k_zp ?e1 ?e2 ?e3 ?_); (case e1 => wtm_at "dl_gv"); (case e2 => rfl); (case e3 => rfl))
  | ((with_reducible refine' k_set ?e1 ?_); (case e1 => first | rfl | exact setV_ov rfl | exact setF_ov rfl); (wtm_at "dl_sl"))
  | ((with_reducible refine' k_par ?e1 ?_); (case e1 => first | rfl | exact setPar_ov (by decide) rfl rfl); (wtm_at "dl_sl"))
  | ((with_reducible refine' k_asg ?e1 ?e2 ?_); (case e1 => rfl); (case e2 => first | rfl | exact tg2_ov (by decide) rfl rfl); (wtm_at "dl_sl"))
  | with_reducible refine k_t ?_ | with_reducible refine k_f ?_ | with_reducible refine k_nt ?_ | with_reducible refine k_nf ?_
  | with_reducible refine k_decT (by omega) ?_ | with_reducible refine k_decF (by omega) ?_ | with_reducible refine k_decN (by omega) ?_ | with_reducible refine k_decM (by omega) ?_ | with_reducible refine k_bt (by decide) ?_ | with_reducible refine k_bf (by decide) ?_)
local macro_rules | `(tactic| wtm_at "dl_w") => `(tactic| repeat (wtm_at "dl_e"))
section
variable {k : Str} {vs fs : List Int} {s : Int}
theorem take_ok : TakeOk F__law_take := take_any (c1 := 82623) (c2 := 5732) (c3 := 15574) (c4 := 364) ⟨by decide, by decide⟩ ⟨by decide, by decide⟩ ⟨by decide, by decide⟩ (by decide) ⟨by decide, by decide⟩
theorem of_ok : OfOk F__law_of := of_any take_ok
theorem cells_ok {ns : List Int} : ∃ m : Int, 1 ≤ m ∧ m ≤ 2 ∧ F__law_cells [.scr ns, .int 2] = .ok (.fr (rgD 0 m)) [] := by
  obtain ⟨m, h1, h2, h3⟩ := cells_eq (ns := ns) (u := 2) (by decide) (by decide)
  exact ⟨m, h1, by omega, h3⟩
theorem pot_ok {ns : List Int} {pl : Int} (h0 : 0 ≤ pl) (h1 : pl < 2 ^ 20) : ∃ pot, F__law_pot [.scr ns, .int pl] = .ok (.fr pot) [] ∧ PotOk 0 pot :=
  pot_eq (c1 := 32947) (c2 := 10646) (c3 := 71993) (c4 := 14028) (c5 := 7816) ⟨by decide, by decide⟩ ⟨by decide, by decide⟩ ⟨by decide, by decide⟩ ⟨by decide, by decide⟩ ⟨by decide, by decide⟩ h0 h1
def NextInv (k : Str) (vs fs : List Int) (pot : List D) (j : Nat) (δ : FEnv) : Prop := ∃ bs o5 o6 o7 o8 o9, δ = [some (.own true pot), some (.val (.tup (vs.map .int))), some (.val (.str k)), some (.val (.lst (fs.map .int))), some (.own false (bs.map D.int)), ov o5, ov o6, ov o7, ov o8, o9] ∧ (o9 = none ∨ ∃ a b, o9 = some (.own false [.bl a, .bl b])) ∧
    (0 < j → bs ≠ []) ∧ (j = 0 → bs = []) ∧ (bs.length ≤ j) ∧ (∀ b ∈ bs, (0 ≤ b ∧ b < (j : Int)) ∧ ∀ x : Int, 0 ≤ x → x < (j : Int) → Geq k vs fs b x)
/-- one whose votes by its step are most -/
theorem law_next_ok {n : Int} {pot : List D} (hv : VotesOk vs) (hs : SeatsOk vs fs s) (hs5 : s ≤ 500) (hk : isKind k) (hp : PotOk n pot) (hn : n < 2 ^ 60) :
    ∃ b pot', F__law_next [.lst pot, .tup (vs.map .int), .str k, .lst (fs.map .int)] = .ok (.val (.int b)) pot' ∧ PotOk (n + 1) pot' ∧ (0 ≤ b ∧ b < vs.length) ∧ ∀ x : Int, 0 ≤ x → x < vs.length → Geq k vs fs b x := by
  have l1 := hv.1
  have l2 := hv.2.1
  have lf := hs.len
  refine run_of (Q := fun x => ∃ b pot', x = FRes.ok (.val (.int b)) pot' ∧ PotOk (n + 1) pot' ∧ (0 ≤ b ∧ b < vs.length) ∧ ∀ x : Int, 0 ≤ x → x < vs.length → Geq k vs fs b x) ?_
  show (m__law_next [some (.own true pot), some (.val (.tup (vs.map .int))), some (.val (.str k)), some (.val (.lst (fs.map .int))), none, none, none, none, none, none]).sat _
  unfold m__law_next
  wtm_at "dl_w"
  refine w_for ?_
  wtm_at "dl_w"
  refine ⟨NextInv k vs fs pot, ?_, ?_, ?_⟩
  · exact ⟨[], none, none, none, none, none, rfl, .inl rfl, fun h => absurd h (by decide), fun _ => rfl, Nat.le_refl _, fun b hb => by cases hb⟩
  · rintro j d δ hd ⟨bs, o5, o6, o7, o8, o9, rfl, h9, hb1, hb2, hbl, hb⟩
    obtain ⟨hj, rfl⟩ := enumI_get? hd
    refine ⟨_, tg2_ov (by decide) rfl rfl, ?_⟩
    wtm_at "dl_w"
    refine k_dec (fun e => ?_) (fun e => ?_)
    · wtm_at "dl_w"
      subst e
      have j0 : j = 0 := by
        rcases Nat.eq_zero_or_pos j with h | h
        · exact h
        · exact absurd rfl (hb1 h)
      subst j0
      refine ⟨[0], some (.int (0 : Nat)), some (.int (gI vs (0 : Nat))), o7, o8, o9, rfl, h9, fun _ => by simp, fun h => absurd h (by omega), by simp, fun b hb' => ?_⟩
      have e0 : b = 0 := by simpa using hb'
      subst e0
      exact ⟨by omega, fun x h1 h2 => by have : x = 0 := by omega
                                         subst this; exact Int.le_refl _⟩
    · have hl : 0 < bs.length := List.length_pos_iff.mpr e
      have hm := gI_mem (vs := bs) (i := 0) (by decide) (by omega)
      have h0 := hb _ hm
      generalize hb0 : gI bs 0 = b0 at hm h0
      have f1 := hs.at (i := b0) (by omega) (by omega)
      have f2 := hs.le (i := b0) (by omega) (by omega)
      have g1 := hs.at (i := (j : Int)) (by omega) (by omega)
      have g2 := hs.le (i := (j : Int)) (by omega) (by omega)
      have a1 := step_le (k := k) f1
      have a2 := step_le (k := k) g1
      have v1 := hv.at (i := b0) (by omega) (by omega)
      have v2 := hv.at (i := (j : Int)) (by omega) (by omega)
      wtm_at "dl_w"
      rw [hb0]
      wtm_at "dl_w"
      refine k_call (by rfl) (law_step_eq hk (by omega)) (by rfl) ?_
      wtm_at "dl_w"
      rw [hb0]
      wtm_at "dl_w"
      refine k_call (by rfl) (law_step_eq hk (by omega)) (by rfl) ?_
      wtm_at "dl_w"
      rw [hb0]
      wtm_at "dl_w"
      refine k_call (by rfl) (law_step_eq hk (by omega)) (by rfl) ?_
      wtm_at "dl_w"
      refine k_call (by rfl) (law_step_eq hk (by omega)) (by rfl) ?_
      wtm_at "dl_w"
      refine k_set (setF_nt (by rfl) (by rcases h9 with rfl | ⟨a, b, rfl⟩ <;> (intro ds h; cases h))) ?_
      wtm_at "dl_sl"
      have push : (∀ b ∈ bs, Geq k vs fs b (j : Int)) → ∀ b ∈ bs, (0 ≤ b ∧ b < ((j + 1 : Nat) : Int)) ∧ ∀ x : Int, 0 ≤ x → x < ((j + 1 : Nat) : Int) → Geq k vs fs b x := fun hh b hb' => by
        have := hb b hb'
        refine ⟨by omega, fun x h1 h2 => ?_⟩
        by_cases ex : x = (j : Int)
        · subst ex; exact hh b hb'
        · exact this.2 x h1 (by omega)
      have new : Geq k vs fs (j : Int) b0 → (0 ≤ (j : Int) ∧ (j : Int) < ((j + 1 : Nat) : Int)) ∧ ∀ x : Int, 0 ≤ x → x < ((j + 1 : Nat) : Int) → Geq k vs fs (j : Int) x := fun hh => by
        refine ⟨by omega, fun x h1 h2 => ?_⟩
        by_cases ex : x = (j : Int)
        · subst ex; exact Int.le_refl _
        · exact Geq.trans hv (by omega) (by omega) (by omega) hh (h0.2 x h1 (by omega))
      have old : Geq k vs fs b0 (j : Int) → ∀ b ∈ bs, Geq k vs fs b (j : Int) := fun hh b hb' => by
        have := hb b hb'
        exact Geq.trans hv (by omega) (by omega) (by omega) (this.2 b0 (by omega) (by omega)) hh
      have fin : ∀ bs' a b, bs' ≠ [] → bs'.length ≤ j + 1 → (∀ b ∈ bs', (0 ≤ b ∧ b < ((j + 1 : Nat) : Int)) ∧ ∀ x : Int, 0 ≤ x → x < ((j + 1 : Nat) : Int) → Geq k vs fs b x) → NextInv k vs fs pot (j + 1) [some (SE.own true pot), some (.val (.tup (vs.map .int))), some (.val (.str k)), some (.val (.lst (fs.map .int))), some (.own false (List.map D.int bs')), some (.val (.int (j : Int))), some (.val (.int (gI vs (j : Int)))), some (.val (.int (gI vs (j : Int) * stepZ k (gI fs b0)))), some (.val (.int (gI vs b0 * stepZ k (gI fs (j : Int))))), some (.own false [.bl a, .bl b])] := fun bs' a b h1 h2 h3 =>
        ⟨bs', some _, some _, some _, some _, _, rfl, .inr ⟨_, _, rfl⟩, fun _ => h1, fun h => absurd h (by omega), h2, h3⟩
      have hap : (bs.map D.int ++ [D.int (j : Int)]) = (bs ++ [(j : Int)]).map .int := by rw [List.map_append]; rfl
      have szb : sz ((List.map D.int bs).length + 1) = true := sz_of (by rw [List.length_map]; omega)
      have app : Geq k vs fs b0 (j : Int) → Geq k vs fs (j : Int) b0 → ∀ a b, NextInv k vs fs pot (j + 1) [some (SE.own true pot), some (.val (.tup (vs.map .int))), some (.val (.str k)), some (.val (.lst (fs.map .int))), some (.own false (List.map D.int bs ++ [D.int (j : Int)])), some (.val (.int (j : Int))), some (.val (.int (gI vs (j : Int)))), some (.val (.int (gI vs (j : Int) * stepZ k (gI fs b0)))), some (.val (.int (gI vs b0 * stepZ k (gI fs (j : Int))))), some (.own false [.bl a, .bl b])] := fun h1 h2 a b => by
        rw [hap]
        refine fin _ a b (by simp) (by rw [List.length_append, List.length_singleton]; omega) fun b hb' => ?_
        rcases List.mem_append.mp hb' with h | h
        · exact push (old h1) b h
        · have : b = (j : Int) := by simpa using h
          subst this; exact new h2
      have rep : Geq k vs fs (j : Int) b0 → ∀ a b, NextInv k vs fs pot (j + 1) [some (SE.own true pot), some (.val (.tup (vs.map .int))), some (.val (.str k)), some (.val (.lst (fs.map .int))), some (.own false [D.int (j : Int)]), some (.val (.int (j : Int))), some (.val (.int (gI vs (j : Int)))), some (.val (.int (gI vs (j : Int) * stepZ k (gI fs b0)))), some (.val (.int (gI vs b0 * stepZ k (gI fs (j : Int))))), some (.own false [.bl a, .bl b])] := fun h1 a b => by
        refine fin [(j : Int)] a b (by simp) (by simp) fun b hb' => ?_
        have : b = (j : Int) := by simpa using hb'
        subst this; exact new h1
      have stay : Geq k vs fs b0 (j : Int) → ∀ a b, NextInv k vs fs pot (j + 1) [some (SE.own true pot), some (.val (.tup (vs.map .int))), some (.val (.str k)), some (.val (.lst (fs.map .int))), some (.own false (List.map D.int bs)), some (.val (.int (j : Int))), some (.val (.int (gI vs (j : Int)))), some (.val (.int (gI vs (j : Int) * stepZ k (gI fs b0)))), some (.val (.int (gI vs b0 * stepZ k (gI fs (j : Int))))), some (.own false [.bl a, .bl b])] := fun h1 a b =>
        fin bs a b e (by omega) (push (old h1))
      by_cases z1 : stepZ k (gI fs b0) = 0 <;> by_cases z2 : stepZ k (gI fs (j : Int)) = 0
      · rw [decide_eq_true z1, decide_eq_true z2]
        wtm_at "dl_w"
        refine k_app (by rfl) (by rfl) szb ?_
        exact app (by unfold Geq; rw [z1, z2]; omega) (by unfold Geq; rw [z1, z2]; omega) _ _
      · rw [decide_eq_true z1, decide_eq_false z2]
        wtm_at "dl_w"
        refine stay ?_ _ _
        unfold Geq
        rw [z1, Int.mul_zero]
        exact Int.mul_nonneg (by omega) (by omega)
      · rw [decide_eq_false z1, decide_eq_true z2]
        wtm_at "dl_w"
        refine rep ?_ _ _
        unfold Geq
        rw [z2, Int.mul_zero]
        exact Int.mul_nonneg (by omega) (by omega)
      · rw [decide_eq_false z1, decide_eq_false z2]
        wtm_at "dl_w"
        refine k_dec (fun e => ?_) (fun e => ?_)
        · wtm_at "dl_w"
          refine k_app (by rfl) (by rfl) szb ?_
          exact app (Int.le_of_eq e) (Int.le_of_eq e.symm) _ _
        · wtm_at "dl_w"
          refine k_dec (fun e => ?_) (fun e => ?_)
          · wtm_at "dl_w"
            exact rep (Int.le_of_lt e) _ _
          · wtm_at "dl_w"
            exact stay (Int.not_lt.mp e) _ _
  · rintro δ ⟨bs, o5, o6, o7, o8, o9, rfl, h9, hb1, hb2, hbl, hb⟩
    rw [enumD_len, List.length_map] at hb1 hb hbl
    have hl : 0 < (bs.map D.int).length := by rw [List.length_map]; exact List.length_pos_iff.mpr (hb1 l1)
    obtain ⟨i, d, pot', e1, e2, e3⟩ := of_ok.lst hp hn hl (by rw [List.length_map]; omega)
    obtain ⟨b, hb', rfl⟩ := map_get? e1
    have hbb := hb b (List.mem_of_getElem? hb')
    wtm_at "dl_w"
    refine k_callp (by rfl) (by rfl) (by rfl) e2 e3.okLs (by rfl) ?_
    exact ⟨b, pot', rfl, e3, hbb.1, hbb.2⟩
end
end K52
namespace K52
open PySem PySem.Spec PyProof.Rows L2 DL
local macro_rules | `(tactic| wtm_at "dl_gv") => `(tactic| first | (with_reducible first | exact gv_0 | exact gv_1 | exact gv_2 | exact gv_3 | exact gv_4 | exact gv_5 | exact gv_6 | exact gv_7 | exact gv_8) | rfl)
local macro_rules | `(tactic| wtm_at "dl_vw") => `(tactic| first | (with_reducible first | exact vw_0 | exact vw_1 | exact vw_2 | exact vw_3 | exact vw_4 | exact vw_5 | exact vw_6 | exact vw_7 | exact vw_8) | rfl)
local macro_rules | `(tactic| wtm_at "dl_sl") => `(tactic| try simp only [List.set_cons_zero, List.set_cons_succ])
local macro_rules | `(tactic| wtm_at "dl_bk") => `(tactic| simp only [backE, wipeE, List.getElem?_cons_zero, List.getElem?_cons_succ, Option.getD_some, List.set_cons_zero, List.set_cons_succ])
local macro_rules | `(tactic| wtm_at "dl_ge") => `(tactic| first | exact Int.le_of_lt (by assumption) | assumption)
local macro_rules | `(tactic| wtm_at "dl_f2") => `(tactic| first
  | (with_reducible first | exact dAdd_i | exact dSub_i | exact dLt_i | exact dLe_i | exact dGt_i | exact dGe_i | exact dEq_i | exact dNe_i | exact dEq_s | exact dNe_s | exact dEq_lI | exact dNe_lI | exact dEq_tI | exact dNe_tI | exact dEq_l0 | exact dNe_l0 | exact dEq_bb | exact dIx_tupI (by omega) (by omega) | exact dIx_lstI (by omega) (by omega) | exact dMul_100 (by omega) (by omega) | exact dMod_ok (by omega) | exact dFdv_ok (divOk_of (by omega) (by omega)) | fail))
local macro_rules | `(tactic| wtm_at "dl_f1") => `(tactic| with_reducible first | exact dIsi_tt | exact dIsi_tl | exact dIsi_ti | exact dIsi_tn | exact dIsi_ts | exact dIsi_ii | exact dIsi_is | exact dIsi_in | exact dIsi_it | exact dIsi_il | exact dIsi_bi | exact dIsi_ss | exact dIsi_si | exact dIsi_sn | exact dIsi_st | fail)
local macro_rules | `(tactic| wtm_at "dl_fc") => `(tactic| first | exact dLen_tI | exact dLen_lI | exact sumA_tup _ | exact sumA_lst _ | rfl)
local macro_rules | `(tactic| wtm_at "dl_e") => `(tactic| first
  | with_reducible refine w_c ?_
  | ((with_reducible refine' w_val ?e ?_); (case e => rfl))
  | ((with_reducible refine' w_own ?e ?_); (case e => rfl))
  | with_reducible refine w_bin ?_ | with_reducible refine w_un ?_ | with_reducible refine w_if ?_ | with_reducible refine w_and ?_ | with_reducible refine w_or ?_ | with_reducible refine w_not ?_ | with_reducible refine w_chain ?_
  | with_reducible refine w_acons ?_ | with_reducible refine w_anil ?_ | with_reducible refine w_tup ?_ | with_reducible refine w_lst ?_ | with_reducible refine w_cb ?_ | with_reducible refine w_sl ?_ | with_reducible refine w_part0 ?_ | with_reducible refine w_part1 ?_ | with_reducible refine w_slEnd ?_
  | with_reducible refine w_call ?_ | with_reducible refine w_callp ?_ | with_reducible refine w_app ?_ | with_reducible refine w_listRg ?_ | with_reducible refine w_dget ?_
  | with_reducible refine w_iVal ?_ | with_reducible refine w_iRange1 ?_ | with_reducible refine w_iRange2 ?_ | with_reducible refine w_iEnum1 ?_ | with_reducible refine w_iZip2 ?_ | with_reducible refine w_rg ?_
  | with_reducible refine w_seq ?_ | with_reducible refine w_set ?_ | with_reducible refine w_par ?_ | with_reducible refine w_asgT ?_ | with_reducible refine w_setIx ?_ | with_reducible refine w_expr ?_ | with_reducible refine w_ret ?_ | with_reducible refine w_next ?_ | with_reducible refine w_sif ?_
  | ((with_reducible refine' k_bin ?e1 ?e2 ?e3 ?_); (case e1 => rfl); (case e2 => rfl); (case e3 => wtm_at "dl_f2"))
  | ((with_reducible refine' k_bin (f := dIx) ?e1 ?e2 ?e3 ?_); (case e1 => rfl); (case e2 => rfl); (case e3 => rfl))
  | ((with_reducible refine' k_bin (f := dIn _) ?e1 ?e2 ?e3 ?_); (case e1 => rfl); (case e2 => rfl); (case e3 => rfl))
  | ((with_reducible refine' k_bin (f := dIs _) ?e1 ?e2 ?e3 ?_); (case e1 => rfl); (case e2 => rfl); (case e3 => rfl))
  | ((with_reducible refine' k_bin (f := dEq) ?e1 ?e2 ?e3 ?_); (case e1 => rfl); (case e2 => rfl); (case e3 => rfl))
  | ((with_reducible refine' k_bin (f := dNe) ?e1 ?e2 ?e3 ?_); (case e1 => rfl); (case e2 => rfl); (case e3 => rfl))
  | ((with_reducible refine' k_bin (f := dAdd) ?e1 ?e2 ?e3 ?_); (case e1 => rfl); (case e2 => rfl); (case e3 => rfl))
  | ((with_reducible refine' k_un ?e1 ?e2 ?_); (case e1 => rfl); (case e2 => wtm_at "dl_f1"))
  | with_reducible refine k_bool ?_ | with_reducible refine k_int ?_
  | ((with_reducible refine' k_ch ?e1 ?e2 ?e3 ?_); (case e1 => rfl); (case e2 => rfl); (case e3 => wtm_at "dl_f2"))
  | ((with_reducible refine' k_arg ?e1 ?_); (case e1 => rfl))
  | ((with_reducible refine' k_give ?e1 ?e2 ?_); (case e1 => wtm_at "dl_gv"); (case e2 => rfl))
  | ((with_reducible refine' k_give1 ?e1 ?_); (case e1 => rfl))
  | ((with_reducible refine' k_gives ?e1 ?_); (case e1 => wtm_at "dl_gv"))
  | ((with_reducible refine' k_cb ?e1 ?e2 ?_); (case e1 => wtm_at "dl_vw"); (case e2 => wtm_at "dl_fc"))
  | ((with_reducible refine' k_sl ?e1 ?e2 ?_); (case e1 => rfl); (case e2 => rfl))
  | ((with_reducible refine' k_own ?e1 ?_); (case e1 => rfl))
  | ((with_reducible refine' k_seq ?e1 ?_); (case e1 => rfl))
  | with_reducible refine k_rg1 ?_ | with_reducible refine k_rg2 ?_
  | with_reducible refine k_rg (by omega) (by omega) (by omega) (by omega) (by omega) ?_
  | ((with_reducible refine' k_en ?e1 ?e2 ?_); (case e1 => wtm_at "dl_gv"); (case e2 => rfl))
  | ((with_reducible refine' k_zp ?e1 ?e2 ?e3 ?_); (case e1 => wtm_at "dl_gv"); (case e2 => rfl); (case e3 => rfl))
  | ((with_reducible refine' k_set ?e1 ?_); (case e1 => first | rfl | exact setV_ov rfl | exact setF_ov rfl); (wtm_at "dl_sl"))
  | ((with_reducible refine' k_par ?e1 ?_); (case e1 => first | rfl | exact setPar_ov (by decide) rfl rfl); (wtm_at "dl_sl"))
  | ((with_reducible refine' k_asg ?e1 ?e2 ?_); (case e1 => rfl); (case e2 => first | rfl | exact tg2_ov (by decide) rfl rfl); (wtm_at "dl_sl"))
  | with_reducible refine k_t ?_ | with_reducible refine k_f ?_ | with_reducible refine k_nt ?_ | with_reducible refine k_nf ?_
  | with_reducible refine k_decT (by omega) ?_ | with_reducible refine k_decF (by omega) ?_ | with_reducible refine k_decN (by omega) ?_ | with_reducible refine k_decM (by omega) ?_ | with_reducible refine k_bt (by decide) ?_ | with_reducible refine k_bf (by decide) ?_)
local macro_rules | `(tactic| wtm_at "dl_w") => `(tactic| repeat (wtm_at "dl_e"))
/-! sublists -/
theorem sum_sub : ∀ {xs ys : List Int}, xs.Sublist ys → (∀ y ∈ ys, 0 ≤ y) → xs.sum ≤ ys.sum := by
  intro xs ys h
  induction h with
  | slnil => intro _; exact Int.le_refl _
  | cons a h ih =>
    intro hn
    have h1 := ih fun y hy => hn y (List.mem_cons_of_mem _ hy)
    have h2 := hn a List.mem_cons_self
    rw [List.sum_cons]; omega
  | cons_cons a h ih =>
    intro hn
    have h1 := ih fun y hy => hn y (List.mem_cons_of_mem _ hy)
    rw [List.sum_cons, List.sum_cons]; omega
def ups (n : Nat) : List Int := (List.range n).map fun (i : Nat) => (i : Int)
theorem ups_succ (n : Nat) : ups (n + 1) = ups n ++ [(n : Int)] := by unfold ups; rw [List.range_succ, List.map_append]; rfl
theorem mem_ups {n : Nat} {x : Int} (h : x ∈ ups n) : 0 ≤ x ∧ x < n := by
  unfold ups at h
  obtain ⟨i, hi, rfl⟩ := List.mem_map.mp h
  have := List.mem_range.mp hi
  omega
theorem ups_map {vs : List Int} : (ups vs.length).map (gI vs) = vs := by
  refine List.ext_getElem (by simp [ups]) fun i h1 h2 => ?_
  simp only [ups, List.getElem_map, List.getElem_range]
  exact gI_getElem h2
theorem ups_pw (n : Nat) : (ups n).Pairwise (· < ·) := by
  unfold ups
  rw [List.pairwise_map]
  exact List.Pairwise.imp (fun h => by omega) List.pairwise_lt_range
section
variable {k : Str} {vs fs xs : List Int} {s : Int}
theorem gI_map {f : Int → Int} {i : Int} (h0 : 0 ≤ i) (h1 : i < xs.length) : gI (xs.map f) i = f (gI xs i) := by
  have e := get?_gI h0 h1
  unfold gI
  rw [List.getD_eq_getElem?_getD, List.getElem?_map, List.getD_eq_getElem?_getD]
  have hl : i.toNat < xs.length := by omega
  rw [List.getElem?_eq_getElem hl]
  rfl
theorem sub_votes (hv : VotesOk vs) (hx : xs.Sublist (ups vs.length)) (h0 : xs ≠ []) : VotesOk (xs.map (gI vs)) := by
  have hl := hx.length_le
  have lu : (ups vs.length).length = vs.length := by simp [ups]
  refine ⟨by rw [List.length_map]; exact List.length_pos_iff.mpr h0, by rw [List.length_map]; have := hv.2.1; omega, fun v hm => ?_⟩
  obtain ⟨x, hx', rfl⟩ := List.mem_map.mp hm
  have := mem_ups (hx.subset hx')
  exact hv.2.2 _ (gI_mem this.1 this.2)
theorem sub_seats (hs : SeatsOk vs fs s) (hx : xs.Sublist (ups vs.length)) : SeatsOk (xs.map (gI vs)) (xs.map (gI fs)) (xs.map (gI fs)).sum ∧ (xs.map (gI fs)).sum ≤ s ∧ 0 ≤ (xs.map (gI fs)).sum := by
  have nn : ∀ f ∈ xs.map (gI fs), 0 ≤ f := fun f hf => by
    obtain ⟨x, hx', rfl⟩ := List.mem_map.mp hf
    have := mem_ups (hx.subset hx')
    exact hs.at this.1 this.2
  refine ⟨⟨by rw [List.length_map, List.length_map], nn, rfl⟩, ?_, ?_⟩
  · have h := hx.map (gI fs)
    rw [← hs.len, ups_map] at h
    rw [← hs.sum]
    exact sum_sub h hs.nn
  · cases e : xs.map (gI fs) with
    | nil => simp
    | cons y ys =>
      rw [e] at nn
      exact (sum_ge_mem nn y List.mem_cons_self).2
theorem sub_good (hg : Good k vs fs) (hx : xs.Sublist (ups vs.length)) : Good k (xs.map (gI vs)) (xs.map (gI fs)) := by
  intro i j hi hi1 hj hj1 hij h0
  rw [List.length_map] at hi1 hj1
  rw [gI_map hj hj1] at h0 ⊢
  rw [gI_map hi hi1, gI_map hj hj1, gI_map hi hi1]
  have mi := mem_ups (hx.subset (gI_mem hi hi1))
  have mj := mem_ups (hx.subset (gI_mem hj hj1))
  refine hg _ _ mi.1 mi.2 mj.1 mj.2 ?_ h0
  have pw := (ups_pw vs.length).sublist hx
  have key : ∀ a b : Int, 0 ≤ a → a < b → b < xs.length → gI xs a < gI xs b := fun a b h1 h2 h3 => by
    have := List.pairwise_iff_getElem.mp pw a.toNat b.toNat (by omega) (by omega) (by omega)
    have ea := gI_getElem (vs := xs) (i := a.toNat) (by omega)
    have eb := gI_getElem (vs := xs) (i := b.toNat) (by omega)
    rw [show ((a.toNat : Nat) : Int) = a by omega] at ea
    rw [show ((b.toNat : Nat) : Int) = b by omega] at eb
    rw [ea, eb]; exact this
  rcases Int.lt_or_gt_of_ne hij with h | h
  · exact Int.ne_of_lt (key i j hi h hj1)
  · exact Int.ne_of_gt (key j i hj h hi1)
end
theorem any_false {α : Type} {xs : List α} : d1 dAny [.lst (xs.map fun _ => D.bl false)] = some (.val (.bl false)) := by
  have e : (xs.map fun _ => D.bl false) = (xs.map fun _ => false).map D.bl := by rw [List.map_map]; rfl
  show (boolsD (xs.map fun _ => D.bl false)).map (fun ns => Rz.val (.bl (ns.any id))) = _
  rw [e, bools_map]
  show some (Rz.val (.bl ((xs.map fun _ => false).any id))) = _
  rw [List.any_map]
  have : xs.any (id ∘ fun _ => false) = false := by rw [List.any_eq_false]; intro x _ h; cases h
  rw [this]
/-- what is looked up for each of some places -/
def pickD (vs : List Int) : D → D
  | .int x => .int (gI vs x)
  | d => d
theorem pick_map {vs xs : List Int} : ((xs.map D.int).filter fun _ => true).map (pickD vs) = (xs.map (gI vs)).map .int := by
  rw [filter_true, List.map_map, List.map_map]; rfl
section
variable {k : Str} {vs fs : List Int} {s : Int}
theorem kind_last {P : Po} {s0 s3 s4 s5 s6 s7 s9 s10 s11 : Option SE} {o12 o13 o14 o15 o16 : Option D} {gs : List Int} (hv : VotesOk vs) (hk : isKind k) (hs : SeatsOk vs gs s) (hg : Good k vs gs)
    (h : ∀ o12 o13 o14 o15 o16, P.nx [s0, some (.val (.tup (vs.map .int))), some (.val (.str k)), s3, s4, s5, s6, s7, some (.val (.tup (gs.map .int))), s9, s10, s11, ov o12, ov o13, ov o14, ov o15, ov o16]) :
    ((sFor (iEnum1 (mVar 1)) (tgTup [(tgName 12), (tgName 13)]) (sSeq (sSet 14 (mComp (iEnum1 (mVar 1)) (tgTup [(tgName 15), (tgName 16)]) (some (mAnd (mBin dGt (mVar 13) (mVar 16)) (mBin dLt (mBin dIx (mVar 8) (mVar 12)) (mBin dIx (mVar 8) (mVar 15))))) (mVar 15) [15, 16])) (sIf (mCB (d1 dAny) [(mComp (iVal (mVar 14)) (tgName 15) none (mOr (mBin dNe (mVar 2) (mC (.str "up"))) (mOr (mBin dGt (mBin dIx (mVar 8) (mVar 12)) (mC (.int 0))) (mBin dGt (mBin dIx (mVar 8) (mVar 15)) (mC (.int 1))))) [15])]) (sRet (mC (.bl false))) sNext)))
      [s0, some (.val (.tup (vs.map .int))), some (.val (.str k)), s3, s4, s5, s6, s7, some (.val (.tup (gs.map .int))), s9, s10, s11, ov o12, ov o13, ov o14, ov o15, ov o16]).sat P := by
  have lg := hs.len
  have l2 := hv.2.1
  refine w_for ?_
  wtm_at "dl_w"
  refine ⟨fun j δ => ∃ o12 o13 o14 o15 o16, δ = [s0, some (.val (.tup (vs.map .int))), some (.val (.str k)), s3, s4, s5, s6, s7, some (.val (.tup (gs.map .int))), s9, s10, s11, ov o12, ov o13, ov o14, ov o15, ov o16], ⟨o12, o13, o14, o15, o16, rfl⟩, ?_, ?_⟩
  · rintro j d δ hd ⟨o12, o13, o14, o15, o16, rfl⟩
    obtain ⟨hj, rfl⟩ := enumI_get? hd
    refine ⟨_, tg2_ov (by decide) rfl rfl, ?_⟩
    wtm_at "dl_sl"
    wtm_at "dl_w"
    refine w_comp ?_
    wtm_at "dl_w"
    refine ⟨noOwn_ov rfl (noOwn_ov rfl noOwn_nil), fun i acc δ => ∃ xs : List Int, acc = xs.map .int ∧ (∀ x ∈ xs, (0 ≤ x ∧ x < vs.length) ∧ gI vs x < gI vs (j : Int) ∧ gI gs (j : Int) < gI gs x) ∧ δ = [s0, some (.val (.tup (vs.map .int))), some (.val (.str k)), s3, s4, s5, s6, s7, some (.val (.tup (gs.map .int))), s9, s10, s11, some (.val (.int (j : Int))), some (.val (.int (gI vs (j : Int)))), ov o14, none, none], ⟨[], rfl, fun x hx => absurd hx (by simp), rfl⟩, ?_, ?_⟩
    · rintro i d acc δ hd ⟨xs, rfl, hx, rfl⟩
      obtain ⟨hi, rfl⟩ := enumI_get? hd
      refine ⟨_, rfl, w_cond1 ?_⟩
      wtm_at "dl_sl"
      wtm_at "dl_w"
      refine k_dec (fun e1 => ?_) (fun e1 => ?_)
      · wtm_at "dl_w"
        refine ⟨fun e => ?_, fun e => ?_⟩
        · wtm_at "dl_w"
          refine ⟨_, _, rfl, xs ++ [(i : Int)], by rw [List.map_append]; rfl, fun x hx' => ?_, rfl⟩
          rcases List.mem_append.mp hx' with h | h
          · exact hx x h
          · have : x = (i : Int) := by simpa using h
            subst this
            have e2 : gI gs (j : Int) < gI gs (i : Int) := by
              have := List.cons.inj e
              simpa using this.1
            exact ⟨by omega, e1, e2⟩
        · exact ⟨xs, rfl, hx, rfl⟩
      · wtm_at "dl_w"
        refine ⟨fun e => absurd e (by simp), fun e => ⟨xs, rfl, hx, rfl⟩⟩
    · rintro acc δ ⟨xs, rfl, hx, rfl⟩
      wtm_at "dl_bk"
      wtm_at "dl_w"
      refine w_compP (fun _ => .bl false) (fun _ => true) ?_
      wtm_at "dl_w"
      refine ⟨noOwn_ov rfl noOwn_nil, fun j' d hd' => ⟨_, rfl, ?_⟩, ?_⟩
      · refine w_cond0 ⟨fun _ => ⟨rfl, ?_⟩, fun e => by cases e⟩
        obtain ⟨x, hxm, rfl⟩ := map_get? hd'
        obtain ⟨hb, h1, h2⟩ := hx x (List.mem_of_getElem? hxm)
        obtain ⟨e1, e2, e3⟩ := hg.more hv hs hk (i := (j : Int)) (j := x) (by omega) (by omega) h1 h2
        subst e1
        wtm_at "dl_w"
        rw [decide_eq_false (by omega)]
        exact ⟨_, rfl, rfl⟩
      · rw [filter_true]
        wtm_at "dl_bk"
        wtm_at "dl_w"
        refine k_cb (by rfl) any_false ?_
        wtm_at "dl_w"
        exact ⟨some _, some _, some _, o15, o16, rfl⟩
  · rintro δ ⟨o12, o13, o14, o15, o16, rfl⟩
    exact h _ _ _ _ _
def KInv (k : Str) (vs : List Int) (many t n : Int) (j : Nat) (δ : FEnv) : Prop := ∃ pot fs o6 o7 o8 o9 o10 o11 o12 o13 o14 o15 o16, δ = [some (.own true pot), some (.val (.tup (vs.map .int))), some (.val (.str k)), some (.val (.int many)), some (.own false (List.map D.int fs)), some (.own false [.int t, .int many]), ov o6, ov o7, ov o8, ov o9, ov o10, ov o11, ov o12, ov o13, ov o14, ov o15, ov o16] ∧
  PotOk (n + 1 + 41 * (j : Int)) pot ∧ SeatsOk vs fs (j : Int) ∧ Good k vs fs
theorem kind_right_ok {n many : Int} {pot : List D} (hv : VotesOk vs) (hk : isKind k) (hp : PotOk n pot) (hn : n < 2 ^ 59) (hm : 0 ≤ many) (hm2 : many ≤ 120) :
    ∃ pot', F__law_is_kind_right [.lst pot, .tup (vs.map .int), .str k, .int many] = .ok (.val (.bl true)) pot' ∧ PotOk (n + 5000) pot' := by
  have l1 := hv.1
  have l2 := hv.2.1
  refine run_of (Q := fun x => ∃ pot', x = FRes.ok (.val (.bl true)) pot' ∧ PotOk (n + 5000) pot') ?_
  show (m__law_is_kind_right [some (.own true pot), some (.val (.tup (vs.map .int))), some (.val (.str k)), some (.val (.int many)), none, none, none, none, none, none, none, none, none, none, none, none, none]).sat _
  unfold m__law_is_kind_right
  obtain ⟨t, pot1, t0, t1, ht, hp1⟩ := take_ok.go hp (by omega) (u := many + 1) (by omega) (by omega)
  wtm_at "dl_w"
  refine k_bin (by rfl) (by rfl) (dMul_rep (by omega) (by omega)) ?_
  wtm_at "dl_w"
  refine k_callp (by rfl) (by rfl) (by rfl) ht hp1.okLs (by rfl) ?_
  wtm_at "dl_w"
  refine w_for ?_
  wtm_at "dl_w"
  refine ⟨KInv k vs many t n, ?_, ?_, ?_⟩
  · exact ⟨pot1, List.replicate vs.length 0, none, none, none, none, none, none, none, none, none, none, none, rfl, hp1.mono (by omega), seats0, good0⟩
  · rintro j d δ hd ⟨pot, fs, o6, o7, o8, o9, o10, o11, o12, o13, o14, o15, o16, rfl, hp, hs, hg⟩
    obtain ⟨hj, rfl⟩ := rangeD_get? hd
    refine ⟨_, tg_ov rfl, ?_⟩
    rw [Int.zero_add]
    have lf := hs.len
    have close : ∀ (pot : List D) o7 o8 o9 o10 o11 o12 o13 o14 o15 o16, PotOk (n + 1 + 41 * (j : Int) + 40) pot → ((sSeq (sSet 12 (mCall true F__law_next [(mVar 0), (mVar 1), (mVar 2), (mVar 4)])) (sSetIx 4 (mVar 12) (mCB (d1 dInt) [(mBin dAdd (mBin dIx (mVar 4) (mVar 12)) (mC (.int 1)))]))) [some (.own true pot), some (.val (.tup (vs.map .int))), some (.val (.str k)), some (.val (.int many)), some (.own false (List.map D.int fs)), some (.own false [.int t, .int many]), some (.val (.int (j : Int))), ov o7, ov o8, ov o9, ov o10, ov o11, ov o12, ov o13, ov o14, ov o15, ov o16]).sat (((Po.run true fun x => ∃ pot', x = FRes.ok (.val (.bl true)) pot' ∧ PotOk (n + 5000) pot').seq (sRet (mC (.bl true)))).turn (KInv k vs many t n (j + 1))) := by
      intro pot o7 o8 o9 o10 o11 o12 o13 o14 o15 o16 hp
      obtain ⟨b, pot', e, hp', hb, hbest⟩ := law_next_ok hv hs (by omega) hk hp (by omega)
      have g1 := hs.at hb.1 hb.2
      wtm_at "dl_w"
      refine k_callp (by rfl) (by rfl) (by rfl) e hp'.okLs (by rfl) ?_
      wtm_at "dl_w"
      refine k_setIx (by rfl) (by rfl) (ixN_ok hb.1 (by rw [List.length_map]; omega)) ?_
      wtm_at "dl_sl"
      refine ⟨pot', fs.set b.toNat (gI fs b + 1), some (.int (j : Int)), o7, o8, o9, o10, o11, some (.int b), o13, o14, o15, o16, ?_, hp'.mono (by omega), ?_, hg.step hv hs hb hbest⟩
      · rw [map_set_int]; rfl
      · have := hs.step hb
        rw [show ((j + 1 : Nat) : Int) = (j : Int) + 1 by omega]
        exact this
    refine w_seq (w_sif ?_)
    wtm_at "dl_w"
    refine k_br (fun hin => ?_) (fun hin => ?_)
    · refine w_seq ?_
      obtain ⟨gs, hb, hs2, hg2⟩ := by_steps_ok (s := (j : Int)) hv (by omega) (by omega) hk
      wtm_at "dl_w"
      refine k_call (by rfl) hb (by rfl) ?_
      wtm_at "dl_w"
      refine w_for ?_
      wtm_at "dl_w"
      refine ⟨fun i δ => ∃ pot o8 o9 o10 o11 o12 o13 o14 o15 o16, δ = [some (.own true pot), some (.val (.tup (vs.map .int))), some (.val (.str k)), some (.val (.int many)), some (.own false (List.map D.int fs)), some (.own false [.int t, .int many]), some (.val (.int (j : Int))), some (.val (.tup (gs.map .int))), ov o8, ov o9, ov o10, ov o11, ov o12, ov o13, ov o14, ov o15, ov o16] ∧ PotOk (n + 1 + 41 * (j : Int) + 20 * (i : Int)) pot, ?_, ?_, ?_⟩
      · exact ⟨pot, o8, o9, o10, o11, o12, o13, o14, o15, o16, rfl, hp.mono (by omega)⟩
      · rintro i d δ hdi ⟨pot, o8, o9, o10, o11, o12, o13, o14, o15, o16, rfl, hp⟩
        have key : ∃ hs : List Int, d = .tup (hs.map .int) ∧ SeatsOk vs hs (j : Int) ∧ Good k vs hs := by
          match i, hdi with
          | 0, e => cases e; exact ⟨gs, rfl, hs2, hg2⟩
          | 1, e => cases e; exact ⟨fs, rfl, hs, hg⟩
        have hi2 : i < 2 := (List.getElem?_eq_some_iff.mp hdi).1
        obtain ⟨gs', rfl, hs3, hg3⟩ := key
        have lg := hs3.len
        refine ⟨_, tg_ov rfl, ?_⟩
        wtm_at "dl_sl"
        wtm_at "dl_w"
        refine k_call (by rfl) (shows_ok hv (by omega) (by omega) hk hs3 hg3) (by rfl) ?_
        wtm_at "dl_w"
        refine w_comp ?_
        wtm_at "dl_w"
        refine ⟨noOwn_ov rfl noOwn_nil, fun i' acc δ => ∃ pot idx, acc = List.map D.int idx ∧ idx.Sublist (ups i') ∧ PotOk (n + 1 + 41 * (j : Int) + 20 * (i : Int) + (i' : Int)) pot ∧ δ = [some (.own true pot), some (.val (.tup (vs.map .int))), some (.val (.str k)), some (.val (.int many)), some (.own false (List.map D.int fs)), some (.own false [.int t, .int many]), some (.val (.int (j : Int))), some (.val (.tup (gs.map .int))), some (.val (.tup (gs'.map .int))), ov o9, ov o10, ov o11, none, ov o13, ov o14, ov o15, ov o16], ?_, ?_, ?_⟩
        · exact ⟨pot, [], rfl, List.Sublist.refl _, hp.mono (by omega), rfl⟩
        · rintro i' d acc δ hd' ⟨pot, idx, rfl, hsub, hp, rfl⟩
          obtain ⟨hi', rfl⟩ := rangeD_get? hd'
          refine ⟨_, rfl, w_cond1 ?_⟩
          obtain ⟨r, pot', r0, r1, hr, hp'⟩ := take_ok.go hp (by omega) (u := 2) (by decide) (by decide)
          wtm_at "dl_w"
          refine k_callp (by rfl) (by rfl) (by rfl) hr hp'.okLs (by rfl) ?_
          wtm_at "dl_w"
          refine ⟨fun _ => ?_, fun _ => ?_⟩
          · wtm_at "dl_w"
            refine ⟨_, _, rfl, pot', idx ++ [(i' : Int)], ?_, ?_, hp'.mono (by omega), rfl⟩
            · rw [List.map_append, Int.zero_add]; rfl
            · rw [ups_succ]; exact hsub.append (List.Sublist.refl _)
          · refine ⟨pot', idx, rfl, ?_, hp'.mono (by omega), rfl⟩
            rw [ups_succ]; exact hsub.trans (List.sublist_append_left _ _)
        · rintro acc δ ⟨pot, idx, rfl, hsub, hp, rfl⟩
          rw [rangeD_len] at hsub hp
          rw [show ((vs.length : Int) - 0).toNat = vs.length by omega] at hsub
          wtm_at "dl_bk"
          wtm_at "dl_w"
          refine w_compP (pickD vs) (fun _ => true) ?_
          wtm_at "dl_w"
          have mx : ∀ x ∈ idx, 0 ≤ x ∧ x < vs.length := fun x hx => mem_ups (hsub.subset hx)
          refine ⟨noOwn_ov rfl noOwn_nil, fun j' d hd' => ⟨_, rfl, ?_⟩, ?_⟩
          · refine w_cond0 ⟨fun _ => ⟨rfl, ?_⟩, fun e => by cases e⟩
            obtain ⟨x, hx, rfl⟩ := map_get? hd'
            have := mx x (List.mem_of_getElem? hx)
            wtm_at "dl_w"
            exact ⟨_, rfl, rfl⟩
          rw [pick_map]
          wtm_at "dl_bk"
          wtm_at "dl_w"
          refine w_compP (pickD gs') (fun _ => true) ?_
          wtm_at "dl_w"
          refine ⟨noOwn_ov rfl noOwn_nil, fun j' d hd' => ⟨_, rfl, ?_⟩, ?_⟩
          · refine w_cond0 ⟨fun _ => ⟨rfl, ?_⟩, fun e => by cases e⟩
            obtain ⟨x, hx, rfl⟩ := map_get? hd'
            have := mx x (List.mem_of_getElem? hx)
            wtm_at "dl_w"
            exact ⟨_, rfl, rfl⟩
          rw [pick_map]
          wtm_at "dl_bk"
          wtm_at "dl_w"
          have last := fun (P : Po) (h : ∀ o12 o13 o14 o15 o16, P.nx [some (.own true pot), some (.val (.tup (vs.map .int))), some (.val (.str k)), some (.val (.int many)), some (.own false (List.map D.int fs)), some (.own false [.int t, .int many]), some (.val (.int (j : Int))), some (.val (.tup (gs.map .int))), some (.val (.tup (gs'.map .int))), some (.val (.lst (idx.map .int))), some (.val (.tup (List.map D.int (idx.map (gI vs))))), some (.val (.tup (List.map D.int (idx.map (gI gs'))))), ov o12, ov o13, ov o14, ov o15, ov o16]) => kind_last (P := P) (o12 := o12) (o13 := o13) (o14 := o14) (o15 := o15) (o16 := o16) hv hk hs3 hg3 h
          have fin : ∀ o12 o13 o14 o15 o16, ∃ pot_1 o8 o9 o10 o11 o12_1 o13_1 o14_1 o15_1 o16_1, [some (.own true pot), some (.val (.tup (vs.map .int))), some (.val (.str k)), some (.val (.int many)), some (.own false (List.map D.int fs)), some (.own false [.int t, .int many]), some (.val (.int (j : Int))), some (.val (.tup (gs.map .int))), some (.val (.tup (gs'.map .int))), some (.val (.lst (idx.map .int))), some (.val (.tup (List.map D.int (idx.map (gI vs))))), some (.val (.tup (List.map D.int (idx.map (gI gs'))))), ov o12, ov o13, ov o14, ov o15, ov o16] = [some (.own true pot_1), some (.val (.tup (vs.map .int))), some (.val (.str k)), some (.val (.int many)), some (.own false (List.map D.int fs)), some (.own false [.int t, .int many]), some (.val (.int (j : Int))), some (.val (.tup (gs.map .int))), ov o8, ov o9, ov o10, ov o11, ov o12_1, ov o13_1, ov o14_1, ov o15_1, ov o16_1] ∧ PotOk (n + 1 + 41 * (j : Int) + 20 * ((i + 1 : Nat) : Int)) pot_1 := fun o12 o13 o14 o15 o16 =>
            ⟨pot, some _, some _, some _, some _, o12, o13, o14, o15, o16, rfl, hp.mono (by omega)⟩
          refine k_nec (fun hne => ?_) (fun he => ?_)
          · obtain ⟨ss, s1, s2⟩ := sub_seats hs3 hsub
            wtm_at "dl_w"
            refine k_call (by rfl) (shows_ok (sub_votes hv hsub hne) s2 (by omega) hk ss (sub_good hg3 hsub)) (by rfl) ?_
            wtm_at "dl_w"
            exact last _ fin
          · wtm_at "dl_w"
            exact last _ fin
      · rintro δ ⟨pot, o8, o9, o10, o11, o12, o13, o14, o15, o16, rfl, hp⟩
        exact close pot (some (.tup (gs.map .int))) o8 o9 o10 o11 o12 o13 o14 o15 o16 (hp.mono (by show _ + 20 * (2 : Int) ≤ _; omega))
    · refine w_next ?_
      exact close pot o7 o8 o9 o10 o11 o12 o13 o14 o15 o16 (hp.mono (by omega))
  · rintro δ ⟨pot, fs, o6, o7, o8, o9, o10, o11, o12, o13, o14, o15, o16, rfl, hp, hs, hg⟩
    rw [rangeD_len] at hp
    wtm_at "dl_w"
    exact ⟨pot, rfl, hp.mono (by omega)⟩
end
end K52
namespace K52
open PySem PySem.Spec PyProof.Rows L2 DL
local macro_rules | `(tactic| wtm_at "dl_gv") => `(tactic| first | (with_reducible first | exact gv_0 | exact gv_1 | exact gv_2 | exact gv_3 | exact gv_4 | exact gv_5 | exact gv_6 | exact gv_7 | exact gv_8) | rfl)
local macro_rules | `(tactic| wtm_at "dl_vw") => `(tactic| first | (with_reducible first | exact vw_0 | exact vw_1 | exact vw_2 | exact vw_3 | exact vw_4 | exact vw_5 | exact vw_6 | exact vw_7 | exact vw_8) | rfl)
local macro_rules | `(tactic| wtm_at "dl_sl") => `(tactic| try simp only [List.set_cons_zero, List.set_cons_succ])
local macro_rules | `(tactic| wtm_at "dl_bk") => `(tactic| simp only [backE, wipeE, List.getElem?_cons_zero, List.getElem?_cons_succ, Option.getD_some, List.set_cons_zero, List.set_cons_succ])
local macro_rules | `(tactic| wtm_at "dl_ge") => `(tactic| first | exact Int.le_of_lt (by assumption) | assumption)
local macro_rules | `(tactic| wtm_at "dl_f2") => `(tactic| first
  | (with_reducible first | exact dAdd_i | exact dSub_i | exact dLt_i | exact dLe_i | exact dGt_i | exact dGe_i | exact dEq_i | exact dNe_i | exact dEq_s | exact dNe_s | exact dEq_lI | exact dNe_lI | exact dEq_tI | exact dNe_tI | exact dEq_l0 | exact dNe_l0 | exact dEq_bb | exact dIx_tupI (by omega) (by omega) | exact dIx_lstI (by omega) (by omega) | exact dMul_100 (by omega) (by omega) | exact dMod_ok (by omega) | exact dFdv_ok (divOk_of (by omega) (by omega)) | fail))
local macro_rules | `(tactic| wtm_at "dl_f1") => `(tactic| with_reducible first | exact dIsi_tt | exact dIsi_tl | exact dIsi_ti | exact dIsi_tn | exact dIsi_ts | exact dIsi_ii | exact dIsi_is | exact dIsi_in | exact dIsi_it | exact dIsi_il | exact dIsi_bi | exact dIsi_ss | exact dIsi_si | exact dIsi_sn | exact dIsi_st | fail)
local macro_rules | `(tactic| wtm_at "dl_fc") => `(tactic| first | exact dLen_tI | exact dLen_lI | exact sumA_tup _ | exact sumA_lst _ | rfl)
local macro_rules | `(tactic| wtm_at "dl_e") => `(tactic| first
  | with_reducible refine w_c ?_
  | ((with_reducible refine' w_val ?e ?_); (case e => rfl))
  | ((with_reducible refine' w_own ?e ?_); (case e => rfl))
  | with_reducible refine w_bin ?_ | with_reducible refine w_un ?_ | with_reducible refine w_if ?_ | with_reducible refine w_and ?_ | with_reducible refine w_or ?_ | with_reducible refine w_not ?_ | with_reducible refine w_chain ?_
  | with_reducible refine w_acons ?_ | with_reducible refine w_anil ?_ | with_reducible refine w_tup ?_ | with_reducible refine w_lst ?_ | with_reducible refine w_cb ?_ | with_reducible refine w_sl ?_ | with_reducible refine w_part0 ?_ | with_reducible refine w_part1 ?_ | with_reducible refine w_slEnd ?_
  | with_reducible refine w_call ?_ | with_reducible refine w_callp ?_ | with_reducible refine w_app ?_ | with_reducible refine w_listRg ?_ | with_reducible refine w_dget ?_
  | with_reducible refine w_iVal ?_ | with_reducible refine w_iRange1 ?_ | with_reducible refine w_iRange2 ?_ | with_reducible refine w_iEnum1 ?_ | with_reducible refine w_iZip2 ?_ | with_reducible refine w_rg ?_
  | with_reducible refine w_seq ?_ | with_reducible refine w_set ?_ | with_reducible refine w_par ?_ | with_reducible refine w_asgT ?_ | with_reducible refine w_setIx ?_ | with_reducible refine w_expr ?_ | with_reducible refine w_ret ?_ | with_reducible refine w_next ?_ | with_reducible refine w_sif ?_
  | ((with_reducible refine' k_bin ?e1 ?e2 ?e3 ?_); (case e1 => rfl); (case e2 => rfl); (case e3 => wtm_at "dl_f2"))
  | ((with_reducible refine' k_bin (f := dIx) ?e1 ?e2 ?e3 ?_); (case e1 => rfl); (case e2 => rfl); (case e3 => rfl))
  | ((with_reducible refine' k_bin (f := dIn _) ?e1 ?e2 ?e3 ?_); (case e1 => rfl); (case e2 => rfl); (case e3 => rfl))
  | ((with_reducible refine' k_bin (f := dIs _) ?e1 ?e2 ?e3 ?_); (case e1 => rfl); (case e2 => rfl); (case e3 => rfl))
  | ((with_reducible refine' k_bin (f := dEq) ?e1 ?e2 ?e3 ?_); (case e1 => rfl); (case e2 => rfl); (case e3 => rfl))
  | ((with_reducible refine' k_bin (f := dNe) ?e1 ?e2 ?e3 ?_); (case e1 => rfl); (case e2 => rfl); (case e3 => rfl))
  | ((with_reducible refine' k_bin (f := dAdd) ?e1 ?e2 ?e3 ?_); (case e1 => rfl); (case e2 => rfl); (case e3 => rfl))
  | ((with_reducible refine' k_un ?e1 ?e2 ?_); (case e1 => rfl); (case e2 => wtm_at "dl_f1"))
  | with_reducible refine k_bool ?_ | with_reducible refine k_int ?_
  | ((with_reducible refine' k_ch ?e1 ?e2 ?e3 ?_); (case e1 => rfl); (case e2 => rfl); (case e3 => wtm_at "dl_f2"))
  | ((with_reducible refine' k_arg ?e1 ?_); (case e1 => rfl))
  | ((with_reducible refine' k_give ?e1 ?e2 ?_); (case e1 => wtm_at "dl_gv"); (case e2 => rfl))
  | ((with_reducible refine' k_give1 ?e1 ?_); (case e1 => rfl))
  | ((with_reducible refine' k_gives ?e1 ?_); (case e1 => wtm_at "dl_gv"))
  | ((with_reducible refine' k_cb ?e1 ?e2 ?_); (case e1 => wtm_at "dl_vw"); (case e2 => wtm_at "dl_fc"))
  | ((with_reducible refine' k_sl ?e1 ?e2 ?_); (case e1 => rfl); (case e2 => rfl))
  | ((with_reducible refine' k_own ?e1 ?_); (case e1 => rfl))
  | ((with_reducible refine' k_seq ?e1 ?_); (case e1 => rfl))
  | with_reducible refine k_rg1 ?_ | with_reducible refine k_rg2 ?_
  | with_reducible refine k_rg (by omega) (by omega) (by omega) (by omega) (by omega) ?_
  | ((with_reducible refine' k_en ?e1 ?e2 ?_); (case e1 => wtm_at "dl_gv"); (case e2 => rfl))
  | ((with_reducible refine' k_zp ?e1 ?e2 ?e3 ?_); (case e1 => wtm_at "dl_gv"); (case e2 => rfl); (case e3 => rfl))
  | ((with_reducible refine' k_set ?e1 ?_); (case e1 => first | rfl | exact setV_ov rfl | exact setF_ov rfl); (wtm_at "dl_sl"))
  | ((with_reducible refine' k_par ?e1 ?_); (case e1 => first | rfl | exact setPar_ov (by decide) rfl rfl); (wtm_at "dl_sl"))
  | ((with_reducible refine' k_asg ?e1 ?e2 ?_); (case e1 => rfl); (case e2 => first | rfl | exact tg2_ov (by decide) rfl rfl); (wtm_at "dl_sl"))
  | with_reducible refine k_t ?_ | with_reducible refine k_f ?_ | with_reducible refine k_nt ?_ | with_reducible refine k_nf ?_
  | with_reducible refine k_decT (by omega) ?_ | with_reducible refine k_decF (by omega) ?_ | with_reducible refine k_decN (by omega) ?_ | with_reducible refine k_decM (by omega) ?_ | with_reducible refine k_bt (by decide) ?_ | with_reducible refine k_bf (by decide) ?_)
local macro_rules | `(tactic| wtm_at "dl_w") => `(tactic| repeat (wtm_at "dl_e"))
section
variable {k : Str} {vs fs xs : List Int} {s : Int}
theorem sum_pos (hv : VotesOk vs) : 0 < vs.sum ∧ vs.sum ≤ 20000000000 := by
  have key : ∀ l : List Int, (∀ v ∈ l, 1 ≤ v ∧ v ≤ 1000000000) → (l.length : Int) ≤ l.sum ∧ l.sum ≤ 1000000000 * l.length := by
    intro l
    induction l with
    | nil => intro _; simp
    | cons a l ih =>
      intro h
      have h1 := h a List.mem_cons_self
      have h2 := ih fun v hm => h v (List.mem_cons_of_mem _ hm)
      rw [List.sum_cons, List.length_cons]
      push_cast
      omega
  have := key vs hv.2.2
  have a := hv.1
  have b := hv.2.1
  omega
def dueRow (s w v : Int) : D := .tup [.int (v * s / w), .int (v * s % w)]
def dueRowD (s w : Int) : D → D
  | .int v => dueRow s w v
  | d => d
theorem dues_of_ok (hv : VotesOk vs) (h0 : 0 ≤ s) (h1 : s ≤ 501) : F_dues_of [.tup (vs.map .int), .int s] = .ok (.fr (vs.map (dueRow s vs.sum))) [] := by
  obtain ⟨w0, w1⟩ := sum_pos hv
  refine run_of (Q := fun x => x = _) ?_
  show (m_dues_of [some (.val (.tup (vs.map .int))), some (.val (.int s)), none, none]).sat _
  unfold m_dues_of
  wtm_at "dl_w"
  refine w_compP (dueRowD s vs.sum) (fun _ => true) ?_
  wtm_at "dl_w"
  refine ⟨rfl, fun j d hd => ⟨_, rfl, ?_⟩, ?_⟩
  · refine w_cond0 ⟨fun _ => ⟨rfl, ?_⟩, fun e => by cases e⟩
    obtain ⟨v, hm, rfl⟩ := map_get? hd
    have hvv := hv.2.2 v (List.mem_of_getElem? hm)
    wtm_at "dl_w"
    exact ⟨_, rfl, rfl⟩
  · rw [filter_true, List.map_map]
    rfl
/-! the order by what is left -/
theorem rgD_ups {n : Nat} : rgD 0 (n : Int) = (ups n).map D.int := by
  unfold rgD ups
  rw [List.map_map, show ((n : Int) - 0).toNat = n by omega]
  refine List.map_congr_left fun i _ => ?_
  show D.int (0 + (i : Int)) = D.int (i : Int)
  rw [Int.zero_add]
theorem keysD_map {g : FSem} {cs : List D} {key : Int → Int × Int} : ∀ {xs : List Int}, (∀ x ∈ xs, g (.int x :: cs) = .ok (.val (.tup [.int (key x).1, .int (key x).2])) []) → keysD g cs (xs.map .int) = some (xs.map key)
  | [], _ => rfl
  | x :: xs, h => by
    show (pairD? (g (.int x :: cs))).bind (fun k => (keysD g cs (xs.map .int)).map fun ks => k :: ks) = _
    rw [h x List.mem_cons_self, keysD_map fun y hy => h y (List.mem_cons_of_mem _ hy)]
    rfl
theorem swo_kd : SrtO.Swo ltKD := ⟨fun x y h => swo_lexP.asym x.1 y.1 h, fun x y z h1 h2 => swo_lexP.tr x.1 y.1 z.1 h1 h2⟩
/-- what sorting by a number, and by the place, comes to -/
theorem order_ok {n : Nat} (r : Int → Int) : ∃ ord : List Int, sortKD ((ups n).map fun i => (r i, i)) ((ups n).map D.int) = ord.map .int ∧ ord.Perm (ups n) ∧ ord.Pairwise fun a b => r a ≤ r b := by
  have hz : (((ups n).map fun i => (r i, i)).zip ((ups n).map D.int)) = (ups n).map fun i => ((r i, i), D.int i) := List.zip_map'
  unfold sortKD
  rw [hz]
  have st := sortS_stb swo_kd ((ups n).map fun i => ((r i, i), D.int i))
  have so := sortS_srt swo_kd ((ups n).map fun i => ((r i, i), D.int i))
  generalize sortS ltKD ((ups n).map fun i => ((r i, i), D.int i)) = S at st so
  have form : ∀ p ∈ S, p = ((r p.1.2, p.1.2), D.int p.1.2) := fun p hp => by
    have := st.perm.mem_iff.mp hp
    obtain ⟨i, _, rfl⟩ := List.mem_map.mp this
    rfl
  refine ⟨S.map fun p => p.1.2, ?_, ?_, ?_⟩
  · rw [List.map_map]
    refine List.map_congr_left fun p hp => ?_
    rw [form p hp]
    rfl
  · have := st.perm.map fun p => p.1.2
    rw [List.map_map] at this
    have e : ((fun p : (Int × Int) × D => p.1.2) ∘ fun i => ((r i, i), D.int i)) = id := rfl
    rw [e, List.map_id] at this
    exact this
  · rw [List.pairwise_map]
    refine List.Pairwise.imp_of_mem (fun {a b} ha hb h => ?_) so
    have h' : SrtO.lexB b.1 a.1 = false := h
    rw [form a ha, form b hb] at h'
    have := SrtO.lexB_no.mp h'
    have t : ¬ (r b.1.2 < r a.1.2 ∨ (r b.1.2 = r a.1.2 ∧ b.1.2 < a.1.2)) := this
    omega
/-- who is among the first some -/
theorem first_mono {ord : List Int} {r : Int → Int} (h : ord.Pairwise fun a b => r a ≤ r b) {m : Nat} {a b : Int} (ha : a ∈ ord) (hb : b ∈ ord.take m) (hr : r a < r b) : a ∈ ord.take m := by
  rw [← List.take_append_drop m ord] at h ha
  rcases List.mem_append.mp ha with q | q
  · exact q
  · have := (List.pairwise_append.mp h).2.2 b hb a q
    omega
theorem cut_take {xs : List D} {m : Int} (h : 0 ≤ m) : DL.cutD xs none (some m) = xs.take m.toNat := by
  unfold DL.cutD
  show (xs.drop 0).take ((if m < 0 then (m + (xs.length : Int)).toNat else min m.toNat xs.length) - 0) = _
  rw [if_neg (by omega), List.drop_zero, Nat.sub_zero]
  rcases Nat.le_total m.toNat xs.length with q | q
  · rw [Nat.min_eq_left q]
  · rw [Nat.min_eq_right q, List.take_of_length_le q, List.take_of_length_le (Nat.le_refl _)]

theorem sum_map_le {f g : Int → Int} : ∀ {l : List Int}, (∀ x ∈ l, f x ≤ g x) → (l.map f).sum ≤ (l.map g).sum
  | [], _ => Int.le_refl _
  | x :: l, h => by
    have h1 := h x List.mem_cons_self
    have h2 := sum_map_le fun y hy => h y (List.mem_cons_of_mem _ hy)
    rw [List.map_cons, List.map_cons, List.sum_cons, List.sum_cons]; omega
theorem sum_map_mul {c : Int} : ∀ {l : List Int}, (l.map fun x => x * c).sum = l.sum * c
  | [] => by simp
  | x :: l => by rw [List.map_cons, List.sum_cons, List.sum_cons, sum_map_mul, Int.add_mul]
/-- the seats by the dues rounded down are no more than there are -/
theorem lows_le {w : Int} (hw : 0 < w) (e : vs.sum = w) (h0 : 0 ≤ s) : (vs.map fun v => v * s / w).sum ≤ s := by
  have h1 : (vs.map fun v => (v * s / w) * w).sum ≤ (vs.map fun v => v * s).sum := sum_map_le fun x _ => Int.ediv_mul_le _ (by omega)
  have h2 : (vs.map fun v => (v * s / w) * w).sum = (vs.map fun v => v * s / w).sum * w := by
    have := sum_map_mul (c := w) (l := vs.map fun v => v * s / w)
    rw [List.map_map] at this
    exact this
  rw [h2, sum_map_mul, e, Int.mul_comm w s] at h1
  exact Int.le_of_mul_le_mul_right h1 hw
theorem flatDs_int : ∀ xs : List Int, flatDs (xs.map D.int) = some (xs.map V.int)
  | [] => rfl
  | x :: xs => by
    show (flatD (.int x)).bind (fun v => (flatDs (xs.map D.int)).map fun vs => v :: vs) = _
    rw [flatDs_int xs]; rfl
theorem inV_int {x : Int} {xs : List Int} : inV (.int x) (xs.map V.int) = decide (x ∈ xs) := by
  unfold inV
  rw [List.any_map]
  rw [Bool.eq_iff_iff, List.any_eq_true, decide_eq_true_eq]
  constructor
  · rintro ⟨y, hy, e⟩
    have e : (V.int y == V.int x) = true ∨ decide (y = x) = true ∨ (y == x) = true := by
      first | exact .inr (.inl e) | exact .inr (.inr e) | exact .inl e
    have : y = x := by
      rcases e with e | e | e
      · simpa using e
      · simpa using e
      · simpa using e
    subst this; exact hy
  · intro h
    refine ⟨x, h, ?_⟩
    first | exact decide_eq_true rfl | simp [eqV]
theorem dIn_int {x : Int} {xs : List Int} : dIn false (.int x) (.lst (xs.map .int)) = some (.val (.bl (decide (x ∈ xs)))) := by
  show ((flatD (.int x)).bind fun v => (seqD (.lst (xs.map .int))).bind fun ys => (flatDs ys).map fun us => inV v us).map (fun b => Rz.val (.bl b)) = _
  show ((flatDs (xs.map .int)).map fun us => inV (.int x) us).map (fun b => Rz.val (.bl b)) = _
  rw [flatDs_int]
  show some (Rz.val (.bl (inV (.int x) (xs.map V.int)))) = _
  rw [inV_int]
theorem gI_ups {n : Nat} {i : Int} (h0 : 0 ≤ i) (h1 : i < n) : gI (ups n) i = i := by
  have hl : (ups n).length = n := by simp [ups]
  have e := gI_getElem (vs := ups n) (i := i.toNat) (by omega)
  rw [show ((i.toNat : Nat) : Int) = i by omega] at e
  rw [e]
  simp only [ups, List.getElem_map, List.getElem_range]
  omega
structure DueOk (vs : List Int) (s : Int) (ts : List Int) : Prop where
  len : ts.length = vs.length
  near : ∀ i : Int, 0 ≤ i → i < vs.length → gI vs i * s / vs.sum ≤ gI ts i ∧ gI ts i ≤ gI vs i * s / vs.sum + 1
  more : ∀ i j : Int, 0 ≤ i → i < vs.length → 0 ≤ j → j < vs.length → gI vs j < gI vs i → gI ts j ≤ gI ts i
def keyOf (s w : Int) (vs : List Int) (i : Int) : Int := 0 - gI vs i * s % w
theorem due_seats_ok (hv : VotesOk vs) (h0 : 0 ≤ s) (h1 : s ≤ 501) : ∃ ts, F_due_seats [.tup (vs.map .int), .int s] = .ok (.val (.tup (ts.map .int))) [] ∧ DueOk vs s ts := by
  obtain ⟨w0, w1⟩ := sum_pos hv
  have l2 := hv.2.1
  refine run_of (Q := fun x => ∃ ts, x = FRes.ok (.val (.tup (List.map D.int ts))) [] ∧ DueOk vs s ts) ?_
  show (m_due_seats [some (.val (.tup (vs.map .int))), some (.val (.int s)), none, none, none, none, none, none]).sat _
  unfold m_due_seats
  wtm_at "dl_w"
  refine k_call (by rfl) (dues_of_ok hv h0 h1) (by rfl) ?_
  wtm_at "dl_w"
  refine w_compP (fun d => match d with
    | .tup [x, y] => x
    | d => d) (fun _ => true) ?_
  wtm_at "dl_w"
  refine ⟨rfl, fun j d hd => ?_, ?_⟩
  · obtain ⟨v, hm, rfl⟩ := map_get? hd
    refine ⟨_, rfl, ?_⟩
    refine w_cond0 ⟨fun _ => ⟨rfl, ?_⟩, fun e => by cases e⟩
    wtm_at "dl_w"
    exact ⟨_, rfl, rfl⟩
  have e1 : (((vs.map (dueRow s vs.sum)).filter fun _ => true).map fun d => match d with
    | .tup [x, y] => x
    | d => d) = (vs.map fun v => v * s / vs.sum).map D.int := by
    rw [filter_true, List.map_map, List.map_map]; rfl
  rw [e1]
  wtm_at "dl_bk"
  wtm_at "dl_w"
  have hlow := lows_le (w := vs.sum) w0 rfl h0
  refine w_sortRg ?_
  wtm_at "dl_w"
  rw [List.length_map]
  have hk : keysD (runDef (sRet (mTup [(mBin dSub (mC (.int 0)) (mBin dIx (mBin dIx (mVar 1) (mVar 0)) (mC (.int 1)))), (mVar 0)])) false 2) [.lst (vs.map (dueRow s vs.sum))] (rgD 0 (vs.length : Int)) = some ((ups vs.length).map fun i => (keyOf s vs.sum vs i, i)) := by
    rw [rgD_ups]
    refine keysD_map (key := fun i => (keyOf s vs.sum vs i, i)) fun x hx => ?_
    have hx := mem_ups hx
    refine run_of (Q := fun x => x = _) ?_
    show (sRet (mTup [(mBin dSub (mC (.int 0)) (mBin dIx (mBin dIx (mVar 1) (mVar 0)) (mC (.int 1)))), (mVar 0)]) [some (.val (.int x)), some (.val (.lst (vs.map (dueRow s vs.sum))))]).sat _
    wtm_at "dl_w"
    refine k_bin (by rfl) (by rfl) (dIx_lst hx.1 (by rw [List.getElem?_map, get?_gI hx.1 hx.2]; rfl)) ?_
    wtm_at "dl_w"
    rfl
  refine k_sortRg (decide_eq_true (by omega)) (by rfl) hk (sz_of (by rw [rgD_ups]; simp [ups]; omega)) ?_
  obtain ⟨ord, o1, o2, o3⟩ := order_ok (n := vs.length) (keyOf s vs.sum vs)
  rw [rgD_ups, o1]
  wtm_at "dl_w"
  refine w_comp ?_
  wtm_at "dl_w"
  have left0 : 0 ≤ s - (vs.map fun v => v * s / vs.sum).sum := by omega
  generalize hL : s - (vs.map fun v => v * s / vs.sum).sum = left at left0
  let tf : Int → Int := fun i => gI vs i * s / vs.sum + (if decide (i ∈ ord.take left.toNat) = true then 1 else 0)
  have lu : (ups vs.length).length = vs.length := by simp [ups]
  refine ⟨rfl, fun i acc δ => acc = List.map D.int ((ups i).map tf) ∧ δ = [some (.val (.tup (vs.map .int))), some (.val (.int s)), some (.val (.lst (vs.map (dueRow s vs.sum)))), some (.val (.int left)), some (.own false (ord.map .int)), none, none, none], ⟨rfl, rfl⟩, ?_, ?_⟩
  · rintro j d acc δ hd ⟨rfl, rfl⟩
    obtain ⟨x, hx, rfl⟩ := enumD_get? hd
    obtain ⟨v, hvm, rfl⟩ := map_get? hx
    refine ⟨_, rfl, w_cond0 ⟨fun _ => ?_, fun e => absurd e (by simp)⟩⟩
    wtm_at "dl_w"
    rw [cut_take left0, ← List.map_take]
    refine k_bin (by rfl) (by rfl) dIn_int ?_
    wtm_at "dl_w"
    refine ⟨_, _, rfl, ?_, rfl⟩
    rw [ups_succ, List.map_append, List.map_append]
    show _ = _ ++ [D.int (gI vs (j : Int) * s / vs.sum + _)]
    rw [gI_get? hvm]
  · rintro acc δ ⟨rfl, rfl⟩
    rw [enumD_len, List.length_map]
    wtm_at "dl_w"
    refine ⟨_, rfl, by rw [List.length_map, lu], fun i i0 i1 => ?_, fun i j i0 i1 j0 j1 hij => ?_⟩
    · rw [gI_map i0 (by rw [lu]; exact i1), gI_ups i0 i1]
      show _ ≤ gI vs i * s / vs.sum + (if decide (i ∈ ord.take left.toNat) = true then 1 else 0) ∧ gI vs i * s / vs.sum + (if decide (i ∈ ord.take left.toNat) = true then 1 else 0) ≤ _
      split <;> omega
    · rw [gI_map i0 (by rw [lu]; exact i1), gI_ups i0 i1, gI_map j0 (by rw [lu]; exact j1), gI_ups j0 j1]
      show gI vs j * s / vs.sum + (if decide (j ∈ ord.take left.toNat) = true then 1 else 0) ≤ gI vs i * s / vs.sum + (if decide (i ∈ ord.take left.toNat) = true then 1 else 0)
      have m1 : gI vs j * s ≤ gI vs i * s := Int.mul_le_mul_of_nonneg_right (by omega) h0
      have m2 : gI vs j * s / vs.sum ≤ gI vs i * s / vs.sum := Int.ediv_le_ediv w0 m1
      by_cases hj : j ∈ ord.take left.toNat
      · rw [if_pos (decide_eq_true hj)]
        by_cases hlt : gI vs j * s / vs.sum < gI vs i * s / vs.sum
        · split <;> omega
        · have heq : gI vs j * s / vs.sum = gI vs i * s / vs.sum := by omega
          by_cases hs0 : s = 0
          · exfalso
            have z : (vs.map fun v => v * s / vs.sum).sum = 0 := by
              rw [hs0]
              have : (fun v : Int => v * 0 / vs.sum) = fun _ => 0 := by funext v; rw [Int.mul_zero, Int.zero_ediv]
              rw [this]
              generalize vs = l
              induction l with
              | nil => rfl
              | cons a l ih => rw [List.map_cons, List.sum_cons, ih]; rfl
            have l0 : left.toNat = 0 := by omega
            rw [l0, List.take_zero] at hj
            cases hj
          · have m3 : gI vs j * s < gI vs i * s := Int.mul_lt_mul_of_pos_right hij (by omega)
            have d1 := Int.emod_add_mul_ediv (gI vs j * s) vs.sum
            have d2 := Int.emod_add_mul_ediv (gI vs i * s) vs.sum
            rw [heq] at d1
            have hr : keyOf s vs.sum vs i < keyOf s vs.sum vs j := by unfold keyOf; omega
            have hi : i ∈ ord := by
              refine o2.mem_iff.mpr ?_
              have := gI_mem (vs := ups vs.length) i0 (by rw [lu]; exact i1)
              rwa [gI_ups i0 i1] at this
            rw [if_pos (decide_eq_true (first_mono o3 hi hj hr)), heq]
            omega
      · rw [if_neg (by simpa using hj)]
        split <;> omega

theorem by_due_ok (hv : VotesOk vs) (h0 : 0 ≤ s) (h1 : s ≤ 500) {ts : List Int} (h : F_due_seats [.tup (vs.map .int), .int s] = .ok (.val (.tup (ts.map .int))) []) : F_by_due [.tup (vs.map .int), .int s] = .ok (.val (.tup (ts.map .int))) [] := by
  refine run_of (Q := fun x => x = _) ?_
  show (m_by_due [some (.val (.tup (vs.map .int))), some (.val (.int s))]).sat _
  unfold m_by_due
  wtm_at "dl_w"
  refine k_call (by rfl) (check_votes_ok hv h0 h1) (by rfl) ?_
  wtm_at "dl_w"
  refine k_call (by rfl) h (by rfl) ?_
  rfl
theorem filter_ups_succ {q : Int → Bool} {n : Nat} : (ups (n + 1)).filter q = (ups n).filter q ++ (if q (n : Int) = true then [(n : Int)] else []) := by
  rw [ups_succ, List.filter_append]
  cases e : q (n : Int) <;> simp [e]
theorem loses_ok (hv : VotesOk vs) (h0 : 0 ≤ s) (h1 : s ≤ 500) {ts us : List Int} (h : F_due_seats [.tup (vs.map .int), .int s] = .ok (.val (.tup (ts.map .int))) []) (h' : F_due_seats [.tup (vs.map .int), .int (s + 1)] = .ok (.val (.tup (us.map .int))) []) (l1 : ts.length = vs.length) (l2 : us.length = vs.length) :
    F_loses [.tup (vs.map .int), .int s] = .ok (.val (.tup (((ups vs.length).filter fun i => decide (gI us i < gI ts i)).map .int))) [] := by
  refine run_of (Q := fun x => x = _) ?_
  show (m_loses [some (.val (.tup (vs.map .int))), some (.val (.int s)), none, none, none, none]).sat _
  unfold m_loses
  wtm_at "dl_w"
  refine k_call (by rfl) (check_votes_ok hv h0 h1) (by rfl) ?_
  wtm_at "dl_w"
  refine k_call (by rfl) h (by rfl) ?_
  wtm_at "dl_w"
  refine k_call (by rfl) h' (by rfl) ?_
  wtm_at "dl_w"
  refine w_comp ?_
  wtm_at "dl_w"
  refine ⟨rfl, fun i acc δ => acc = List.map D.int ((ups i).filter fun i => decide (gI us i < gI ts i)) ∧ δ = [some (.val (.tup (vs.map .int))), some (.val (.int s)), some (.val (.tup (ts.map .int))), some (.val (.tup (us.map .int))), none, none], ⟨rfl, rfl⟩, ?_, ?_⟩
  · rintro j d acc δ hd ⟨rfl, rfl⟩
    obtain ⟨hj, rfl⟩ := enumI_get? hd
    refine ⟨_, rfl, w_cond1 ?_⟩
    wtm_at "dl_sl"
    wtm_at "dl_w"
    refine ⟨fun e => ?_, fun e => ?_⟩
    · have e : decide (gI us (j : Int) < gI ts (j : Int)) = true := by simpa using e
      wtm_at "dl_w"
      refine ⟨_, _, rfl, ?_, rfl⟩
      rw [filter_ups_succ, if_pos e, List.map_append]
      rfl
    · have e : decide (gI us (j : Int) < gI ts (j : Int)) = false := by simpa using e
      refine ⟨?_, rfl⟩
      rw [filter_ups_succ, if_neg (by rw [e]; exact Bool.false_ne_true), List.append_nil]
  · rintro acc δ ⟨rfl, rfl⟩
    rw [enumD_len, List.length_map, l1]
    wtm_at "dl_w"
    rfl
end
end K52
namespace K52
open PySem PySem.Spec PyProof.Rows L2 DL
local macro_rules | `(tactic| wtm_at "dl_gv") => `(tactic| first | (with_reducible first | exact gv_0 | exact gv_1 | exact gv_2 | exact gv_3 | exact gv_4 | exact gv_5 | exact gv_6 | exact gv_7 | exact gv_8) | rfl)
local macro_rules | `(tactic| wtm_at "dl_vw") => `(tactic| first | (with_reducible first | exact vw_0 | exact vw_1 | exact vw_2 | exact vw_3 | exact vw_4 | exact vw_5 | exact vw_6 | exact vw_7 | exact vw_8) | rfl)
local macro_rules | `(tactic| wtm_at "dl_sl") => `(tactic| try simp only [List.set_cons_zero, List.set_cons_succ])
local macro_rules | `(tactic| wtm_at "dl_bk") => `(tactic| simp only [backE, wipeE, List.getElem?_cons_zero, List.getElem?_cons_succ, Option.getD_some, List.set_cons_zero, List.set_cons_succ])
local macro_rules | `(tactic| wtm_at "dl_ge") => `(tactic| first | exact Int.le_of_lt (by assumption) | assumption)
local macro_rules | `(tactic| wtm_at "dl_f2") => `(tactic| first
  | (with_reducible first | exact dAdd_i | exact dSub_i | exact dLt_i | exact dLe_i | exact dGt_i | exact dGe_i | exact dEq_i | exact dNe_i | exact dEq_s | exact dNe_s | exact dEq_lI | exact dNe_lI | exact dEq_tI | exact dNe_tI | exact dEq_l0 | exact dNe_l0 | exact dEq_bb | exact dIx_tupI (by omega) (by omega) | exact dIx_lstI (by omega) (by omega) | exact dMul_100 (by omega) (by omega) | exact dMod_ok (by omega) | exact dFdv_ok (divOk_of (by omega) (by omega)) | fail))
local macro_rules | `(tactic| wtm_at "dl_f1") => `(tactic| with_reducible first | exact dIsi_tt | exact dIsi_tl | exact dIsi_ti | exact dIsi_tn | exact dIsi_ts | exact dIsi_ii | exact dIsi_is | exact dIsi_in | exact dIsi_it | exact dIsi_il | exact dIsi_bi | exact dIsi_ss | exact dIsi_si | exact dIsi_sn | exact dIsi_st | fail)
local macro_rules | `(tactic| wtm_at "dl_fc") => `(tactic| first | exact dLen_tI | exact dLen_lI | exact sumA_tup _ | exact sumA_lst _ | rfl)
local macro_rules | `(tactic| wtm_at "dl_e") => `(tactic| first
  | with_reducible refine w_c ?_
  | ((with_reducible refine' w_val ?e ?_); (case e => rfl))
  | ((with_reducible refine' w_own ?e ?_); (case e => rfl))
  | with_reducible refine w_bin ?_ | with_reducible refine w_un ?_ | with_reducible refine w_if ?_ | with_reducible refine w_and ?_ | with_reducible refine w_or ?_ | with_reducible refine w_not ?_ | with_reducible refine w_chain ?_
  | with_reducible refine w_acons ?_ | with_reducible refine w_anil ?_ | with_reducible refine w_tup ?_ | with_reducible refine w_lst ?_ | with_reducible refine w_cb ?_ | with_reducible refine w_sl ?_ | with_reducible refine w_part0 ?_ | with_reducible refine w_part1 ?_ | with_reducible refine w_slEnd ?_
  | with_reducible refine w_call ?_ | with_reducible refine w_callp ?_ | with_reducible refine w_app ?_ | with_reducible refine w_listRg ?_ | with_reducible refine w_dget ?_
  | with_reducible refine w_iVal ?_ | with_reducible refine w_iRange1 ?_ | with_reducible refine w_iRange2 ?_ | with_reducible refine w_iEnum1 ?_ | with_reducible refine w_iZip2 ?_ | with_reducible refine w_rg ?_
  | with_reducible refine w_seq ?_ | with_reducible refine w_set ?_ | with_reducible refine w_par ?_ | with_reducible refine w_asgT ?_ | with_reducible refine w_setIx ?_ | with_reducible refine w_expr ?_ | with_reducible refine w_ret ?_ | with_reducible refine w_next ?_ | with_reducible refine w_sif ?_
  | ((with_reducible refine' k_bin ?e1 ?e2 ?e3 ?_); (case e1 => rfl); (case e2 => rfl); (case e3 => wtm_at "dl_f2"))
  | ((with_reducible refine' k_bin (f := dIx) ?e1 ?e2 ?e3 ?_); (case e1 => rfl); (case e2 => rfl); (case e3 => rfl))
  | ((with_reducible refine' k_bin (f := dIn _) ?e1 ?e2 ?e3 ?_); (case e1 => rfl); (case e2 => rfl); (case e3 => rfl))
  | ((with_reducible refine' k_bin (f := dIs _) ?e1 ?e2 ?e3 ?_); (case e1 => rfl); (case e2 => rfl); (case e3 => rfl))
  | ((with_reducible refine' k_bin (f := dEq) ?e1 ?e2 ?e3 ?_); (case e1 => rfl); (case e2 => rfl); (case e3 => rfl))
  | ((with_reducible refine' k_bin (f := dNe) ?e1 ?e2 ?e3 ?_); (case e1 => rfl); (case e2 => rfl); (case e3 => rfl))
  | ((with_reducible refine' k_bin (f := dAdd) ?e1 ?e2 ?e3 ?_); (case e1 => rfl); (case e2 => rfl); (case e3 => rfl))
  | ((with_reducible refine' k_un ?e1 ?e2 ?_); (case e1 => rfl); (case e2 => wtm_at "dl_f1"))
  | with_reducible refine k_bool ?_ | with_reducible refine k_int ?_
  | ((with_reducible refine' k_ch ?e1 ?e2 ?e3 ?_); (case e1 => rfl); (case e2 => rfl); (case e3 => wtm_at "dl_f2"))
  | ((with_reducible refine' k_arg ?e1 ?_); (case e1 => rfl))
  | ((with_reducible refine' k_give ?e1 ?e2 ?_); (case e1 => wtm_at "dl_gv"); (case e2 => rfl))
  | ((with_reducible refine' k_give1 ?e1 ?_); (case e1 => rfl))
  | ((with_reducible refine' k_gives ?e1 ?_); (case e1 => wtm_at "dl_gv"))
  | ((with_reducible refine' k_cb ?e1 ?e2 ?_); (case e1 => wtm_at "dl_vw"); (case e2 => wtm_at "dl_fc"))
  | ((with_reducible refine' k_sl ?e1 ?e2 ?_); (case e1 => rfl); (case e2 => rfl))
  | ((with_reducible refine' k_own ?e1 ?_); (case e1 => rfl))
  | ((with_reducible refine' k_seq ?e1 ?_); (case e1 => rfl))
  | with_reducible refine k_rg1 ?_ | with_reducible refine k_rg2 ?_
  | with_reducible refine k_rg (by omega) (by omega) (by omega) (by omega) (by omega) ?_
  | ((with_reducible refine' k_en ?e1 ?e2 ?_); (case e1 => wtm_at "dl_gv"); (case e2 => rfl))
  | ((with_reducible refine' k_zp ?e1 ?e2 ?e3 ?_); (case e1 => wtm_at "dl_gv"); (case e2 => rfl); (case e3 => rfl))
  | ((with_reducible refine' k_set ?e1 ?_); (case e1 => first | rfl | exact setV_ov rfl | exact setF_ov rfl); (wtm_at "dl_sl"))
  | ((with_reducible refine' k_par ?e1 ?_); (case e1 => first | rfl | exact setPar_ov (by decide) rfl rfl); (wtm_at "dl_sl"))
  | ((with_reducible refine' k_asg ?e1 ?e2 ?_); (case e1 => rfl); (case e2 => first | rfl | exact tg2_ov (by decide) rfl rfl); (wtm_at "dl_sl"))
  | with_reducible refine k_t ?_ | with_reducible refine k_f ?_ | with_reducible refine k_nt ?_ | with_reducible refine k_nf ?_
  | with_reducible refine k_decT (by omega) ?_ | with_reducible refine k_decF (by omega) ?_ | with_reducible refine k_decN (by omega) ?_ | with_reducible refine k_decM (by omega) ?_ | with_reducible refine k_bt (by decide) ?_ | with_reducible refine k_bf (by decide) ?_)
local macro_rules | `(tactic| wtm_at "dl_w") => `(tactic| repeat (wtm_at "dl_e"))
section
variable {k : Str} {vs fs xs : List Int} {s : Int}
theorem zipI_get? {xs ys : List Int} {j : Nat} {d : D} (h : (zipD (xs.map .int) (ys.map .int))[j]? = some d) : j < xs.length ∧ j < ys.length ∧ d = .tup [.int (gI xs (j : Int)), .int (gI ys (j : Int))] := by
  unfold zipD at h
  rw [List.getElem?_map] at h
  obtain ⟨p, e1, rfl⟩ := Option.map_eq_some_iff.mp h
  obtain ⟨e2, e3⟩ := List.getElem?_zip_eq_some.mp e1
  obtain ⟨x, h1, h2⟩ := map_get? e2
  obtain ⟨y, h3, h4⟩ := map_get? e3
  refine ⟨(List.getElem?_eq_some_iff.mp h1).1, (List.getElem?_eq_some_iff.mp h3).1, ?_⟩
  rw [gI_get? h1, gI_get? h3, h2, h4]
theorem powOk_9 : powOk 10 9 = true := by unfold powOk; decide
theorem law_right_ok {n : Int} {pot : List D} (hp : PotOk n pot) (hn : n < 2 ^ 58) : ∃ pot', F__law_right [.lst pot] = .ok (.val (.bl true)) pot' ∧ PotOk (n + 20000) pot' := by
  refine run_of (Q := fun x => ∃ pot', x = FRes.ok (.val (.bl true)) pot' ∧ PotOk (n + 20000) pot') ?_
  show (m__law_right [some (.own true pot), none, none, none, none, none, none, none, none, none, none, none, none, none]).sat _
  unfold m__law_right
  wtm_at "dl_w"
  refine k_bin (by rfl) (by rfl) (dPow_ok powOk_9) ?_
  wtm_at "dl_w"
  obtain ⟨i, d, pot1, e1, h1, hp1⟩ := of_ok.lst (ds := [.int 9, .int 200, .int (10 ^ (9 : Int).toNat)]) hp (by omega) (by decide) (by decide)
  have hu : ∃ u : Int, d = .int u ∧ 0 < u ∧ u ≤ 1000000000 := by
    match i, e1 with
    | 0, e => cases e; exact ⟨9, rfl, by decide, by decide⟩
    | 1, e => cases e; exact ⟨200, rfl, by decide, by decide⟩
    | 2, e => cases e; exact ⟨_, rfl, by decide, by decide⟩
  obtain ⟨u, rfl, u0, u1⟩ := hu
  refine k_callp (by rfl) (by rfl) (by rfl) h1 hp1.okLs (by rfl) ?_
  wtm_at "dl_w"
  obtain ⟨r, pot2, r0, r1, h2, hp2⟩ := take_ok.go hp1 (by omega) (u := 11) (by decide) (by decide)
  refine k_callp (by rfl) (by rfl) (by rfl) h2 hp2.okLs (by rfl) ?_
  wtm_at "dl_w"
  refine w_comp ?_
  wtm_at "dl_w"
  refine ⟨rfl, fun i acc δ => ∃ pot xs, acc = List.map D.int xs ∧ xs.length = i ∧ (∀ x ∈ xs, 1 ≤ x ∧ x ≤ 1000000000) ∧ PotOk (n + 2 + (i : Int)) pot ∧ δ = [some (.own true pot), some (.val (.int u)), some (.val (.int (2 + r))), none, none, none, none, none, none, none, none, none, none, none], ⟨pot2, [], rfl, rfl, fun x hx => absurd hx (by simp), hp2.mono (by omega), rfl⟩, ?_, ?_⟩
  · rintro j d acc δ hd ⟨pot, xs, rfl, hl, hx, hp, rfl⟩
    obtain ⟨hj, rfl⟩ := rangeD_get? hd
    refine ⟨_, rfl, w_cond0 ⟨fun _ => ?_, fun e => absurd e (by simp)⟩⟩
    obtain ⟨q, pot', q0, q1, hq, hp'⟩ := take_ok.go hp (by omega) u0 (by omega)
    wtm_at "dl_w"
    refine k_callp (by rfl) (by rfl) (by rfl) hq hp'.okLs (by rfl) ?_
    wtm_at "dl_w"
    refine ⟨_, _, rfl, pot', xs ++ [1 + q], by rw [List.map_append]; rfl, by rw [List.length_append, hl]; rfl, fun x hx' => ?_, hp'.mono (by omega), rfl⟩
    rcases List.mem_append.mp hx' with h | h
    · exact hx x h
    · have : x = 1 + q := by simpa using h
      omega
  rintro acc δ ⟨pot, vs, rfl, hl, hx, hp, rfl⟩
  rw [rangeD_len] at hl hp
  have hv : VotesOk vs := ⟨by omega, by omega, hx⟩
  have l2 := hv.2.1
  have lm : 2 + r = (vs.length : Int) := by omega
  rw [lm]
  wtm_at "dl_bk"
  wtm_at "dl_w"
  refine w_for ?_
  wtm_at "dl_w"
  refine ⟨fun i δ => ∃ pot o4, δ = [some (.own true pot), some (.val (.int u)), some (.val (.int (vs.length : Int))), some (.val (.tup (vs.map .int))), ov o4, none, none, none, none, none, none, none, none, none] ∧ PotOk (n + 100 + 5100 * (i : Int)) pot, ⟨pot, none, rfl, hp.mono (by omega)⟩, ?_, ?_⟩
  · rintro j d δ hd ⟨pot, o4, rfl, hp⟩
    have hk : ∃ k : Str, d = .str k ∧ isKind k := by
      match j, hd with
      | 0, e => cases e; exact ⟨_, rfl, .inl rfl⟩
      | 1, e => cases e; exact ⟨_, rfl, .inr (.inl rfl)⟩
      | 2, e => cases e; exact ⟨_, rfl, .inr (.inr rfl)⟩
    have hj : j < 3 := (List.getElem?_eq_some_iff.mp hd).1
    obtain ⟨k, rfl, hk⟩ := hk
    refine ⟨_, tg_ov rfl, ?_⟩
    wtm_at "dl_sl"
    wtm_at "dl_w"
    obtain ⟨i, d, pot1, e1, h1, hp1⟩ := of_ok.lst (ds := [.int 3, .int 20, .int 120]) hp (by omega) (by decide) (by decide)
    have hu : ∃ m : Int, d = .int m ∧ 0 ≤ m ∧ m ≤ 120 := by
      match i, e1 with
      | 0, e => cases e; exact ⟨3, rfl, by decide, by decide⟩
      | 1, e => cases e; exact ⟨20, rfl, by decide, by decide⟩
      | 2, e => cases e; exact ⟨120, rfl, by decide, by decide⟩
    obtain ⟨m, rfl, m0, m1⟩ := hu
    refine k_callp (by rfl) (by rfl) (by rfl) h1 hp1.okLs (by rfl) ?_
    wtm_at "dl_w"
    obtain ⟨pot', h3, hp3⟩ := kind_right_ok hv hk hp1 (by omega) m0 m1
    refine k_callp (by rfl) (by rfl) (by rfl) h3 hp3.okLs (by rfl) ?_
    wtm_at "dl_w"
    exact ⟨pot', some (.str k), rfl, hp3.mono (by omega)⟩
  rintro δ ⟨pot, o4, rfl, hp⟩
  have hp : PotOk (n + 15400) pot := hp.mono (by show _ + 5100 * (3 : Int) ≤ _; omega)
  wtm_at "dl_w"
  refine w_for ?_
  wtm_at "dl_w"
  refine ⟨fun i δ => ∃ pot o5 o6 o7 o8 o9 o10 o11 o12 o13, δ = [some (.own true pot), some (.val (.int u)), some (.val (.int (vs.length : Int))), some (.val (.tup (vs.map .int))), ov o4, ov o5, ov o6, ov o7, ov o8, ov o9, ov o10, ov o11, ov o12, ov o13] ∧ PotOk (n + 15400 + (i : Int)) pot, ⟨pot, none, none, none, none, none, none, none, none, none, rfl, hp.mono (by omega)⟩, ?_, ?_⟩
  · rintro j d δ hd ⟨pot, o5, o6, o7, o8, o9, o10, o11, o12, o13, rfl, hp⟩
    obtain ⟨hj, rfl⟩ := rangeD_get? hd
    refine ⟨_, tg_ov rfl, ?_⟩
    obtain ⟨s, pot', s0, s1, hs, hp'⟩ := take_ok.go hp (by omega) (u := 60) (by decide) (by decide)
    obtain ⟨ts, ht, dt⟩ := due_seats_ok (s := s) hv s0 (by omega)
    obtain ⟨us, hu, du⟩ := due_seats_ok (s := s + 1) hv (by omega) (by omega)
    have lt := dt.len
    have lu := du.len
    wtm_at "dl_sl"
    wtm_at "dl_w"
    refine k_callp (by rfl) (by rfl) (by rfl) hs hp'.okLs (by rfl) ?_
    wtm_at "dl_w"
    refine k_call (by rfl) (by_due_ok hv s0 (by omega) ht) (by rfl) ?_
    wtm_at "dl_w"
    refine k_call (by rfl) (by_due_ok hv (by omega) (by omega) hu) (by rfl) ?_
    wtm_at "dl_w"
    refine w_for ?_
    wtm_at "dl_w"
    refine ⟨fun i δ => ∃ o9 o10 o12 o13, δ = [some (.own true pot'), some (.val (.int u)), some (.val (.int (vs.length : Int))), some (.val (.tup (vs.map .int))), ov o4, some (.val (.int (0 + (j : Int)))), some (.val (.int s)), some (.val (.tup (ts.map .int))), some (.val (.tup (us.map .int))), ov o9, ov o10, ov o11, ov o12, ov o13], ⟨o9, o10, o12, o13, rfl⟩, ?_, ?_⟩
    · rintro i d δ hd ⟨o9, o10, o12, o13, rfl⟩
      obtain ⟨hi, rfl⟩ := enumI_get? hd
      refine ⟨_, tg2_ov (by decide) rfl rfl, ?_⟩
      wtm_at "dl_sl"
      wtm_at "dl_w"
      refine w_compP (fun _ => .bl false) (fun _ => true) ?_
      wtm_at "dl_w"
      refine ⟨noOwn_ov rfl (noOwn_ov rfl noOwn_nil), fun i' d hd' => ?_, ?_⟩
      · obtain ⟨hi', rfl⟩ := enumI_get? hd'
        refine ⟨_, rfl, ?_⟩
        refine w_cond0 ⟨fun _ => ⟨rfl, ?_⟩, fun e => absurd e (by simp)⟩
        wtm_at "dl_w"
        refine k_dec (fun e => ?_) (fun e => ?_)
        · wtm_at "dl_w"
          have := dt.more (i : Int) (i' : Int) (by omega) (by omega) (by omega) (by omega) e
          rw [decide_eq_false (by omega)]
          exact ⟨_, rfl, rfl⟩
        · exact ⟨_, rfl, rfl⟩
      · rw [filter_true]
        wtm_at "dl_bk"
        wtm_at "dl_w"
        refine k_cb (by rfl) any_false ?_
        wtm_at "dl_w"
        exact ⟨some _, some _, o12, o13, rfl⟩
    rintro δ ⟨o9, o10, o12, o13, rfl⟩
    wtm_at "dl_w"
    refine k_call (by rfl) (loses_ok hv s0 (by omega) ht hu lt lu) (by rfl) ?_
    wtm_at "dl_w"
    refine w_comp ?_
    wtm_at "dl_w"
    refine ⟨noOwn_ov rfl noOwn_nil, fun i acc δ => acc = List.map D.int ((ups i).filter fun i => decide (gI us i < gI ts i)) ∧ δ = [some (.own true pot'), some (.val (.int u)), some (.val (.int (vs.length : Int))), some (.val (.tup (vs.map .int))), ov o4, some (.val (.int (0 + (j : Int)))), some (.val (.int s)), some (.val (.tup (ts.map .int))), some (.val (.tup (us.map .int))), none, ov o10, ov o11, ov o12, ov o13], ⟨rfl, rfl⟩, ?_, ?_⟩
    · rintro i d acc δ hd ⟨rfl, rfl⟩
      obtain ⟨hi, rfl⟩ := range0_get? hd
      refine ⟨_, rfl, w_cond1 ?_⟩
      wtm_at "dl_sl"
      wtm_at "dl_w"
      refine ⟨fun e => ?_, fun e => ?_⟩
      · have e : decide (gI us (i : Int) < gI ts (i : Int)) = true := by simpa using e
        wtm_at "dl_w"
        refine ⟨_, _, rfl, ?_, rfl⟩
        rw [filter_ups_succ, if_pos e, List.map_append]
        rfl
      · have e : decide (gI us (i : Int) < gI ts (i : Int)) = false := by simpa using e
        refine ⟨?_, rfl⟩
        rw [filter_ups_succ, if_neg (by rw [e]; exact Bool.false_ne_true), List.append_nil]
    rintro acc δ ⟨rfl, rfl⟩
    rw [rangeD_len, show ((vs.length : Int) - 0).toNat = vs.length by omega]
    wtm_at "dl_bk"
    wtm_at "dl_w"
    refine k_decN rfl ?_
    obtain ⟨w0, w1⟩ := sum_pos hv
    wtm_at "dl_w"
    refine w_compP (fun _ => .bl true) (fun _ => true) ?_
    wtm_at "dl_w"
    refine ⟨noOwn_ov rfl (noOwn_ov rfl noOwn_nil), fun i' d hd' => ?_, ?_⟩
    · obtain ⟨hi1, hi2, rfl⟩ := zipI_get? hd'
      refine ⟨_, rfl, ?_⟩
      refine w_cond0 ⟨fun _ => ⟨rfl, ?_⟩, fun e => absurd e (by simp)⟩
      have hvi := hv.at (i := (i' : Int)) (by omega) (by omega)
      have hd := dt.near (i' : Int) (by omega) (by omega)
      wtm_at "dl_w"
      rw [decide_eq_true hd.2]
      exact ⟨_, rfl, rfl⟩
    · rw [filter_true]
      wtm_at "dl_bk"
      wtm_at "dl_w"
      refine k_cb (by rfl) all_true ?_
      wtm_at "dl_w"
      exact ⟨pot', some _, some _, some _, some _, o9, o10, some _, o12, o13, rfl, hp'.mono (by omega)⟩
  · rintro δ ⟨pot, o5, o6, o7, o8, o9, o10, o11, o12, o13, rfl, hp⟩
    rw [rangeD_len] at hp
    wtm_at "dl_w"
    exact ⟨pot, rfl, hp.mono (by omega)⟩

theorem plain (ns : List Int) (h : ns.length ≤ 63) (hb : ∀ z ∈ ns, Builtin.Int.intBits z ≤ 1048576) : F_law [.scr ns] = .ok (.val (.bl true)) [] := by
  refine run_of (Q := fun x => x = _) ?_
  show (m_law [some (.val (.scr ns)), none, none, none]).sat _
  unfold m_law
  obtain ⟨m, m1, m2, hm⟩ := cells_ok (ns := ns)
  refine w_seq (w_for ?_)
  wtm_at "dl_w"
  refine k_call (by rfl) hm (by rfl) ?_
  wtm_at "dl_w"
  refine ⟨fun i δ => ∃ o1 o2 o3, δ = [some (.val (.scr ns)), ov o1, o2, ov o3] ∧ (∀ ds, o2 ≠ some (.own true ds)), ⟨none, none, none, rfl, fun ds e => by cases e⟩, ?_, ?_⟩
  · rintro j d δ hd ⟨o1, o2, o3, rfl, ho⟩
    have hj : ∃ p : Int, d = .int p ∧ 0 ≤ p ∧ p < 2 := by
      unfold rgD at hd
      rw [List.getElem?_map] at hd
      obtain ⟨i, e1, e2⟩ := Option.map_eq_some_iff.mp hd
      have hi := List.mem_range.mp (List.mem_of_getElem? e1)
      exact ⟨_, e2.symm, by omega, by omega⟩
    obtain ⟨p, rfl, p0, p1⟩ := hj
    obtain ⟨pot, hpot, hp⟩ := pot_ok (ns := ns) (pl := p) p0 (by omega)
    refine ⟨_, tg_ov rfl, ?_⟩
    wtm_at "dl_sl"
    wtm_at "dl_w"
    refine k_call (by rfl) hpot (by rfl) ?_
    refine k_set (setF_nt rfl ho) ?_
    wtm_at "dl_sl"
    wtm_at "dl_w"
    refine w_comp ?_
    wtm_at "dl_w"
    refine ⟨noOwn_ov rfl noOwn_nil, fun i acc δ => ∃ pot, acc = List.map (fun _ => D.bl true) (ups i) ∧ PotOk (20000 * (i : Int)) pot ∧ δ = [some (.val (.scr ns)), some (.val (.int p)), some (.own false pot), none], ⟨pot, rfl, hp.mono (by omega), rfl⟩, ?_, ?_⟩
    · rintro i d acc δ hd ⟨pot, rfl, hp, rfl⟩
      obtain ⟨hi, rfl⟩ := range0_get? hd
      have hi : i < 2 := hi
      refine ⟨_, rfl, w_cond0 ⟨fun _ => ?_, fun e => absurd e (by simp)⟩⟩
      obtain ⟨pot', h3, hp3⟩ := law_right_ok hp (by omega)
      wtm_at "dl_w"
      refine k_callp (by rfl) (by rfl) (by rfl) h3 hp3.okLs (by rfl) ?_
      refine ⟨_, _, rfl, pot', ?_, hp3.mono (by omega), rfl⟩
      rw [ups_succ, List.map_append]; rfl
    · rintro acc δ ⟨pot, rfl, hp, rfl⟩
      wtm_at "dl_bk"
      wtm_at "dl_w"
      exact ⟨some _, _, o3, rfl, fun ds e => by cases e⟩
  · rintro δ ⟨o1, o2, o3, rfl, ho⟩
    wtm_at "dl_w"
    rfl
end
end K52
namespace K52
open PySem PySem.Spec PyProof.Rows L2 LamX NdefX DL
end K52
open PySem PySem.W PyProof.Rows
set_option maxRecDepth 100000 in
set_option maxHeartbeats 0 in
theorem PySem.Challenge.cw_enoughvoices_k52_whole_seats_of_fewer_an_holds : PySem.Challenge.rw_enoughvoices_k52_whole_seats_of_fewer_an.Holds := by
  w_on; o_law; k_head; (case hw => w_witness2)
  k_fill
  refine LamX.walk_ofTs (l := PySem.Challenge.rw_enoughvoices_k52_whole_seats_of_fewer_an) (n := 63) (k := 8) (x := "script") (CX := fun w => L2.CX (PySem.Challenge.rw_enoughvoices_k52_whole_seats_of_fewer_an).prog w) rfl (by decide) rfl ⟨rfl, by decide, by decide⟩ (fun w h Y => PySem.W.km_in_of Y) ?F (fun _ _ _ _ _ z => DL.noCX z)
  case F =>
    intro w mg fa h Y KX G hmg
    refine' K52.all_mk KX G hmg ?a0 ?l0 ?c0 ?k0 ?a1 ?l1 ?c1 ?k1 ?a2 ?l2 ?c2 ?k2 ?a3 ?l3 ?c3 ?k3 ?a4 ?l4 ?c4 ?k4 ?a5 ?l5 ?c5 ?k5 ?a6 ?l6 ?c6 ?k6 ?a7 ?l7 ?c7 ?k7 ?a8 ?l8 ?c8 ?k8 ?a9 ?l9 ?c9 ?k9 ?a10 ?l10 ?c10 ?k10 ?a11 ?l11 ?c11 ?k11 ?a12 ?l12 ?c12 ?k12 ?a13 ?l13 ?c13 ?k13 ?a14 ?l14 ?c14 ?k14 ?a15 ?l15 ?c15 ?k15 ?a16 ?l16 ?c16 ?k16 ?a17 ?l17 ?c17 ?k17 ?a18 ?l18 ?c18 ?k18 ?a19 ?l19 ?c19 ?k19 ?a20 ?l20 ?c20 ?k20 ?z0 ?z1 ?z2 ?z3 ?z4 ?z5 ?z6 ?z7 ?z8 ?z9 ?z10 ?z11 ?z12 ?z13 ?z14 ?z15 ?z16 ?w0 ?w1 ?w2 ?w3 ?w4 ?w5 (PySem.W.km_tabs_of Y _ List.mem_cons_self) ?e0 ?t0 ?n0 K52.plain
    (case a0 => k_is)
    (case l0 => k_is)
    (case c0 => k_is)
    (case k0 => k_is)
    (case a1 => k_is)
    (case l1 => k_is)
    (case c1 => k_is)
    (case k1 => k_is)
    (case a2 => k_is)
    (case l2 => k_is)
    (case c2 => k_is)
    (case k2 => k_is)
    (case a3 => k_is)
    (case l3 => k_is)
    (case c3 => k_is)
    (case k3 => k_is)
    (case a4 => k_is)
    (case l4 => k_is)
    (case c4 => k_is)
    (case k4 => k_is)
    (case a5 => k_is)
    (case l5 => k_is)
    (case c5 => k_is)
    (case k5 => k_is)
    (case a6 => k_is)
    (case l6 => k_is)
    (case c6 => k_is)
    (case k6 => k_is)
    (case a7 => k_is)
    (case l7 => k_is)
    (case c7 => k_is)
    (case k7 => k_is)
    (case a8 => k_is)
    (case l8 => k_is)
    (case c8 => k_is)
    (case k8 => k_is)
    (case a9 => k_is)
    (case l9 => k_is)
    (case c9 => k_is)
    (case k9 => k_is)
    (case a10 => k_is)
    (case l10 => k_is)
    (case c10 => k_is)
    (case k10 => k_is)
    (case a11 => k_is)
    (case l11 => k_is)
    (case c11 => k_is)
    (case k11 => k_is)
    (case a12 => k_is)
    (case l12 => k_is)
    (case c12 => k_is)
    (case k12 => k_is)
    (case a13 => k_is)
    (case l13 => k_is)
    (case c13 => k_is)
    (case k13 => k_is)
    (case a14 => k_is)
    (case l14 => k_is)
    (case c14 => k_is)
    (case k14 => k_is)
    (case a15 => k_is)
    (case l15 => k_is)
    (case c15 => k_is)
    (case k15 => k_is)
    (case a16 => k_is)
    (case l16 => k_is)
    (case c16 => k_is)
    (case k16 => k_is)
    (case a17 => k_is)
    (case l17 => k_is)
    (case c17 => k_is)
    (case k17 => k_is)
    (case a18 => k_is)
    (case l18 => k_is)
    (case c18 => k_is)
    (case k18 => k_is)
    (case a19 => k_is)
    (case l19 => k_is)
    (case c19 => k_is)
    (case k19 => k_is)
    (case a20 => k_is)
    (case l20 => k_is)
    (case c20 => k_is)
    (case k20 => k_is)
    (case z0 => k_is)
    (case z1 => k_is)
    (case z2 => k_is)
    (case z3 => k_is)
    (case z4 => k_is)
    (case z5 => k_is)
    (case z6 => k_is)
    (case z7 => k_is)
    (case z8 => k_is)
    (case z9 => k_is)
    (case z10 => k_is)
    (case z11 => k_is)
    (case z12 => k_is)
    (case z13 => k_is)
    (case z14 => k_is)
    (case z15 => k_is)
    (case z16 => k_is)
    (case w0 => k_is)
    (case w1 => k_is)
    (case w2 => k_is)
    (case w3 => k_is)
    (case w4 => k_is)
    (case w5 => k_is)
    (case e0 => rfl)
    (case t0 => first | kernel_rfl | rfl | k_is)
    (case n0 => first | kernel_rfl | rfl | k_is)
#print axioms PySem.Challenge.cw_enoughvoices_k52_whole_seats_of_fewer_an_holds
